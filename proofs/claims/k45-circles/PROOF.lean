import PyProof.Rows.All
import Wide.All
import OpenK.AllK
import Wide.FinOn
import HandS.ForMost
import HandS.Deep
import HandS.Gcd
import HandS.NoneIn
import HandS.TupLe
import HandS.TupAny
import HandS.Star
import HandS.Zip
import HandS.Walk
import KE.GoesEnum
import KE.GoesMore
import Flt.RightSqrt
import PySem.Challenge.RW_fourtouch_k45_whole_circles_of_the_heap
set_option Elab.async false
set_option linter.all false
/-! The plain law: circles of a heap, told by their coordinates. -/
namespace K45
structure Cir where
  b : Int
  c : Int
  x : Int
  y : Int
  deriving DecidableEq
/-- twice the product -/
def dbl (u v : Cir) : Int := 2 * (u.x * v.x + u.y * v.y) - (u.b * v.c + v.b * u.c)
def nrm (u : Cir) : Int := u.x * u.x + u.y * u.y - u.b * u.c
def outw (u v : Cir) : Prop := u.b + v.b > 0 ∨ (u.b + v.b = 0 ∧ u.c + v.c > 0)
instance (u v : Cir) : Decidable (outw u v) := inferInstanceAs (Decidable (_ ∨ _))
/-- the other circle that touches three -/
def exc (p q r v : Cir) : Cir := ⟨2 * (p.b + q.b + r.b) - v.b, 2 * (p.c + q.c + r.c) - v.c, 2 * (p.x + q.x + r.x) - v.x, 2 * (p.y + q.y + r.y) - v.y⟩
def exch : List Cir → Nat → List Cir
  | [a, b, c, d], 0 => [exc b c d a, b, c, d]
  | [a, b, c, d], 1 => [a, exc a c d b, c, d]
  | [a, b, c, d], 2 => [a, b, exc a b d c, d]
  | [a, b, c, d], _ => [a, b, c, exc a b c d]
  | l, _ => l
def addC (found : List Cir) (c : Cir) : List Cir := if c ∈ found then found else found ++ [c]
def longer (fs : List (List Cir)) : List (List Cir) := fs.flatMap fun f => [exch f 0, exch f 1, exch f 2, exch f 3]
def growC (found : List Cir) (fs : List (List Cir)) : List Cir := fs.foldl (fun fd f => f.foldl addC fd) found
def lv (cs : List Cir) : Nat → List (List Cir)
  | 0 => [cs]
  | n + 1 => longer (lv cs n)
def fnd (cs : List Cir) : Nat → List Cir
  | 0 => cs
  | n + 1 => growC (fnd cs n) (lv cs (n + 1))
def madeC (v u1 u2 u3 : Cir) (p q : Int) : Cir :=
  ⟨(v.b + u1.b) * p * p + (u3.b - v.b - u1.b - u2.b) * p * q + (v.b + u2.b) * q * q - v.b,
   (v.c + u1.c) * p * p + (u3.c - v.c - u1.c - u2.c) * p * q + (v.c + u2.c) * q * q - v.c,
   (v.x + u1.x) * p * p + (u3.x - v.x - u1.x - u2.x) * p * q + (v.x + u2.x) * q * q - v.x,
   (v.y + u1.y) * p * p + (u3.y - v.y - u1.y - u2.y) * p * q + (v.y + u2.y) * q * q - v.y⟩
def told (p q : Int) : Int × Int := if p > 0 ∨ (p = 0 ∧ q > 0) then (p, q) else (-p, -q)
def sqUp (n : Nat) : Nat → Nat → Nat
  | 0, k => k
  | f + 1, k => if (k + 1) * (k + 1) ≤ n then sqUp n f (k + 1) else k
def sq (n : Nat) : Nat := sqUp n n 0
theorem sqUp_spec (n : Nat) : ∀ f k, k * k ≤ n → n < (k + f + 1) * (k + f + 1) → sqUp n f k * sqUp n f k ≤ n ∧ n < (sqUp n f k + 1) * (sqUp n f k + 1)
  | 0, k, h, h' => ⟨h, h'⟩
  | f + 1, k, h, h' => by
    simp only [sqUp]
    split
    · rename_i q
      exact sqUp_spec n f (k + 1) q (by have e : k + 1 + f + 1 = k + (f + 1) + 1 := by omega
                                        rw [e]; exact h')
    · rename_i q
      exact ⟨h, by omega⟩
theorem sq_spec (n : Nat) : sq n * sq n ≤ n ∧ n < (sq n + 1) * (sq n + 1) := by
  refine sqUp_spec n n 0 (Nat.zero_le _) ?_
  have : n + 1 ≤ (n + 1) * (n + 1) := Nat.le_mul_of_pos_left _ (by omega)
  simp only [Nat.zero_add]
  omega
theorem sq_uniq {n a b : Nat} (h1 : a * a ≤ n) (h2 : n < (a + 1) * (a + 1)) (h3 : b * b ≤ n) (h4 : n < (b + 1) * (b + 1)) : a = b := by
  rcases Nat.lt_trichotomy a b with h | h | h
  · have : (a + 1) * (a + 1) ≤ b * b := Nat.mul_le_mul h h
    omega
  · exact h
  · have : (b + 1) * (b + 1) ≤ a * a := Nat.mul_le_mul h h
    omega
theorem sq_lt {n : Nat} (h : n < 2 ^ 64) : sq n < 2 ^ 32 := by
  rcases Nat.lt_or_ge (sq n) (2 ^ 32) with q | q
  · exact q
  · have h1 := (sq_spec n).1
    have h2 : 2 ^ 32 * 2 ^ 32 ≤ sq n * sq n := Nat.mul_le_mul q q
    omega
/-- the pair, from three coordinates, the circle touched, the three others -/
def tail3 (one two three : Int) (v w1 w2 w3 c : Cir) : Option (Int × Int) :=
  if one + three < 0 ∨ two + three < 0 then none else
    let p : Int := (sq (one + three).toNat : Nat)
    let q : Int := if three < 0 then -((sq (two + three).toNat : Nat) : Int) else ((sq (two + three).toNat : Nat) : Int)
    if Nat.gcd p.natAbs q.natAbs ≠ 1 ∨ madeC v w1 w2 w3 p q ≠ c then none else some (told p q)
def tailP (ps : List Int) (k : Nat) (cs : List Cir) (c : Cir) : Option (Int × Int) :=
  match ps.eraseIdx k, cs.eraseIdx k, cs[k]? with
  | [one, two, three], [w1, w2, w3], some v => tail3 one two three v w1 w2 w3 c
  | _, _, _ => none
def dbls (cs : List Cir) (c : Cir) : List Int := cs.map fun o => dbl c o
def crd (cs : List Cir) (c : Cir) : Option (List Int) :=
  if (dbls cs c).any (fun d => decide ((2 * d - (dbls cs c).sum) % 8 ≠ 0)) then none else some ((dbls cs c).map fun d => (2 * d - (dbls cs c).sum) / 8)
def pairOf (cs : List Cir) (k : Nat) (c : Cir) : Option (Int × Int) :=
  match crd cs c with
  | none => none
  | some ps => tailP ps k cs c
/-! ### four circles that touch -/
structure Tch (u v : Cir) : Prop where
  d : dbl u v = -2
  o : outw u v
structure G4 (a b c d : Cir) : Prop where
  na : nrm a = 1
  nb : nrm b = 1
  nc : nrm c = 1
  nd : nrm d = 1
  ab : Tch a b
  ac : Tch a c
  ad : Tch a d
  bc : Tch b c
  bd : Tch b d
  cd : Tch c d
theorem dbl_comm (u v : Cir) : dbl u v = dbl v u := by unfold dbl; grind
theorem dbl_self (u : Cir) : dbl u u = 2 * nrm u := by unfold dbl nrm; grind
theorem outw_comm {u v : Cir} (h : outw u v) : outw v u := by unfold outw at *; omega
theorem Tch.symm {u v : Cir} (h : Tch u v) : Tch v u := ⟨(dbl_comm v u).trans h.d, outw_comm h.o⟩
theorem G4.rot {a b c d : Cir} (h : G4 a b c d) : G4 b c d a := ⟨h.nb, h.nc, h.nd, h.na, h.bc, h.bd, h.ab.symm, h.cd, h.ac.symm, h.ad.symm⟩
theorem G4.swap {a b c d : Cir} (h : G4 a b c d) : G4 b a c d := ⟨h.nb, h.na, h.nc, h.nd, h.ab.symm, h.bc, h.bd, h.ac, h.ad, h.cd⟩
/-! ### exchanging keeps a four -/
theorem null_sum {u v : Cir} (hu : nrm u = 1) (hv : nrm v = 1) (h : dbl u v = -2) : (u.x + v.x) * (u.x + v.x) + (u.y + v.y) * (u.y + v.y) = (u.b + v.b) * (u.c + v.c) := by
  unfold nrm at hu hv; unfold dbl at h; grind
theorem sq_nn (a : Int) : 0 ≤ a * a := by
  rcases Int.le_total 0 a with h | h
  · exact Int.mul_nonneg h h
  · have := Int.mul_nonneg (Int.neg_nonneg_of_nonpos h) (Int.neg_nonneg_of_nonpos h)
    rw [Int.neg_mul_neg] at this; exact this
theorem sq_zero {a : Int} (h : a * a = 0) : a = 0 := by
  rcases Int.mul_eq_zero.mp h with q | q <;> exact q
/-- outward, of a null sum: b and c are 0 or more and not both 0 -/
theorem outw_iff {u v : Cir} (hn : (u.x + v.x) * (u.x + v.x) + (u.y + v.y) * (u.y + v.y) = (u.b + v.b) * (u.c + v.c)) : outw u v ↔ 0 < (u.b + v.b) + (u.c + v.c) := by
  have h1 := sq_nn (u.x + v.x)
  have h2 := sq_nn (u.y + v.y)
  have h3 : 0 ≤ (u.b + v.b) * (u.c + v.c) := by omega
  unfold outw
  generalize u.b + v.b = B at *
  generalize u.c + v.c = C at *
  constructor
  · rintro (h | ⟨h, h'⟩)
    · rcases Int.lt_or_le C 0 with q | q
      · have : B * C < 0 := Int.mul_neg_of_pos_of_neg h q
        omega
      · omega
    · omega
  · intro h
    rcases Int.lt_trichotomy B 0 with q | q | q
    · have : 0 < C := by omega
      have : B * C < 0 := Int.mul_neg_of_neg_of_pos q this
      omega
    · exact .inr ⟨q, by omega⟩
    · exact .inl q
/-- two null vectors with a product below 0 lie on one side -/
theorem null_side {B C X Y B' C' X' Y' : Int} (h : X * X + Y * Y = B * C) (h' : X' * X' + Y' * Y' = B' * C') (hd : 2 * (X * X' + Y * Y') - (B * C' + B' * C) < 0) (hp : 0 < B' + C') : 0 < B + C := by
  rcases Int.lt_or_le 0 (B + C) with q | q
  · exact q
  exfalso
  have a1 := sq_nn X
  have a2 := sq_nn Y
  have a3 := sq_nn X'
  have a4 := sq_nn Y'
  have hBC : 0 ≤ B * C := by omega
  have hBC' : 0 ≤ B' * C' := by omega
  have hB : B ≤ 0 := by
    rcases Int.lt_or_le 0 B with z | z
    · have := Int.mul_neg_of_pos_of_neg z (show C < 0 by omega)
      omega
    · exact z
  have hC : C ≤ 0 := by
    rcases Int.lt_or_le 0 C with z | z
    · have := Int.mul_neg_of_neg_of_pos (show B < 0 by omega) z
      omega
    · exact z
  have hB' : 0 ≤ B' := by
    rcases Int.lt_or_le B' 0 with z | z
    · have := Int.mul_neg_of_neg_of_pos z (show 0 < C' by omega)
      omega
    · exact z
  have hC' : 0 ≤ C' := by
    rcases Int.lt_or_le C' 0 with z | z
    · have := Int.mul_neg_of_pos_of_neg (show 0 < B' by omega) z
      omega
    · exact z
  have m1 : 0 ≤ (-B) * C' := Int.mul_nonneg (by omega) hC'
  have m2 : 0 ≤ B' * (-C) := Int.mul_nonneg hB' (by omega)
  -- S = -(B C' + B' C) >= 0, D = -(XX' + YY') : 2 D > S >= 0, but (2 D)^2 <= 4 (BC)(B'C') <= S^2
  have eS : (-B) * C' + B' * (-C) = -(B * C' + B' * C) := by grind
  have cs : (X * X' + Y * Y') * (X * X' + Y * Y') ≤ (B * C) * (B' * C') := by
    have e : (B * C) * (B' * C') - (X * X' + Y * Y') * (X * X' + Y * Y') = (X * Y' - Y * X') * (X * Y' - Y * X') := by
      rw [← h, ← h']; grind
    have := sq_nn (X * Y' - Y * X')
    omega
  have am : 4 * ((B * C) * (B' * C')) ≤ (B * C' + B' * C) * (B * C' + B' * C) := by
    have e : (B * C' + B' * C) * (B * C' + B' * C) - 4 * ((B * C) * (B' * C')) = (B * C' - B' * C) * (B * C' - B' * C) := by grind
    have := sq_nn (B * C' - B' * C)
    omega
  generalize hT : X * X' + Y * Y' = T at *
  generalize hS : B * C' + B' * C = S at *
  have hS0 : S ≤ 0 := by omega
  have : 2 * T < S := by omega
  have k1 : 0 < (S - 2 * T) * (-S - 2 * T) ∨ (-S - 2 * T) ≤ 0 := by
    rcases Int.lt_or_le 0 (-S - 2 * T) with z | z
    · exact .inl (Int.mul_pos (by omega) z)
    · exact .inr z
  rcases k1 with k1 | k1
  · have e : (S - 2 * T) * (-S - 2 * T) = 4 * (T * T) - S * S := by grind
    omega
  · omega
theorem nrm_exc {a b c d : Cir} (h : G4 a b c d) : nrm (exc b c d a) = 1 := by
  obtain ⟨na, nb, nc, nd, ⟨ab, _⟩, ⟨ac, _⟩, ⟨ad, _⟩, ⟨bc, _⟩, ⟨bd, _⟩, ⟨cd, _⟩⟩ := h
  have e : nrm (exc b c d a) = 4 * nrm b + 4 * nrm c + 4 * nrm d + nrm a + 4 * dbl b c + 4 * dbl b d + 4 * dbl c d - 2 * dbl a b - 2 * dbl a c - 2 * dbl a d := by unfold nrm dbl exc; grind
  rw [e, na, nb, nc, nd, ab, ac, ad, bc, bd, cd]; decide
theorem dbl_exc (p q r v w : Cir) : dbl (exc p q r v) w = 2 * (dbl p w + dbl q w + dbl r w) - dbl v w := by unfold dbl exc; grind
theorem tch_exc {a b c d : Cir} (h : G4 a b c d) : Tch (exc b c d a) b := by
  have n1 := nrm_exc h
  obtain ⟨na, nb, nc, nd, ab, ac, ad, bc, bd, cd⟩ := h
  have hd : dbl (exc b c d a) b = -2 := by
    rw [dbl_exc, dbl_self, nb, (dbl_comm c b).trans bc.d, (dbl_comm d b).trans bd.d, ab.d]; decide
  refine ⟨hd, ?_⟩
  have e1 := null_sum n1 nb hd
  have e2 := null_sum nc nd cd.d
  refine (outw_iff e1).mpr (null_side e1 e2 ?_ ((outw_iff e2).mp cd.o))
  have e : 2 * (((exc b c d a).x + b.x) * (c.x + d.x) + ((exc b c d a).y + b.y) * (c.y + d.y)) - (((exc b c d a).b + b.b) * (c.c + d.c) + (c.b + d.b) * ((exc b c d a).c + b.c)) =
      dbl (exc b c d a) c + dbl (exc b c d a) d + dbl b c + dbl b d := by unfold dbl; grind
  rw [e, dbl_exc, dbl_exc, dbl_self, dbl_self, nc, nd, bc.d, bd.d, ac.d, ad.d, cd.d, (dbl_comm d c).trans cd.d]; decide
theorem G4.ex0 {a b c d : Cir} (h : G4 a b c d) : G4 (exc b c d a) b c d := by
  have t1 := tch_exc h
  have h2 : G4 a c b d := ⟨h.na, h.nc, h.nb, h.nd, h.ac, h.ab, h.ad, h.bc.symm, h.cd, h.bd⟩
  have e2 : exc c b d a = exc b c d a := by
    unfold exc
    simp only [Cir.mk.injEq]
    refine ⟨?_, ?_, ?_, ?_⟩ <;> omega
  have h3 : G4 a d b c := ⟨h.na, h.nd, h.nb, h.nc, h.ad, h.ab, h.ac, h.bd.symm, h.cd.symm, h.bc⟩
  have e3 : exc d b c a = exc b c d a := by
    unfold exc
    simp only [Cir.mk.injEq]
    refine ⟨?_, ?_, ?_, ?_⟩ <;> omega
  have t2 := tch_exc h2
  have t3 := tch_exc h3
  rw [e2] at t2
  rw [e3] at t3
  exact ⟨nrm_exc h, h.nb, h.nc, h.nd, t1, t2, t3, h.bc, h.bd, h.cd⟩
def G (cs : List Cir) : Prop := ∃ a b c d, cs = [a, b, c, d] ∧ G4 a b c d
theorem exc_perm1 (a c d b : Cir) : exc c d a b = exc a c d b := by
  unfold exc
  simp only [Cir.mk.injEq]
  refine ⟨?_, ?_, ?_, ?_⟩ <;> omega
theorem exc_perm2 (a b d c : Cir) : exc d a b c = exc a b d c := by
  unfold exc
  simp only [Cir.mk.injEq]
  refine ⟨?_, ?_, ?_, ?_⟩ <;> omega
theorem G.exch {cs : List Cir} (h : G cs) (k : Nat) : G (exch cs k) := by
  obtain ⟨a, b, c, d, rfl, h⟩ := h
  match k with
  | 0 => exact ⟨_, _, _, _, rfl, h.ex0⟩
  | 1 =>
    have q := h.rot.ex0.rot.rot.rot
    rw [exc_perm1] at q
    exact ⟨_, _, _, _, rfl, q⟩
  | 2 =>
    have q := h.rot.rot.ex0.rot.rot
    rw [exc_perm2] at q
    exact ⟨_, _, _, _, rfl, q⟩
  | k + 3 =>
    have q := h.rot.rot.rot.ex0.rot
    exact ⟨_, _, _, _, rfl, q⟩

/-! ### the seven roots, moved, turned, mirrored -/
def base (kind n : Int) : List Cir :=
  if kind = 0 then [⟨-3, 0, 1, 0⟩, ⟨5, 0, -1, 0⟩, ⟨8, 2, -4, 1⟩, ⟨8, 2, -4, -1⟩]
  else if kind = 1 then [⟨0, 2, 0, 1⟩, ⟨0, 2, 0, -1⟩, ⟨1, -1, 0, 0⟩, ⟨1, 3, 2, 0⟩]
  else if kind = 2 then [⟨0, 1, 0, 1⟩, ⟨0, 1, 0, -1⟩, ⟨2, 0, 1, 0⟩, ⟨2, 4, 3, 0⟩]
  else [⟨0 - n, 0, 1, 0⟩, ⟨n + 1, 0, -1, 0⟩, ⟨n * n + n, 4, 0 - 2 * n - 1, 0⟩, ⟨n * n + n + 1, 4, 0 - 2 * n - 1, 2⟩]
instance (u v : Cir) : Decidable (Tch u v) := decidable_of_iff (dbl u v = -2 ∧ outw u v) ⟨fun h => ⟨h.1, h.2⟩, fun h => ⟨h.d, h.o⟩⟩
def g4B (a b c d : Cir) : Bool := decide (nrm a = 1 ∧ nrm b = 1 ∧ nrm c = 1 ∧ nrm d = 1 ∧ Tch a b ∧ Tch a c ∧ Tch a d ∧ Tch b c ∧ Tch b d ∧ Tch c d)
theorem g4_of {a b c d : Cir} (h : g4B a b c d = true) : G4 a b c d := by
  unfold g4B at h
  obtain ⟨h1, h2, h3, h4, h5, h6, h7, h8, h9, h10⟩ := of_decide_eq_true h
  exact ⟨h1, h2, h3, h4, h5, h6, h7, h8, h9, h10⟩
theorem G.base {kind n : Int} (h1 : 1 ≤ n) (h2 : n ≤ 4) : G (base kind n) := by
  unfold K45.base
  split
  · exact ⟨_, _, _, _, rfl, g4_of (by decide)⟩
  · split
    · exact ⟨_, _, _, _, rfl, g4_of (by decide)⟩
    · split
      · exact ⟨_, _, _, _, rfl, g4_of (by decide)⟩
      · have : n = 1 ∨ n = 2 ∨ n = 3 ∨ n = 4 := by omega
        rcases this with rfl | rfl | rfl | rfl
        all_goals exact ⟨_, _, _, _, rfl, g4_of (by decide)⟩
def shifted (c : Cir) (s t : Int) : Cir := ⟨c.b, c.c + 2 * (c.x * s + c.y * t) + c.b * (s * s + t * t), c.x + c.b * s, c.y + c.b * t⟩
def turn1 (c : Cir) : Cir := ⟨c.b, c.c, 0 - c.y, c.x⟩
def turnN (c : Cir) : Nat → Cir
  | 0 => c
  | n + 1 => turn1 (turnN c n)
def mirr (c : Cir) (m : Bool) : Cir := if m then ⟨c.b, c.c, 0 - c.x, c.y⟩ else c
def movedC (s t : Int) (n : Nat) (m : Bool) (c : Cir) : Cir := mirr (turnN (shifted c s t) n) m
/-- what keeps fours -/
structure Iso (f : Cir → Cir) : Prop where
  n : ∀ u, nrm (f u) = nrm u
  t : ∀ u v, Tch u v → nrm u = 1 → nrm v = 1 → Tch (f u) (f v)
theorem Iso.id : Iso fun c => c := ⟨fun _ => rfl, fun _ _ h _ _ => h⟩
theorem Iso.comp {f g : Cir → Cir} (hf : Iso f) (hg : Iso g) : Iso fun c => f (g c) := ⟨fun u => (hf.n _).trans (hg.n u), fun u v h a b => hf.t _ _ (hg.t u v h a b) ((hg.n u).trans a) ((hg.n v).trans b)⟩
theorem Iso.shift (s t : Int) : Iso fun c => shifted c s t := by
  refine ⟨fun u => ?_, fun u v h hu hv => ⟨?_, ?_⟩⟩
  · unfold nrm shifted; grind
  · rw [← h.d]; unfold dbl shifted; grind
  · have e := null_sum hu hv h.d
    rcases h.o with q | ⟨q, q'⟩
    · exact .inl q
    · refine .inr ⟨q, ?_⟩
      rw [q, Int.zero_mul] at e
      have h1 := sq_nn (u.x + v.x)
      have h2 := sq_nn (u.y + v.y)
      have e1 : u.x + v.x = 0 := sq_zero (by omega)
      have e2 : u.y + v.y = 0 := sq_zero (by omega)
      have ex : (shifted u s t).c + (shifted v s t).c = u.c + v.c + 2 * ((u.x + v.x) * s + (u.y + v.y) * t) + (u.b + v.b) * (s * s + t * t) := by unfold shifted; grind
      rw [ex, e1, e2, q]
      omega
theorem Iso.turn1 : Iso turn1 := by
  refine ⟨fun u => ?_, fun u v h hu hv => ⟨?_, h.o⟩⟩
  · unfold nrm K45.turn1; grind
  · rw [← h.d]; unfold dbl K45.turn1; grind
theorem Iso.turnN : ∀ n, Iso fun c => turnN c n
  | 0 => Iso.id
  | n + 1 => Iso.comp Iso.turn1 (Iso.turnN n)
theorem Iso.mirr (m : Bool) : Iso fun c => mirr c m := by
  cases m
  · exact Iso.id
  · refine ⟨fun u => ?_, fun u v h hu hv => ⟨?_, h.o⟩⟩
    · show nrm ⟨u.b, u.c, 0 - u.x, u.y⟩ = nrm u
      unfold nrm; grind
    · show dbl ⟨u.b, u.c, 0 - u.x, u.y⟩ ⟨v.b, v.c, 0 - v.x, v.y⟩ = -2
      rw [← h.d]; unfold dbl; grind
theorem Iso.moved (s t : Int) (n : Nat) (m : Bool) : Iso (movedC s t n m) := Iso.comp (f := fun c => K45.mirr c m) (g := fun c => K45.turnN (shifted c s t) n) (Iso.mirr m) (Iso.comp (f := fun c => K45.turnN c n) (Iso.turnN n) (Iso.shift s t))
theorem G.map {f : Cir → Cir} (hf : Iso f) {cs : List Cir} (h : G cs) : G (cs.map f) := by
  obtain ⟨a, b, c, d, rfl, h⟩ := h
  refine ⟨_, _, _, _, rfl, (hf.n a).trans h.na, (hf.n b).trans h.nb, (hf.n c).trans h.nc, (hf.n d).trans h.nd, hf.t _ _ h.ab h.na h.nb, hf.t _ _ h.ac h.na h.nc, hf.t _ _ h.ad h.na h.nd, hf.t _ _ h.bc h.nb h.nc, hf.t _ _ h.bd h.nb h.nd, hf.t _ _ h.cd h.nc h.nd⟩
theorem G.cut {cs : List Cir} (h : G cs) {k : Nat} (hk : k < 4) : G (cs.drop k ++ cs.take k) := by
  obtain ⟨a, b, c, d, rfl, h⟩ := h
  match k, hk with
  | 0, _ => exact ⟨_, _, _, _, rfl, h⟩
  | 1, _ => exact ⟨_, _, _, _, rfl, h.rot⟩
  | 2, _ => exact ⟨_, _, _, _, rfl, h.rot.rot⟩
  | 3, _ => exact ⟨_, _, _, _, rfl, h.rot.rot.rot⟩
def swapC : List Cir → List Cir
  | a :: b :: r => b :: a :: r
  | l => l
theorem G.swapC {cs : List Cir} (h : G cs) : G (swapC cs) := by
  obtain ⟨a, b, c, d, rfl, h⟩ := h
  exact ⟨_, _, _, _, rfl, h.swap⟩
/-! ### sizes -/
structure Bd (N : Int) (u : Cir) : Prop where
  hb : -N ≤ u.b ∧ u.b ≤ N
  hc : -N ≤ u.c ∧ u.c ≤ N
  hx : -N ≤ u.x ∧ u.x ≤ N
  hy : -N ≤ u.y ∧ u.y ≤ N
instance (N : Int) (c : Cir) : Decidable (Bd N c) := decidable_of_iff ((-N ≤ c.b ∧ c.b ≤ N) ∧ (-N ≤ c.c ∧ c.c ≤ N) ∧ (-N ≤ c.x ∧ c.x ≤ N) ∧ (-N ≤ c.y ∧ c.y ≤ N)) ⟨fun h => ⟨h.1, h.2.1, h.2.2.1, h.2.2.2⟩, fun h => ⟨h.hb, h.hc, h.hx, h.hy⟩⟩
theorem Bd.mono {N M : Int} {c : Cir} (h : Bd N c) (hm : N ≤ M) : Bd M c := by
  obtain ⟨⟨_, _⟩, ⟨_, _⟩, ⟨_, _⟩, ⟨_, _⟩⟩ := h
  refine ⟨⟨?_, ?_⟩, ⟨?_, ?_⟩, ⟨?_, ?_⟩, ⟨?_, ?_⟩⟩ <;> omega
theorem Bd.exc {N : Int} {p q r v : Cir} (hp : Bd N p) (hq : Bd N q) (hr : Bd N r) (hv : Bd N v) : Bd (7 * N) (exc p q r v) := by
  obtain ⟨⟨_, _⟩, ⟨_, _⟩, ⟨_, _⟩, ⟨_, _⟩⟩ := hp
  obtain ⟨⟨_, _⟩, ⟨_, _⟩, ⟨_, _⟩, ⟨_, _⟩⟩ := hq
  obtain ⟨⟨_, _⟩, ⟨_, _⟩, ⟨_, _⟩, ⟨_, _⟩⟩ := hr
  obtain ⟨⟨_, _⟩, ⟨_, _⟩, ⟨_, _⟩, ⟨_, _⟩⟩ := hv
  unfold K45.exc
  refine ⟨⟨?_, ?_⟩, ⟨?_, ?_⟩, ⟨?_, ?_⟩, ⟨?_, ?_⟩⟩ <;> simp only <;> omega
def BdL (N : Int) (cs : List Cir) : Prop := ∀ c ∈ cs, Bd N c
theorem BdL.mono {N M : Int} {cs : List Cir} (h : BdL N cs) (hm : N ≤ M) : BdL M cs := fun c hc => (h c hc).mono hm
theorem BdL.exch {N : Int} (hN : 0 ≤ N) {cs : List Cir} (h : BdL N cs) (hg : G cs) (k : Nat) : BdL (7 * N) (exch cs k) := by
  obtain ⟨a, b, c, d, rfl, _⟩ := hg
  have ha := h a (by simp)
  have hb := h b (by simp)
  have hc := h c (by simp)
  have hd := h d (by simp)
  have up : N ≤ 7 * N := by omega
  intro e he
  match k with
  | 0 =>
    simp only [K45.exch, List.mem_cons, List.not_mem_nil, or_false] at he
    rcases he with rfl | rfl | rfl | rfl
    · exact Bd.exc hb hc hd ha
    · exact hb.mono up
    · exact hc.mono up
    · exact hd.mono up
  | 1 =>
    simp only [K45.exch, List.mem_cons, List.not_mem_nil, or_false] at he
    rcases he with rfl | rfl | rfl | rfl
    · exact ha.mono up
    · exact Bd.exc ha hc hd hb
    · exact hc.mono up
    · exact hd.mono up
  | 2 =>
    simp only [K45.exch, List.mem_cons, List.not_mem_nil, or_false] at he
    rcases he with rfl | rfl | rfl | rfl
    · exact ha.mono up
    · exact hb.mono up
    · exact Bd.exc ha hb hd hc
    · exact hd.mono up
  | k + 3 =>
    simp only [K45.exch, List.mem_cons, List.not_mem_nil, or_false] at he
    rcases he with rfl | rfl | rfl | rfl
    · exact ha.mono up
    · exact hb.mono up
    · exact hc.mono up
    · exact Bd.exc ha hb hc hd
theorem BdL.base {kind n : Int} (h1 : 1 ≤ n) (h2 : n ≤ 4) : BdL 21 (base kind n) := by
  have key : ∀ cs : List Cir, (cs.all fun c => decide (Bd 21 c)) = true → BdL 21 cs := fun cs h c hc => of_decide_eq_true (List.all_eq_true.mp h c hc)
  refine key _ ?_
  unfold K45.base
  split
  · decide
  · split
    · decide
    · split
      · decide
      · have : n = 1 ∨ n = 2 ∨ n = 3 ∨ n = 4 := by omega
        rcases this with rfl | rfl | rfl | rfl
        all_goals decide
theorem small_mul {a s : Int} {N : Int} (h1 : -N ≤ a) (h2 : a ≤ N) (hs1 : -3 ≤ s) (hs2 : s ≤ 3) : -(3 * N) ≤ a * s ∧ a * s ≤ 3 * N := by
  have : s = -3 ∨ s = -2 ∨ s = -1 ∨ s = 0 ∨ s = 1 ∨ s = 2 ∨ s = 3 := by omega
  rcases this with rfl | rfl | rfl | rfl | rfl | rfl | rfl <;> omega
theorem Bd.turnN {N : Int} {c : Cir} (h : Bd N c) : ∀ n, Bd N (turnN c n)
  | 0 => h
  | n + 1 => by
    obtain ⟨⟨_, _⟩, ⟨_, _⟩, ⟨_, _⟩, ⟨_, _⟩⟩ := Bd.turnN h n
    show Bd N (turn1 _)
    unfold turn1
    refine ⟨⟨?_, ?_⟩, ⟨?_, ?_⟩, ⟨?_, ?_⟩, ⟨?_, ?_⟩⟩ <;> simp only <;> omega
theorem Bd.mirr {N : Int} {c : Cir} (h : Bd N c) (m : Bool) : Bd N (mirr c m) := by
  cases m
  · exact h
  · obtain ⟨⟨_, _⟩, ⟨_, _⟩, ⟨_, _⟩, ⟨_, _⟩⟩ := h
    show Bd N ⟨_, _, _, _⟩
    refine ⟨⟨?_, ?_⟩, ⟨?_, ?_⟩, ⟨?_, ?_⟩, ⟨?_, ?_⟩⟩ <;> simp only <;> omega
theorem Bd.moved {c : Cir} (h : Bd 21 c) {s t : Int} (hs : -3 ≤ s ∧ s ≤ 3) (ht : -3 ≤ t ∧ t ≤ 3) (n : Nat) (m : Bool) : Bd 1000 (movedC s t n m c) := by
  refine Bd.mirr (Bd.turnN ?_ n) m
  obtain ⟨⟨b1, b2⟩, ⟨c1, c2⟩, ⟨x1, x2⟩, ⟨y1, y2⟩⟩ := h
  have p1 := small_mul x1 x2 hs.1 hs.2
  have p2 := small_mul y1 y2 ht.1 ht.2
  have p3 := small_mul b1 b2 hs.1 hs.2
  have p4 := small_mul b1 b2 ht.1 ht.2
  have p5 := small_mul p3.1 p3.2 hs.1 hs.2
  have p6 := small_mul p4.1 p4.2 ht.1 ht.2
  have e : c.b * (s * s + t * t) = c.b * s * s + c.b * t * t := by grind
  unfold shifted
  refine ⟨⟨?_, ?_⟩, ⟨?_, ?_⟩, ⟨?_, ?_⟩, ⟨?_, ?_⟩⟩ <;> simp only <;> omega
theorem BdL.moved {cs : List Cir} (h : BdL 21 cs) {s t : Int} (hs : -3 ≤ s ∧ s ≤ 3) (ht : -3 ≤ t ∧ t ≤ 3) (n : Nat) (m : Bool) : BdL 1000 (cs.map (movedC s t n m)) := fun c hc => by
  obtain ⟨d, hd, rfl⟩ := List.mem_map.mp hc
  exact (h d hd).moved hs ht n m
theorem BdL.sub {N : Int} {cs ds : List Cir} (h : BdL N cs) (hs : ∀ c ∈ ds, c ∈ cs) : BdL N ds := fun c hc => h c (hs c hc)
/-! ### coordinates -/
def comb (a b c d u : Cir) : Cir :=
  ⟨u.b * a.b + u.c * b.b + u.x * c.b + u.y * d.b, u.b * a.c + u.c * b.c + u.x * c.c + u.y * d.c, u.b * a.x + u.c * b.x + u.x * c.x + u.y * d.x, u.b * a.y + u.c * b.y + u.x * c.y + u.y * d.y⟩
def u0 : Cir := ⟨1, 0, 0, 0⟩
def u1 : Cir := ⟨0, 1, 0, 0⟩
def u2 : Cir := ⟨0, 0, 1, 0⟩
def u3 : Cir := ⟨0, 0, 0, 1⟩
def units : List Cir := [u0, u1, u2, u3]
def tot (u : Cir) : Int := u.b + u.c + u.x + u.y
def gram (u v : Cir) : Int := 4 * (u.b * v.b + u.c * v.c + u.x * v.x + u.y * v.y) - 2 * (tot u * tot v)
theorem dbl_comb_left (a b c d u w : Cir) : dbl (comb a b c d u) w = u.b * dbl a w + u.c * dbl b w + u.x * dbl c w + u.y * dbl d w := by
  unfold dbl comb; grind
structure Gm (a b c d : Cir) : Prop where
  a0 : ∀ u, dbl (comb a b c d u) a = 4 * u.b - 2 * tot u
  b0 : ∀ u, dbl (comb a b c d u) b = 4 * u.c - 2 * tot u
  c0 : ∀ u, dbl (comb a b c d u) c = 4 * u.x - 2 * tot u
  d0 : ∀ u, dbl (comb a b c d u) d = 4 * u.y - 2 * tot u
theorem G4.gm {a b c d : Cir} (h : G4 a b c d) : Gm a b c d := by
  have haa := (dbl_self a).trans (by rw [h.na])
  have hbb := (dbl_self b).trans (by rw [h.nb])
  have hcc := (dbl_self c).trans (by rw [h.nc])
  have hdd := (dbl_self d).trans (by rw [h.nd])
  have hab := h.ab.d
  have hac := h.ac.d
  have had := h.ad.d
  have hbc := h.bc.d
  have hbd := h.bd.d
  have hcd := h.cd.d
  refine ⟨fun u => ?_, fun u => ?_, fun u => ?_, fun u => ?_⟩
  · rw [dbl_comb_left, haa, dbl_comm b a, hab, dbl_comm c a, hac, dbl_comm d a, had]; unfold tot; omega
  · rw [dbl_comb_left, hbb, hab, dbl_comm c b, hbc, dbl_comm d b, hbd]; unfold tot; omega
  · rw [dbl_comb_left, hcc, hac, hbc, dbl_comm d c, hcd]; unfold tot; omega
  · rw [dbl_comb_left, hdd, had, hbd, hcd]; unfold tot; omega
section
variable {a b c d : Cir}
theorem Gm.inj (g : Gm a b c d) {u v : Cir} (h : comb a b c d u = comb a b c d v) : u = v := by
  have e0 := g.a0 u
  have e1 := g.b0 u
  have e2 := g.c0 u
  have e3 := g.d0 u
  rw [h] at e0 e1 e2 e3
  rw [g.a0 v] at e0
  rw [g.b0 v] at e1
  rw [g.c0 v] at e2
  rw [g.d0 v] at e3
  unfold tot at *
  obtain ⟨ub, uc, ux, uy⟩ := u
  obtain ⟨vb, vc, vx, vy⟩ := v
  simp only [Cir.mk.injEq] at *
  refine ⟨?_, ?_, ?_, ?_⟩ <;> omega
theorem Gm.dbl2 (g : Gm a b c d) (u v : Cir) : dbl (comb a b c d u) (comb a b c d v) = gram u v := by
  rw [dbl_comm, dbl_comb_left, dbl_comm a, dbl_comm b, dbl_comm c, dbl_comm d, g.a0, g.b0, g.c0, g.d0]
  unfold gram tot; grind
theorem comb_exc (p q r v : Cir) : comb a b c d (exc p q r v) = exc (comb a b c d p) (comb a b c d q) (comb a b c d r) (comb a b c d v) := by
  unfold comb exc
  simp only [Cir.mk.injEq]
  refine ⟨?_, ?_, ?_, ?_⟩ <;> grind
theorem comb_made (v p q r : Cir) (i j : Int) : comb a b c d (madeC v p q r i j) = madeC (comb a b c d v) (comb a b c d p) (comb a b c d q) (comb a b c d r) i j := by
  unfold comb madeC
  simp only [Cir.mk.injEq]
  refine ⟨?_, ?_, ?_, ?_⟩ <;> grind
theorem comb_units : units.map (comb a b c d) = [a, b, c, d] := by
  have e0 : comb a b c d u0 = a := by
    unfold comb u0
    obtain ⟨_, _, _, _⟩ := a
    simp only [Cir.mk.injEq]
    refine ⟨?_, ?_, ?_, ?_⟩ <;> omega
  have e1 : comb a b c d u1 = b := by
    unfold comb u1
    obtain ⟨_, _, _, _⟩ := b
    simp only [Cir.mk.injEq]
    refine ⟨?_, ?_, ?_, ?_⟩ <;> omega
  have e2 : comb a b c d u2 = c := by
    unfold comb u2
    obtain ⟨_, _, _, _⟩ := c
    simp only [Cir.mk.injEq]
    refine ⟨?_, ?_, ?_, ?_⟩ <;> omega
  have e3 : comb a b c d u3 = d := by
    unfold comb u3
    obtain ⟨_, _, _, _⟩ := d
    simp only [Cir.mk.injEq]
    refine ⟨?_, ?_, ?_, ?_⟩ <;> omega
  unfold units
  simp only [List.map_cons, List.map_nil, e0, e1, e2, e3]
end
/-! ### all over a map that goes with exchanging and parts what differs -/
structure Lin (f : Cir → Cir) : Prop where
  e : ∀ p q r v, f (exc p q r v) = exc (f p) (f q) (f r) (f v)
  i : ∀ u v, f u = f v → u = v
section
variable {f : Cir → Cir}
theorem Lin.exch (l : Lin f) (cs : List Cir) (k : Nat) : exch (cs.map f) k = (exch cs k).map f := by
  match cs, k with
  | [a, b, c, d], 0 => simp only [K45.exch, List.map_cons, List.map_nil, l.e]
  | [a, b, c, d], 1 => simp only [K45.exch, List.map_cons, List.map_nil, l.e]
  | [a, b, c, d], 2 => simp only [K45.exch, List.map_cons, List.map_nil, l.e]
  | [a, b, c, d], k + 3 => simp only [K45.exch, List.map_cons, List.map_nil, l.e]
  | [], k => cases k <;> rfl
  | [a], k => simp only [K45.exch, List.map_cons, List.map_nil]
  | [a, b], k => simp only [K45.exch, List.map_cons, List.map_nil]
  | [a, b, c], k => simp only [K45.exch, List.map_cons, List.map_nil]
  | a :: b :: c :: d :: e :: r, k => simp only [K45.exch, List.map_cons]
theorem Lin.mem (l : Lin f) {cs : List Cir} {c : Cir} : f c ∈ cs.map f ↔ c ∈ cs := by
  constructor
  · intro h
    obtain ⟨d, hd, e⟩ := List.mem_map.mp h
    rw [← l.i _ _ e]
    exact hd
  · exact fun h => List.mem_map.mpr ⟨c, h, rfl⟩
theorem Lin.addC (l : Lin f) (fd : List Cir) (c : Cir) : addC (fd.map f) (f c) = (addC fd c).map f := by
  unfold K45.addC
  by_cases h : c ∈ fd
  · rw [if_pos h, if_pos (l.mem.mpr h)]
  · rw [if_neg h, if_neg (fun q => h (l.mem.mp q)), List.map_append]; rfl
theorem Lin.addAll (l : Lin f) : ∀ (g fd : List Cir), (g.map f).foldl K45.addC (fd.map f) = (g.foldl K45.addC fd).map f
  | [], _ => rfl
  | c :: g, fd => by
    simp only [List.map_cons, List.foldl_cons]
    rw [l.addC]
    exact Lin.addAll l g _
theorem Lin.growC (l : Lin f) : ∀ (fs : List (List Cir)) (fd : List Cir), growC (fd.map f) (fs.map (List.map f)) = (growC fd fs).map f
  | [], _ => rfl
  | g :: fs, fd => by
    unfold K45.growC
    simp only [List.map_cons, List.foldl_cons]
    rw [l.addAll]
    exact Lin.growC l fs _
theorem Lin.longer (l : Lin f) (fs : List (List Cir)) : longer (fs.map (List.map f)) = (longer fs).map (List.map f) := by
  unfold K45.longer
  induction fs with
  | nil => rfl
  | cons g fs ih =>
    simp only [List.map_cons, List.flatMap_cons, List.map_append, ih, l.exch, List.map_nil]
theorem Lin.lv (l : Lin f) (cs : List Cir) : ∀ n, lv (cs.map f) n = (lv cs n).map (List.map f)
  | 0 => rfl
  | n + 1 => by
    show K45.longer (K45.lv _ n) = (K45.longer (K45.lv _ n)).map (List.map f)
    rw [Lin.lv l cs n, l.longer]
theorem Lin.fnd (l : Lin f) (cs : List Cir) : ∀ n, fnd (cs.map f) n = (fnd cs n).map f
  | 0 => rfl
  | n + 1 => by
    show K45.growC (K45.fnd _ n) (K45.lv _ (n + 1)) = (K45.growC (K45.fnd _ n) (K45.lv _ (n + 1))).map f
    rw [Lin.fnd l cs n, l.lv, l.growC]
end
theorem Gm.lin {a b c d : Cir} (g : Gm a b c d) : Lin (comb a b c d) := ⟨fun p q r v => comb_exc p q r v, fun _ _ h => g.inj h⟩
/-! ### the pair of a circle, by its coordinates alone -/
def pairK (k : Nat) (u : Cir) : Option (Int × Int) := tailP [u.b, u.c, u.x, u.y] k units u
theorem crd_comb {a b c d : Cir} (g : Gm a b c d) (u : Cir) : crd [a, b, c, d] (comb a b c d u) = some [u.b, u.c, u.x, u.y] := by
  have es : dbls [a, b, c, d] (comb a b c d u) = [4 * u.b - 2 * tot u, 4 * u.c - 2 * tot u, 4 * u.x - 2 * tot u, 4 * u.y - 2 * tot u] := by
    unfold dbls
    simp only [List.map_cons, List.map_nil, g.a0, g.b0, g.c0, g.d0]
  unfold crd
  rw [es]
  have et : ([4 * u.b - 2 * tot u, 4 * u.c - 2 * tot u, 4 * u.x - 2 * tot u, 4 * u.y - 2 * tot u] : List Int).sum = -4 * tot u := by
    simp only [List.sum_cons, List.sum_nil]
    unfold tot; omega
  rw [et]
  have m : ∀ z : Int, (2 * (4 * z - 2 * tot u) - -4 * tot u) = 8 * z := fun z => by omega
  simp only [List.any_cons, List.any_nil, List.map_cons, List.map_nil, m]
  have m1 : ∀ z : Int, (8 * z) % 8 = 0 := fun z => by omega
  have m2 : ∀ z : Int, (8 * z) / 8 = z := fun z => by omega
  simp [m1, m2]
theorem tail3_comb {a b c d : Cir} (g : Gm a b c d) (one two three : Int) (v w1 w2 w3 u : Cir) :
    tail3 one two three (comb a b c d v) (comb a b c d w1) (comb a b c d w2) (comb a b c d w3) (comb a b c d u) = tail3 one two three v w1 w2 w3 u := by
  have inj : ∀ v w, comb a b c d v = comb a b c d w ↔ v = w := fun v w => ⟨fun h => g.inj h, fun h => by rw [h]⟩
  unfold tail3
  simp only [← comb_made, ne_eq, inj]
theorem tail_comb {a b c d : Cir} (g : Gm a b c d) {k : Nat} (hk : k < 4) (ps : List Int) (u : Cir) : tailP ps k [a, b, c, d] (comb a b c d u) = tailP ps k units u := by
  have e := comb_units (a := a) (b := b) (c := c) (d := d)
  unfold units at e
  simp only [List.map_cons, List.map_nil, List.cons.injEq, and_true] at e
  obtain ⟨e0, e1, e2, e3⟩ := e
  have key : ∀ (es : List Int) (v w1 w2 w3 : Cir), (match es, [comb a b c d w1, comb a b c d w2, comb a b c d w3], some (comb a b c d v) with
      | [one, two, three], [w1, w2, w3], some v => tail3 one two three v w1 w2 w3 (comb a b c d u)
      | _, _, _ => none) = (match es, [w1, w2, w3], some v with
      | [one, two, three], [w1, w2, w3], some v => tail3 one two three v w1 w2 w3 u
      | _, _, _ => none) := fun es v w1 w2 w3 => by
    match es with
    | [x, y, z] => exact tail3_comb g x y z v w1 w2 w3 u
    | [] => rfl
    | [_] => rfl
    | [_, _] => rfl
    | _ :: _ :: _ :: _ :: _ => rfl
  have h0 := key (ps.eraseIdx k) u0 u1 u2 u3
  have h1 := key (ps.eraseIdx k) u1 u0 u2 u3
  have h2 := key (ps.eraseIdx k) u2 u0 u1 u3
  have h3 := key (ps.eraseIdx k) u3 u0 u1 u2
  rw [e0, e1, e2, e3] at h0 h1 h2 h3
  match k, hk with
  | 0, _ => exact h0
  | 1, _ => exact h1
  | 2, _ => exact h2
  | 3, _ => exact h3
theorem pairOf_comb {a b c d : Cir} (g : Gm a b c d) {k : Nat} (hk : k < 4) (u : Cir) : pairOf [a, b, c, d] k (comb a b c d u) = pairK k u := by
  unfold pairOf
  rw [crd_comb g]
  exact tail_comb g hk _ u
/-! ### the whole check, over coordinates -/
def crs (a b : Int × Int) : Int := a.1 * b.2 - a.2 * b.1
/-- the circles with pairs, each with its pair -/
def tolds (f : Cir → Option (Int × Int)) (cs : List Cir) : List ((Int × Int) × Cir) := cs.filterMap fun c => (f c).map fun p => (p, c)
/-- a pair that is fit to be handed in: it is told, coprime, small -/
def fit (p : Int × Int) : Bool := decide (told p.1 p.2 = p) && decide (Nat.gcd p.1.natAbs p.2.natAbs = 1) && decide (p.1.natAbs ≤ 1000) && decide (p.2.natAbs ≤ 1000)
/-- by place: the circle touched and the three others -/
def own (cs : List Cir) (k : Nat) : Cir := cs.getD k u0
def oth (cs : List Cir) (k j : Nat) : Cir := (cs.eraseIdx k).getD j u0
def by_ (cs : List Cir) (k : Nat) (p : Int × Int) : Cir := madeC (own cs k) (oth cs k 0) (oth cs k 1) (oth cs k 2) p.1 p.2
def checkK (k : Nat) : Bool :=
  let fs := fnd units 3
  (fs.all fun u => decide (Bd 1000 u) && ((pairK k u).isSome == decide (gram u (own units k) = -2)) && (match pairK k u with
    | none => true
    | some p => fit p && decide (by_ units k p = u))) &&
  (let ts := tolds (pairK k) fs
   decide (ts.Pairwise fun a b => a.1 ≠ b.1 ∧ (decide ((crs b.1 a.1).natAbs = 1) == decide (gram b.2 a.2 = -2)) = true))
theorem checkK_ok : checkK 0 = true ∧ checkK 1 = true ∧ checkK 2 = true ∧ checkK 3 = true := by
  refine ⟨?_, ?_, ?_, ?_⟩ <;> decide +kernel
structure Res (cs : List Cir) (k : Nat) : Prop where
  mem : ∀ c ∈ fnd cs 3, (pairOf cs k c).isSome = decide (dbl c (own cs k) = -2)
  ok : ∀ c ∈ fnd cs 3, ∀ p, pairOf cs k c = some p → fit p = true ∧ by_ cs k p = c
  sm : ∀ c ∈ fnd cs 3, ∃ i j l m : Int, crd cs c = some [i, j, l, m] ∧ (-1000 ≤ i ∧ i ≤ 1000) ∧ (-1000 ≤ j ∧ j ≤ 1000) ∧ (-1000 ≤ l ∧ l ≤ 1000) ∧ (-1000 ≤ m ∧ m ≤ 1000)
  pw : (tolds (pairOf cs k) (fnd cs 3)).Pairwise fun a b => a.1 ≠ b.1 ∧ (decide ((crs b.1 a.1).natAbs = 1) == decide (dbl b.2 a.2 = -2)) = true
theorem own_comb {a b c d : Cir} {k : Nat} (hk : k < 4) : own [a, b, c, d] k = comb a b c d (own units k) := by
  have e := comb_units (a := a) (b := b) (c := c) (d := d)
  unfold units at e
  simp only [List.map_cons, List.map_nil, List.cons.injEq, and_true] at e
  obtain ⟨e0, e1, e2, e3⟩ := e
  match k, hk with
  | 0, _ => exact e0.symm
  | 1, _ => exact e1.symm
  | 2, _ => exact e2.symm
  | 3, _ => exact e3.symm
theorem by_comb {a b c d : Cir} {k : Nat} (hk : k < 4) (p : Int × Int) : by_ [a, b, c, d] k p = comb a b c d (by_ units k p) := by
  have e := comb_units (a := a) (b := b) (c := c) (d := d)
  unfold units at e
  simp only [List.map_cons, List.map_nil, List.cons.injEq, and_true] at e
  obtain ⟨e0, e1, e2, e3⟩ := e
  unfold by_
  rw [comb_made, own_comb hk]
  match k, hk with
  | 0, _ =>
    show madeC _ b c d _ _ = madeC _ (comb a b c d u1) (comb a b c d u2) (comb a b c d u3) _ _
    rw [e1, e2, e3]
  | 1, _ =>
    show madeC _ a c d _ _ = madeC _ (comb a b c d u0) (comb a b c d u2) (comb a b c d u3) _ _
    rw [e0, e2, e3]
  | 2, _ =>
    show madeC _ a b d _ _ = madeC _ (comb a b c d u0) (comb a b c d u1) (comb a b c d u3) _ _
    rw [e0, e1, e3]
  | 3, _ =>
    show madeC _ a b c _ _ = madeC _ (comb a b c d u0) (comb a b c d u1) (comb a b c d u2) _ _
    rw [e0, e1, e2]
theorem check_all {k : Nat} (hk : k < 4) : checkK k = true := by
  obtain ⟨h0, h1, h2, h3⟩ := checkK_ok
  match k, hk with
  | 0, _ => exact h0
  | 1, _ => exact h1
  | 2, _ => exact h2
  | 3, _ => exact h3
theorem tolds_comb {a b c d : Cir} (g : Gm a b c d) {k : Nat} (hk : k < 4) : ∀ us : List Cir, tolds (pairOf [a, b, c, d] k) (us.map (comb a b c d)) = (tolds (pairK k) us).map fun t => (t.1, comb a b c d t.2)
  | [] => rfl
  | u :: us => by
    have ih := tolds_comb g hk us
    unfold tolds at *
    simp only [List.map_cons, List.filterMap_cons, pairOf_comb g hk]
    cases pairK k u with
    | none => exact ih
    | some p =>
      simp only [Option.map_some, List.map_cons]
      rw [ih]
theorem res_ok {cs : List Cir} (h : G cs) {k : Nat} (hk : k < 4) : Res cs k := by
  obtain ⟨a, b, c, d, rfl, h4⟩ := h
  have g := h4.gm
  have ef : fnd [a, b, c, d] 3 = (fnd units 3).map (comb a b c d) := by
    rw [← g.lin.fnd, comb_units]
  have ck := check_all hk
  unfold checkK at ck
  simp only [Bool.and_eq_true, List.all_eq_true] at ck
  obtain ⟨c1, c2⟩ := ck
  refine ⟨fun e he => ?_, fun e he p hp => ?_, fun e he => ?_, ?_⟩
  · rw [ef] at he
    obtain ⟨u, hu, rfl⟩ := List.mem_map.mp he
    obtain ⟨⟨_, q⟩, _⟩ := c1 u hu
    rw [pairOf_comb g hk, own_comb hk, g.dbl2]
    exact eq_of_beq q
  · rw [ef] at he
    obtain ⟨u, hu, rfl⟩ := List.mem_map.mp he
    obtain ⟨_, q⟩ := c1 u hu
    rw [pairOf_comb g hk] at hp
    rw [hp] at q
    simp only [Bool.and_eq_true, decide_eq_true_eq] at q
    exact ⟨q.1, by rw [by_comb hk, q.2]⟩
  · rw [ef] at he
    obtain ⟨u, hu, rfl⟩ := List.mem_map.mp he
    obtain ⟨⟨q, _⟩, _⟩ := c1 u hu
    obtain ⟨q1, q2, q3, q4⟩ := of_decide_eq_true q
    exact ⟨_, _, _, _, crd_comb g u, q1, q2, q3, q4⟩
  · rw [ef, tolds_comb g hk]
    have c3 := of_decide_eq_true c2
    refine List.pairwise_map.mpr (c3.imp fun {x y} hxy => ?_)
    rw [g.dbl2]
    exact hxy
/-! ### the fours at all words are fours, of bounded size; how many -/
theorem lv_good {N : Int} (hN : 0 ≤ N) {cs : List Cir} (h : G cs) (hb : BdL N cs) : ∀ n, ∀ f ∈ lv cs n, G f ∧ BdL (7 ^ n * N) f
  | 0, f, hf => by
    have e : f = cs := by simpa [lv] using hf
    subst e
    exact ⟨h, by simpa using hb⟩
  | n + 1, f, hf => by
    have hf' : f ∈ longer (lv cs n) := hf
    unfold longer at hf'
    obtain ⟨g, hg, hm⟩ := List.mem_flatMap.mp hf'
    obtain ⟨h1, h2⟩ := lv_good hN h hb n g hg
    have e : (7 : Int) ^ (n + 1) * N = 7 * (7 ^ n * N) := by rw [Int.pow_succ]; grind
    have hp : 0 ≤ (7 : Int) ^ n * N := Int.mul_nonneg (Int.pow_nonneg (by decide)) hN
    rw [e]
    simp only [List.mem_cons, List.not_mem_nil, or_false] at hm
    rcases hm with rfl | rfl | rfl | rfl
    all_goals exact ⟨h1.exch _, h2.exch hp h1 _⟩
theorem longer_len : ∀ fs : List (List Cir), (longer fs).length = 4 * fs.length
  | [] => rfl
  | f :: fs => by
    have h := longer_len fs
    have e : longer (f :: fs) = [exch f 0, exch f 1, exch f 2, exch f 3] ++ longer fs := rfl
    rw [e, List.length_append, h]
    simp only [List.length_cons, List.length_nil]
    omega
theorem lv_len (cs : List Cir) : ∀ n, (lv cs n).length = 4 ^ n
  | 0 => rfl
  | n + 1 => by
    show (longer (lv cs n)).length = _
    rw [longer_len, lv_len cs n, Nat.pow_succ]
    omega
theorem addC_mem {fd : List Cir} {c e : Cir} (h : e ∈ addC fd c) : e ∈ fd ∨ e = c := by
  unfold addC at h
  split at h
  · exact .inl h
  · simpa using h
theorem addAll_mem : ∀ {g fd : List Cir} {e : Cir}, e ∈ g.foldl addC fd → e ∈ fd ∨ e ∈ g
  | [], _, _, h => .inl h
  | c :: g, fd, e, h => by
    rcases addAll_mem (g := g) h with q | q
    · rcases addC_mem q with q | q
      · exact .inl q
      · exact .inr (by simp [q])
    · exact .inr (by simp [q])
theorem growC_mem : ∀ {fs : List (List Cir)} {fd : List Cir} {e : Cir}, e ∈ growC fd fs → e ∈ fd ∨ ∃ f ∈ fs, e ∈ f
  | [], _, _, h => .inl h
  | g :: fs, fd, e, h => by
    have h' : e ∈ growC (g.foldl addC fd) fs := h
    rcases growC_mem h' with q | ⟨f, hf, q⟩
    · rcases addAll_mem q with q | q
      · exact .inl q
      · exact .inr ⟨g, by simp, q⟩
    · exact .inr ⟨f, by simp [hf], q⟩
theorem fnd_mem {cs : List Cir} : ∀ {n : Nat} {e : Cir}, e ∈ fnd cs n → ∃ m, m ≤ n ∧ ∃ f ∈ lv cs m, e ∈ f
  | 0, e, h => ⟨0, Nat.le_refl _, cs, by simp [lv], h⟩
  | n + 1, e, h => by
    have h' : e ∈ growC (fnd cs n) (lv cs (n + 1)) := h
    rcases growC_mem h' with q | ⟨f, hf, q⟩
    · obtain ⟨m, hm, r⟩ := fnd_mem q
      exact ⟨m, by omega, r⟩
    · exact ⟨n + 1, Nat.le_refl _, f, hf, q⟩
theorem G.mem {cs : List Cir} (h : G cs) {c : Cir} (hc : c ∈ cs) : nrm c = 1 := by
  obtain ⟨a, b, c, d, rfl, h⟩ := h
  simp only [List.mem_cons, List.not_mem_nil, or_false] at hc
  rcases hc with rfl | rfl | rfl | rfl
  · exact h.na
  · exact h.nb
  · exact h.nc
  · exact h.nd
theorem fnd_good {N : Int} (hN : 0 ≤ N) {cs : List Cir} (h : G cs) (hb : BdL N cs) {c : Cir} (hc : c ∈ fnd cs 3) : nrm c = 1 ∧ Bd (343 * N) c := by
  obtain ⟨m, hm, f, hf, hcf⟩ := fnd_mem hc
  obtain ⟨h1, h2⟩ := lv_good hN h hb m f hf
  refine ⟨h1.mem hcf, (h2 c hcf).mono ?_⟩
  have : m = 0 ∨ m = 1 ∨ m = 2 ∨ m = 3 := by omega
  rcases this with rfl | rfl | rfl | rfl <;> omega
theorem addC_len (fd : List Cir) (c : Cir) : (addC fd c).length ≤ fd.length + 1 := by
  unfold addC
  split
  · omega
  · simp
theorem addAll_len : ∀ (g fd : List Cir), (g.foldl addC fd).length ≤ fd.length + g.length
  | [], _ => Nat.le_refl _
  | c :: g, fd => by
    have h1 := addAll_len g (addC fd c)
    have h2 := addC_len fd c
    simp only [List.foldl_cons, List.length_cons]
    omega
theorem growC_len {M : Nat} : ∀ (fs : List (List Cir)) (fd : List Cir), (∀ f ∈ fs, f.length ≤ M) → (growC fd fs).length ≤ fd.length + M * fs.length
  | [], _, _ => by simp [growC]
  | g :: fs, fd, h => by
    have h1 := growC_len fs (g.foldl addC fd) fun f hf => h f (by simp [hf])
    have h2 := addAll_len g fd
    have h3 := h g (by simp)
    show (growC (g.foldl addC fd) fs).length ≤ _
    rw [List.length_cons, Nat.mul_succ]
    omega
theorem G.len {cs : List Cir} (h : G cs) : cs.length = 4 := by
  obtain ⟨a, b, c, d, rfl, _⟩ := h
  rfl
theorem lv_G {cs : List Cir} (h : G cs) : ∀ n, ∀ f ∈ lv cs n, G f
  | 0, f, hf => by
    have e : f = cs := by simpa [lv] using hf
    subst e
    exact h
  | n + 1, f, hf => by
    have hf' : f ∈ longer (lv cs n) := hf
    unfold longer at hf'
    obtain ⟨g, hg, hm⟩ := List.mem_flatMap.mp hf'
    have h1 := lv_G h n g hg
    simp only [List.mem_cons, List.not_mem_nil, or_false] at hm
    rcases hm with rfl | rfl | rfl | rfl
    all_goals exact h1.exch _
theorem fnd_len {cs : List Cir} (h : G cs) : ∀ n, n ≤ 3 → (fnd cs n).length ≤ 4 + 4 * (if n = 0 then 0 else if n = 1 then 4 else if n = 2 then 20 else 84) := by
  have step : ∀ n, (fnd cs (n + 1)).length ≤ (fnd cs n).length + 4 * 4 ^ (n + 1) := fun n => by
    have q := growC_len (M := 4) (lv cs (n + 1)) (fnd cs n) fun f hf => by rw [(lv_G h _ f hf).len]; exact Nat.le_refl _
    rw [lv_len] at q
    exact q
  have s0 : (fnd cs 0).length = 4 := h.len
  have s1 : (fnd cs 1).length ≤ (fnd cs 0).length + 4 * 4 ^ 1 := step 0
  have s2 : (fnd cs 2).length ≤ (fnd cs 1).length + 4 * 4 ^ 2 := step 1
  have s3 : (fnd cs 3).length ≤ (fnd cs 2).length + 4 * 4 ^ 3 := step 2
  intro n hn
  have : n = 0 ∨ n = 1 ∨ n = 2 ∨ n = 3 := by omega
  rcases this with rfl | rfl | rfl | rfl
  · show (fnd cs 0).length ≤ 4; omega
  · show (fnd cs 1).length ≤ 20; omega
  · show (fnd cs 2).length ≤ 84; omega
  · show (fnd cs 3).length ≤ 340; omega
end K45

set_option maxRecDepth 100000
set_option maxHeartbeats 4000000
/-! Rules that the hand layer has not: isqrt, > of two pairs, enumerate of a tuple, zip of one tuple and a starred list of three. -/
namespace K45R
open PySem PySem.Spec PyProof.Rows L2

/-! ### isqrt -/
theorem sq_isqrt (n : Nat) : PySem.Float64.isqrt n = K45.sq n := by
  obtain ⟨a, b⟩ := PySem.Float64.isqrt_spec n
  obtain ⟨c, d⟩ := K45.sq_spec n
  exact K45.sq_uniq a b c d
section
variable {X : Cx}
theorem cr_isqrt : CallR X (.builtin "math.isqrt") (fun vs H Q => ∃ a : Int, vs = [.int a] ∧ 0 ≤ a ∧ a < 2 ^ 64 ∧ Q (.int ((K45.sq a.toNat : Nat) : Int)) H) := by
  intro pins s σ H vs us Q I r h
  obtain ⟨a, rfl, h0, h1, q⟩ := h
  obtain ⟨u, rfl, t, rfl⟩ := vals1 r
  refine PySem.W.mg_isqrt h0 h1 ⟨.int _, H, I.tok _, ⟨_, rfl⟩, ?_⟩
  rw [sq_isqrt]
  exact q
/-! ### (p, q) > (r, t) -/
theorem op_gt2 (hu : X.A.units < cLine) : OpR X (compareOp .Gt) (fun x y H Q => ∃ (a b : Addr) (p q r t : Int), x = .ref a ∧ y = .ref b ∧ SqT X.K H a [.int p, .int q] ∧ SqT X.K H b [.int r, .int t] ∧
    Q (.bl (decide (p > r ∨ (p = r ∧ q > t)))) H) := by
  intro pins s σ H x y v u Q I rx ry h
  obtain ⟨a, b, p, q, r, t, rfl, rfl, ha, hb, hq⟩ := h
  cases rx
  cases ry
  obtain ⟨its, r1, p1, _⟩ := I.tuple ha
  obtain ⟨its2, r2, p2, _⟩ := I.tuple hb
  obtain ⟨w1, w2, rfl, ⟨t1, rfl⟩, t2, rfl⟩ := vals2 r1
  obtain ⟨w3, w4, rfl, ⟨t3, rfl⟩, t4, rfl⟩ := vals2 r2
  have dq : ∀ i j : Int, (i == j) = decide (i = j) := fun i j => by
    by_cases e : i = j
    · rw [decide_eq_true e]; exact beq_iff_eq.mpr e
    · rw [decide_eq_false e]; exact beq_eq_false_iff_ne.mpr e
  have R := Ob.RcOp.tuples_gt (A := X.A) (s := s) (e := fun j => if j = 0 then decide (p = r) else decide (q = t)) (r := fun j => if j = 0 then decide (r < p) else decide (t < q)) p1 p2 hu
    (fun j h1 h2 => by
      match j, h1, h2 with
      | 0, _, _ =>
        show SeqAt.EqAt _ _ (.int p t1) (.int r t3) (decide (p = r))
        rw [← dq]
        exact SeqAt.EqAt.int_int _ _ _ _
      | 1, _, _ =>
        show SeqAt.EqAt _ _ (.int q t2) (.int t t4) (decide (q = t))
        rw [← dq]
        exact SeqAt.EqAt.int_int _ _ _ _
      | j + 2, h1, _ => exact absurd h1 (by simp))
    (fun j h1 h2 _ => by
      match j, h1, h2 with
      | 0, _, _ => exact Ob.RcOp.gt_int p r t1 t3
      | 1, _, _ => exact Ob.RcOp.gt_int q t t2 t4
      | j + 2, h1, _ => exact absurd h1 (by simp))
  refine R X.prog X.w X.xe (EP X pins σ Q) ⟨.bl _, H, I, rfl, ?_⟩
  have e : Ob.lexAt (fun j => if j = 0 then decide (p = r) else decide (q = t)) (fun j => if j = 0 then decide (r < p) else decide (t < q)) (decide (#[Value.int p t1, Value.int q t2].size > #[Value.int r t3, Value.int t t4].size)) 0
      (min #[Value.int p t1, Value.int q t2].size #[Value.int r t3, Value.int t t4].size) = decide (p > r ∨ (p = r ∧ q > t)) := by
    show (if decide (p = r) = true then (if decide (q = t) = true then false else decide (t < q)) else decide (r < p)) = _
    by_cases e1 : p = r
    · rw [if_pos (decide_eq_true e1)]
      by_cases e2 : q = t
      · rw [if_pos (decide_eq_true e2)]
        exact (decide_eq_false (by omega)).symm
      · rw [if_neg (by simp [e2])]
        by_cases e3 : t < q
        · rw [decide_eq_true e3]; exact (decide_eq_true (by omega)).symm
        · rw [decide_eq_false e3]; exact (decide_eq_false (by omega)).symm
    · rw [if_neg (by simp [e1])]
      by_cases e3 : r < p
      · rw [decide_eq_true e3]; exact (decide_eq_true (by omega)).symm
      · rw [decide_eq_false e3]; exact (decide_eq_false (by omega)).symm
  show Q (.bl (Ob.lexAt _ _ _ 0 _)) H
  rw [e]
  exact hq
end
/-! ### enumerate of a tuple, from the count c -/
def ItE (K : PySem.W.Frag) (a : Addr) (c : Int) (xs : List V) : It :=
  ⟨fun i H => SqT K H a xs ∧ i < xs.length, fun i H v H' => ∃ T, v = .ref T ∧ H T = none ∧ H' = upd H T (.tup [.int (c + (i : Nat)), xs.getD i .non]), fun i H => SqT K H a xs ∧ i = xs.length⟩
theorem turn_enumT {P : Program} {w : World} {K : PySem.W.Frag} {elts : List Expr} {kk : Nat} {tpos : Pos} (a e it : Addr) (c : Int) (xs : List V) :
    Turn P w K (.Tuple elts kk tpos) (ItE K a c xs) [e, it] e (fun i h => (∃ old, IsEnum h e it (c + (i : Nat)) old) ∧ h.IsTupleIter it a i ∧ e ≠ it ∧ a ≠ it ∧ a ≠ e) where
  mem := List.mem_cons_self ..
  obj := fun i h st b hb => by
    obtain ⟨⟨old, he⟩, ⟨o, ho, hc, hd⟩, _⟩ := st
    rcases (show b = e ∨ b = it by simpa using hb) with rfl | rfl
    · exact ⟨_, he, fun v q => nomatch q⟩
    · exact ⟨o, ho, fun v q => by rw [hd] at q; cases q⟩
  keep := fun i h h' st k => by
    obtain ⟨⟨old, he⟩, hi, hne⟩ := st
    exact ⟨⟨old, k e (List.mem_cons_self ..) _ he⟩, hi.at fun o q => k it (by simp) o q, hne⟩
  item := by
    intro X hP hw hK hc i pins s σ H E I hf st hg
    subst hP hw hK
    obtain ⟨⟨old, he⟩, hit, hne, hai, hae⟩ := st
    obtain ⟨hq, hlt⟩ := hg
    obtain ⟨its, rv, p, hz⟩ := I.tuple hq
    have hel : e < s.heap.objs.size := Heap.lt_size he
    have hil : it < s.heap.objs.size := by obtain ⟨_, q, _⟩ := hit; exact Heap.lt_size q
    have hl : i < its.toArray.size := by rw [List.size_toArray, ← rv.length]; exact hlt
    have D : Draws X.prog X.w X.A.in1 it [it, a] its.toArray.size (fun i v => its.toArray[i]? = some v) (fun i h => h.IsTupleIter it a i ∧ h.IsTuple a its.toArray) := Draws.tuple (show X.A.in1.handled = none from I.ok.hd hc) it a hai its.toArray
    refine wpAny_pyNext_enum_itemC D he ⟨hit, p⟩ hl hne (by simp [hne, hae.symm]) fun u h' tk hu ho hst hT hsz hk => ?_
    refine ⟨_, rfl, wpAny_letOwnedTupleGo_enum (s := { s with heap := h', toks := tk + 1 }) ho fun h'' he' sb => ?_⟩
    obtain ⟨u', hu', ru⟩ := rv.get (show xs[i]? = some (xs.getD i .non) by simp [hlt])
    have eu : u = u' := by
      have q : its[i]? = some u := by simpa using hu
      rw [q] at hu'
      exact Option.some.inj hu'
    subst eu
    have hT2 : h''.get? s.heap.objs.size = some { cls := .type "tuple", data := .seq #[.int (c + (i : Nat)) tk, u] } := (sb.2 _ (Nat.ne_of_gt hel)).trans hT
    have new : ObjOk X.prog X.w (upd H s.heap.objs.size (.tup [.int (c + (i : Nat)), xs.getD i .non])) h'' s.heap.objs.size (.tup [.int (c + (i : Nat)), xs.getD i .non]) :=
      ⟨by show 2 ≤ sizeLine; decide, [.int (c + (i : Nat)) tk, u], .cons ⟨_, rfl⟩ (.cons ru .nil), ⟨_, hT2, rfl, _, rfl⟩⟩
    have kp : ∀ b o, b ∉ [e, it] → s.heap.get? b = some o → h''.get? b = some o := fun b ob hb q => by
      have h1 : b ≠ e := fun z => hb (by rw [z]; exact List.mem_cons_self ..)
      have h2 : b ≠ it := fun z => hb (by rw [z]; exact List.mem_cons_of_mem _ (List.mem_cons_self ..))
      exact (sb.2 b h1).trans (hk b ob h1 h2 q)
    have I1 : Inv X pins σ (upd H s.heap.objs.size (.tup [.int (c + (i : Nat)), xs.getD i .non])) { s with heap := h'', toks := tk + 1 } := I.turnedNew (ch := [e, it]) kp hf (Nat.le_refl _) new
    refine ⟨.ref s.heap.objs.size, _, I1, rfl, ⟨_, rfl, I.hok.fresh (Nat.le_refl _), rfl⟩, ⟨⟨u, ?_⟩, hst.1.at fun o q => (sb.2 it (Ne.symm hne)).trans q, hne, hai, hae⟩, fun b hb => ?_⟩
    · rw [show c + ((i + 1 : Nat) : Int) = c + (i : Int) + 1 by omega]
      exact he'
    · have hb' : b < s.heap.objs.size := by
        rcases (show b = e ∨ b = it by simpa using hb) with rfl | rfl
        · exact hel
        · exact hil
      rw [upd_ne (Nat.ne_of_lt hb')]
      exact (hf b hb).1
  done := by
    intro X hP hw hK hc i pins s σ H E I hf st hg
    subst hP hw hK
    obtain ⟨⟨old, he⟩, hit, hne, hai, hae⟩ := st
    obtain ⟨hq, hle⟩ := hg
    obtain ⟨its, rv, p, hz⟩ := I.tuple hq
    have hl : i = its.toArray.size := by rw [List.size_toArray, ← rv.length]; exact hle
    have D : Draws X.prog X.w X.A.in1 it [it, a] its.toArray.size (fun i v => its.toArray[i]? = some v) (fun i h => h.IsTupleIter it a i ∧ h.IsTuple a its.toArray) := Draws.tuple (show X.A.in1.handled = none from I.ok.hd hc) it a hai its.toArray
    obtain ⟨f0, f1, f2, f3, f4, f5⟩ := hf it (by simp)
    exact wpAny_pyNext_enum_endD D he (by rw [← hl]; exact ⟨hit, p⟩) fun h' eb => ⟨rfl, I.turned (t' := s.toks) (fun b o hb q => eb b o hb q) f0 f1 f3 f4 f5⟩
  self := fun A i s Q E st h => let ⟨⟨_, he⟩, _⟩ := st; wpAny_pyIter_enum he h

/-- enumerate(t): its two new records -/
theorem meets_enum_tup (l : Addr) (items : Array Value) :
    Meets (Builtin.«enumerate.__new__» ⟨[.type "enumerate", .ref l], []⟩) (fun _ R s => s.heap.IsTuple l items ∧
      R (.ok (.ret (.ref (s.heap.push { cls := .type "tuple_iterator", data := .fields #[.ref l, .int 0 0] }).objs.size)))
        { s with heap := (s.heap.push { cls := .type "tuple_iterator", data := .fields #[.ref l, .int 0 0] }).push { cls := .type "enumerate", data := .fields #[.none, .bool false, .ref s.heap.objs.size, rawInt 0, .none, .none] } }) :=
  .of_wp fun prog w A R s h => by
    obtain ⟨hp, g, d, tk, os⟩ := s
    obtain ⟨hl, h⟩ := h
    have hsub := sub_enumerate
    have hL : Heap.IsTuple (Shared.heap ⟨hp, g, d, tk, os⟩) l items := hl
    wp_walk using wpAny_pyIter_tuple hL
    refine wpAny_stack_any fun st => wpAny_pure ?_
    split
    · rename_i c _ _ _ _ _
      cases (c == Value.type "enumerate")
      all_goals
        wp_walk using wpAny_pyIter_tuple hL
        exact ⟨_, rfl, h⟩
    · wp_walk using wpAny_pyIter_tuple hL
      exact ⟨_, rfl, h⟩
section
variable {prog : Program} {w : World} {A : Around} {E : Value → Shared → Prop} {s : Shared}
theorem call_enum_tup {l : Addr} {items : Array Value} {Q : Value → Shared → Prop} (hL : s.heap.IsTuple l items)
    (h : ∀ h', IsEnum h' (s.heap.objs.size + 1) s.heap.objs.size 0 .none → h'.IsTupleIter s.heap.objs.size l 0 → (∀ b o, s.heap.get? b = some o → h'.get? b = some o) → Q (.ref (s.heap.objs.size + 1)) { s with heap := h' }) :
    wpAny (model prog w) A (call (.type "enumerate") [.ref l]) Q E s := by
  refine callType_new F.called_enumerate (by decide) (F.typeCall_enumerate_1 _) (F.newCall_enumerate_1 _) (fun obj => F.args_object_init_2 obj _) F.entry_enumerate_new (meets_enum_tup l items) ⟨hL, ?_⟩
  have hz : (s.heap.push { cls := .type "tuple_iterator", data := .fields #[.ref l, .int 0 0] }).objs.size = s.heap.objs.size + 1 := Heap.size_push ..
  show _ ∧ _
  rw [hz]
  have he : IsEnum ((s.heap.push { cls := .type "tuple_iterator", data := .fields #[.ref l, .int 0 0] }).push { cls := .type "enumerate", data := .fields #[.none, .bool false, .ref s.heap.objs.size, rawInt 0, .none, .none] })
      (s.heap.objs.size + 1) s.heap.objs.size 0 .none := by
    have q := Heap.get?_push_size (s.heap.push { cls := .type "tuple_iterator", data := .fields #[.ref l, .int 0 0] }) (o := { cls := .type "enumerate", data := .fields #[.none, .bool false, .ref s.heap.objs.size, rawInt 0, .none, .none] }) rfl
    rw [hz] at q
    exact q
  exact ⟨⟨_, he, rfl⟩, h _ he ⟨_, Heap.get?_push_of_some _ (Heap.get?_push_size _ rfl), rfl, rfl⟩ fun b o x => Heap.get?_push_of_some _ (Heap.get?_push_of_some _ x)⟩
end
section
variable {X : Cx}
/-- the two records of an enumerate just made -/
theorem enum_pie {elts : List Expr} {kk : Nat} {tpos : Pos} {pins : List (Addr × Obj)} {σ : L2.St} {H : Hp} {s : Shared} {R : It → Hp → Prop} {a : Addr} {xs : List V} {c : Int} {h' : Heap} {E : Value → Shared → Prop} (I : Inv X pins σ H s) (hq : SqT X.K H a xs)
    (he : IsEnum h' (s.heap.objs.size + 1) s.heap.objs.size c .none) (hit : h'.IsTupleIter s.heap.objs.size a 0) (hk : ∀ b o, s.heap.get? b = some o → h'.get? b = some o) (q : R (ItE X.K a c xs) H) :
    wpAny (model X.prog X.w) X.A (pyIter (.ref (s.heap.objs.size + 1))) (PIE X pins σ (.Tuple elts kk tpos) R) E { s with heap := h' } := by
  obtain ⟨its, rv, ⟨o, ho, _⟩, hz⟩ := I.tuple hq
  have hal : a < s.heap.objs.size := Heap.lt_size ho
  have I2 : Inv X pins σ H { s with heap := h' } := I.kept (t' := s.toks) hk
  refine wpAny_pyIter_enum he ⟨s.heap.objs.size + 1, [s.heap.objs.size + 1, s.heap.objs.size], _, _, H, rfl, I2, turn_enumT a (s.heap.objs.size + 1) s.heap.objs.size c xs, ⟨⟨.none, ?_⟩, hit, Nat.succ_ne_self _, Nat.ne_of_lt hal, Nat.ne_of_lt (Nat.lt_succ_of_lt hal)⟩, fun b hb => ?_, q⟩
  · rw [show c + ((0 : Nat) : Int) = c by simp]
    exact he
  · have hle : s.heap.objs.size ≤ b := by
      rcases (show b = s.heap.objs.size + 1 ∨ b = s.heap.objs.size by simpa using hb) with z | z
      · rw [z]; exact Nat.le_add_right _ _
      · rw [z]; exact Nat.le_refl _
    exact I.fpOk hle (I.hok.fresh hle)
def iEnT (K : PySem.W.Frag) (ta : TA) : TI := fun σ H R => ta σ H fun vs H1 => ∃ a xs, vs = [.ref a] ∧ SqT K H1 a xs ∧ R (ItE K a 0 xs) H1
theorem pi_enT {e : Expr} {ta : TA} {p pos tpos : Pos} {elts : List Expr} {kk : Nat} (hg : Gl X "enumerate") (hm : X.mg "enumerate" = none) (ha : PA X [e] ta) (hs : starEach [e] X.env = [(false, eval e X.env)] := by rfl) :
    PI X (.Tuple elts kk tpos) (.Call (.Name "enumerate" p) [e] [] pos) (iEnT X.K ta) := by
  refine ⟨fun pins s σ H R I h => Call_ (ld_blt I hg hm boot_enumerate (PyProof.Rows.callWith_type1 (thn (ha.run pos pins s σ H _ I h) fun us s1 ⟨vs, H1, I1, r1, q1⟩ => ?_) hs rfl))⟩
  obtain ⟨a, xs, rfl, hq, q⟩ := q1
  obtain ⟨u, rfl, ru⟩ := vals1 r1
  cases ru
  obtain ⟨its, rv, p', hz⟩ := I1.tuple hq
  exact call_enum_tup (show s1.heap.IsTuple a its.toArray from p') fun h' he hit hk => enum_pie I1 hq he hit hk q
/-- enumerate(t, c) -/
def iEnTC (K : PySem.W.Frag) (ta : TA) : TI := fun σ H R => ta σ H fun vs H1 => ∃ a xs c, vs = [.ref a, .int c] ∧ -(2 ^ 63) ≤ c ∧ c < 2 ^ 63 ∧ SqT K H1 a xs ∧ R (ItE K a c xs) H1
theorem pi_enTC {e e2 : Expr} {ta : TA} {p pos tpos : Pos} {elts : List Expr} {kk : Nat} (hg : Gl X "enumerate") (hm : X.mg "enumerate" = none) (ha : PA X [e, e2] ta)
    (hs : starEach [e, e2] X.env = (false, eval e X.env) :: starEach [e2] X.env := by rfl) (hpl : (backTo pos (starEach [e2] X.env)).any (·.1) = false := by rfl) :
    PI X (.Tuple elts kk tpos) (.Call (.Name "enumerate" p) [e, e2] [] pos) (iEnTC X.K ta) := by
  refine ⟨fun pins s σ H R I h => Call_ (ld_blt I hg hm boot_enumerate (PyProof.Rows.callWith_type1 (thn (ha.run pos pins s σ H _ I h) fun us s1 ⟨vs, H1, I1, r1, q1⟩ => ?_) hs hpl))⟩
  obtain ⟨a, xs, c, rfl, h0, h1, hq, q⟩ := q1
  obtain ⟨u, u', rfl, ru, t, rfl⟩ := vals2 r1
  cases ru
  obtain ⟨its, rv, p', hz⟩ := I1.tuple hq
  refine enum_begins (begins_tuple a its.toArray) (show s1.heap.IsTuple a its.toArray from p') h0 h1 fun h' he hit hsz hk => enum_pie I1 hq he ⟨_, hit, rfl, rfl⟩ hk q
end
/-- the turns of such an enumerate -/
theorem walk_enT {K : PySem.W.Frag} {a : Addr} {c : Int} {xs : List V} : Walk (ItE K a c xs) xs.length (fun H => SqT K H a xs) (fun i H v H' => ∃ T, v = .ref T ∧ H T = none ∧ H' = upd H T (.tup [.int (c + (i : Nat)), xs.getD i .non])) :=
  ⟨fun _ _ hi q => ⟨q, hi⟩, fun _ q => ⟨q, rfl⟩, fun _ _ _ _ _ _ y => y⟩
end K45R

set_option maxRecDepth 100000
set_option maxHeartbeats 4000000
/-! zip(t, *l): a tuple and the three tuples of a list; its seven records lie from N on. -/
namespace K45R
open PySem PySem.Spec PyProof.Rows L2

abbrev Tup4 (h : Heap) (T : Addr) (a b c d : Value) : Prop := h.get? T = some { cls := .type "tuple", data := .seq #[a, b, c, d] }
/-- the records of such a zip before its turn k -/
structure ZSt (N : Nat) (l1 l2 l3 l4 : Addr) (k : Nat) (h : Heap) (f0 : Value) : Prop where
  z : IsZip h (N + 6 : Nat) (N + 4 : Nat) (N + 5 : Nat) f0
  ti : Tup4 h (N + 4 : Nat) (.ref (N : Nat)) (.ref (N + 1 : Nat)) (.ref (N + 2 : Nat)) (.ref (N + 3 : Nat))
  to : ∃ a b c d, Tup4 h (N + 5 : Nat) a b c d
  i1 : h.IsTupleIter (N : Nat) l1 k
  i2 : h.IsTupleIter (N + 1 : Nat) l2 k
  i3 : h.IsTupleIter (N + 2 : Nat) l3 k
  i4 : h.IsTupleIter (N + 3 : Nat) l4 k
theorem ZSt.at {N : Nat} {l1 l2 l3 l4 : Addr} {k : Nat} {h h' : Heap} {f0 : Value} (S : ZSt N l1 l2 l3 l4 k h f0) (hk : ∀ b : Nat, N ≤ b → b ≤ N + 6 → ∀ o, h.get? b = some o → h'.get? b = some o) : ZSt N l1 l2 l3 l4 k h' f0 where
  z := hk _ (by omega) (by omega) _ S.z
  ti := hk _ (by omega) (by omega) _ S.ti
  to := let ⟨a, b, c, d, e⟩ := S.to; ⟨a, b, c, d, hk _ (by omega) (by omega) _ e⟩
  i1 := S.i1.at fun o e => hk _ (by omega) (by omega) o e
  i2 := S.i2.at fun o e => hk _ (by omega) (by omega) o e
  i3 := S.i3.at fun o e => hk _ (by omega) (by omega) o e
  i4 := S.i4.at fun o e => hk _ (by omega) (by omega) o e
section
variable {prog : Program} {w : World} {A : Around} {E : Value → Shared → Prop} {s : Shared}
theorem upd4 {T : Addr} {a b c d x : Value} {k : Nat} {Q : Unit → Shared → Prop} (hT : Tup4 s.heap T a b c d)
    (h : ∀ h', h'.get? T = some { cls := .type "tuple", data := .seq ((#[a, b, c, d] : Array Value).setIfInBounds k x) } → Heap.SameBut T s.heap h' → Q () { s with heap := h' }) :
    wpAny (model prog w) A (updateSeq T (·.setIfInBounds k x)) Q E s := by
  refine wpAny_updateSeq hT rfl (h _ ?_ (Heap.SameBut.update ..))
  rw [Heap.get?_update_self _ hT rfl]
  simp [Obj.mapSeq]
theorem zip4_item {N k l1 l2 l3 l4 : Nat} {xs1 xs2 xs3 xs4 : Array Value} {x1 x2 x3 x4 : Value} {Q : Option Value → Shared → Prop}
    (n1 : l1 < N) (n2 : l2 < N) (n3 : l3 < N) (n4 : l4 < N) (S : ZSt N l1 l2 l3 l4 k s.heap .none)
    (t1 : s.heap.IsTuple l1 xs1) (t2 : s.heap.IsTuple l2 xs2) (t3 : s.heap.IsTuple l3 xs3) (t4 : s.heap.IsTuple l4 xs4) (e1 : xs1[k]? = some x1) (e2 : xs2[k]? = some x2) (e3 : xs3[k]? = some x3) (e4 : xs4[k]? = some x4)
    (hQ : ∀ h', ZSt N l1 l2 l3 l4 (k + 1) h' (rawInt s.heap.objs.size) → Tup4 h' s.heap.objs.size x1 x2 x3 x4 → (∀ c : Nat, ¬ (N ≤ c ∧ c ≤ N + 6) → ∀ o, s.heap.get? c = some o → h'.get? c = some o) → Q (some (.ref s.heap.objs.size)) { s with heap := h' }) :
    wpAny (model prog w) A (pyNext (.ref (N + 6 : Nat))) Q E s := by
  obtain ⟨hz, hTI, ⟨a, b, c, d, hTO⟩, h1, h2, h3, h4⟩ := S
  have hty : s.TypeIs (.ref (N + 6 : Nat)) "zip" := ⟨_, hz, rfl⟩
  have lt : (N + 6 : Nat) < s.heap.objs.size := Heap.lt_size hz
  unfold pyNext
  refine wpAny_bind (wpAny_attempt (wpAny_callSpecial?_slot (name := Str.ofString "__next__") hty F.slot_zip_next (wpAny_call_entry F.slot_zip_next hty F.entry_zip_next ?_ (F.args_zip_next_1 _))))
  show wpAny _ _ (field (.ref (N + 6 : Nat)) 2 >>= _) _ _ _
  refine wpAny_bind (wpAny_field hz rfl (x := .bool false) rfl ?_)
  show wpAny _ _ (field (.ref (N + 6 : Nat)) 3 >>= _) _ _ _
  refine wpAny_bind (wpAny_field hz rfl (x := .ref (N + 4 : Nat)) rfl (wpAny_bind (wpAny_seqItems hTI rfl ?_)))
  show wpAny _ _ (Builtin.SmallTypes.ownedTupleIsFree (.ref (N + 6 : Nat)) >>= _) _ _ _
  refine wpAny_bind ?_
  unfold Builtin.SmallTypes.ownedTupleIsFree
  refine wpAny_bind (wpAny_field hz rfl (x := .none) rfl (wpAny_pure ?_))
  simp only [if_true]
  refine wpAny_bind (wpAny_rule (wpAny_bind (wpAny_field hz rfl (x := .ref (N + 5 : Nat)) rfl (wpAny_bind (wpAny_setField_rec hz (by simp) fun g0 hz0 s0 => ?_)))))
  replace hz0 : IsZip g0 (N + 6 : Nat) (N + 4 : Nat) (N + 5 : Nat) .ellipsis := hz0
  have k0 : ∀ c : Nat, c ≠ N + 6 → ∀ o, s.heap.get? c = some o → g0.get? c = some o := fun c hc o e => s0.extBut _ _ hc e
  have q0 : Tup4 g0 (N + 5 : Nat) a b c d := k0 _ (by omega) _ hTO
  have z0 : g0.objs.size = s.heap.objs.size := s0.1
  refine wpAny_bind ?_
  simp only [List.zipIdx_cons, List.zipIdx_nil, List.forIn_cons, List.forIn_nil]
  -- the draw from the iterator 1
  refine wpAny_bind (wpAny_bind (wpAny_onRaise ?_))
  show wpAny _ _ (Builtin.SmallTypes.nextOf (.ref (N + 0 : Nat)) >>= _) _ _ { s with heap := g0 }
  have r1 : g0.IsTupleIter (N + 0 : Nat) l1 k := h1.at fun o e => k0 _ (by omega) o e
  have v1 : g0.IsTuple l1 xs1 := t1.at fun o e => k0 _ (by omega) o e
  refine wpAny_bind (wpAny_nextOf_tuple_item (s := { s with heap := g0 }) r1 v1 e1 fun f1 m1 sf1 => wpAny_pure ?_)
  replace sf1 : Heap.SameBut (N + 0 : Nat) g0 f1 := sf1
  replace m1 : f1.IsTupleIter (N + 0 : Nat) l1 (k + 1) := m1
  have p1 : Tup4 f1 (N + 5 : Nat) a b c d := sf1.extBut _ _ (show (N + 5 : Nat) ≠ N + 0 by omega) q0
  refine wpAny_bind (wpAny_seqItems (s := { s with heap := f1 }) p1 rfl (wpAny_bind (upd4 (s := { s with heap := f1 }) p1 fun g1 q1 sg1 => ?_)))
  replace q1 : Tup4 g1 (N + 5 : Nat) x1 b c d := q1
  replace sg1 : Heap.SameBut (N + 5 : Nat) f1 g1 := sg1
  have k1 : ∀ c : Nat, c ≠ N + 6 → ¬ (N ≤ c ∧ c < N + 1) → c ≠ N + 5 → ∀ o, s.heap.get? c = some o → g1.get? c = some o := fun c h6 hm h5 o e => sg1.extBut _ _ h5 (sf1.extBut _ _ (show c ≠ N + 0 by omega) (k0 c h6 o e))
  have z1 : g1.objs.size = s.heap.objs.size := by rw [sg1.1, sf1.1, z0]
  refine wpAny_bind (wpAny_letGo (wpAny_pure ?_))
  -- the draw from the iterator 2
  refine wpAny_bind (wpAny_bind (wpAny_onRaise ?_))
  show wpAny _ _ (Builtin.SmallTypes.nextOf (.ref (N + 1 : Nat)) >>= _) _ _ { s with heap := g1 }
  have r2 : g1.IsTupleIter (N + 1 : Nat) l2 k := h2.at fun o e => k1 _ (by omega) (by omega) (by omega) o e
  have v2 : g1.IsTuple l2 xs2 := t2.at fun o e => k1 _ (by omega) (by omega) (by omega) o e
  refine wpAny_bind (wpAny_nextOf_tuple_item (s := { s with heap := g1 }) r2 v2 e2 fun f2 m2 sf2 => wpAny_pure ?_)
  replace sf2 : Heap.SameBut (N + 1 : Nat) g1 f2 := sf2
  replace m2 : f2.IsTupleIter (N + 1 : Nat) l2 (k + 1) := m2
  have p2 : Tup4 f2 (N + 5 : Nat) x1 b c d := sf2.extBut _ _ (show (N + 5 : Nat) ≠ N + 1 by omega) q1
  refine wpAny_bind (wpAny_seqItems (s := { s with heap := f2 }) p2 rfl (wpAny_bind (upd4 (s := { s with heap := f2 }) p2 fun g2 q2 sg2 => ?_)))
  replace q2 : Tup4 g2 (N + 5 : Nat) x1 x2 c d := q2
  replace sg2 : Heap.SameBut (N + 5 : Nat) f2 g2 := sg2
  have k2 : ∀ c : Nat, c ≠ N + 6 → ¬ (N ≤ c ∧ c < N + 2) → c ≠ N + 5 → ∀ o, s.heap.get? c = some o → g2.get? c = some o := fun c h6 hm h5 o e => sg2.extBut _ _ h5 (sf2.extBut _ _ (show c ≠ N + 1 by omega) (k1 c h6 (by omega) h5 o e))
  have z2 : g2.objs.size = s.heap.objs.size := by rw [sg2.1, sf2.1, z1]
  refine wpAny_bind (wpAny_letGo (wpAny_pure ?_))
  -- the draw from the iterator 3
  refine wpAny_bind (wpAny_bind (wpAny_onRaise ?_))
  show wpAny _ _ (Builtin.SmallTypes.nextOf (.ref (N + 2 : Nat)) >>= _) _ _ { s with heap := g2 }
  have r3 : g2.IsTupleIter (N + 2 : Nat) l3 k := h3.at fun o e => k2 _ (by omega) (by omega) (by omega) o e
  have v3 : g2.IsTuple l3 xs3 := t3.at fun o e => k2 _ (by omega) (by omega) (by omega) o e
  refine wpAny_bind (wpAny_nextOf_tuple_item (s := { s with heap := g2 }) r3 v3 e3 fun f3 m3 sf3 => wpAny_pure ?_)
  replace sf3 : Heap.SameBut (N + 2 : Nat) g2 f3 := sf3
  replace m3 : f3.IsTupleIter (N + 2 : Nat) l3 (k + 1) := m3
  have p3 : Tup4 f3 (N + 5 : Nat) x1 x2 c d := sf3.extBut _ _ (show (N + 5 : Nat) ≠ N + 2 by omega) q2
  refine wpAny_bind (wpAny_seqItems (s := { s with heap := f3 }) p3 rfl (wpAny_bind (upd4 (s := { s with heap := f3 }) p3 fun g3 q3 sg3 => ?_)))
  replace q3 : Tup4 g3 (N + 5 : Nat) x1 x2 x3 d := q3
  replace sg3 : Heap.SameBut (N + 5 : Nat) f3 g3 := sg3
  have k3 : ∀ c : Nat, c ≠ N + 6 → ¬ (N ≤ c ∧ c < N + 3) → c ≠ N + 5 → ∀ o, s.heap.get? c = some o → g3.get? c = some o := fun c h6 hm h5 o e => sg3.extBut _ _ h5 (sf3.extBut _ _ (show c ≠ N + 2 by omega) (k2 c h6 (by omega) h5 o e))
  have z3 : g3.objs.size = s.heap.objs.size := by rw [sg3.1, sf3.1, z2]
  refine wpAny_bind (wpAny_letGo (wpAny_pure ?_))
  -- the draw from the iterator 4
  refine wpAny_bind (wpAny_bind (wpAny_onRaise ?_))
  show wpAny _ _ (Builtin.SmallTypes.nextOf (.ref (N + 3 : Nat)) >>= _) _ _ { s with heap := g3 }
  have r4 : g3.IsTupleIter (N + 3 : Nat) l4 k := h4.at fun o e => k3 _ (by omega) (by omega) (by omega) o e
  have v4 : g3.IsTuple l4 xs4 := t4.at fun o e => k3 _ (by omega) (by omega) (by omega) o e
  refine wpAny_bind (wpAny_nextOf_tuple_item (s := { s with heap := g3 }) r4 v4 e4 fun f4 m4 sf4 => wpAny_pure ?_)
  replace sf4 : Heap.SameBut (N + 3 : Nat) g3 f4 := sf4
  replace m4 : f4.IsTupleIter (N + 3 : Nat) l4 (k + 1) := m4
  have p4 : Tup4 f4 (N + 5 : Nat) x1 x2 x3 d := sf4.extBut _ _ (show (N + 5 : Nat) ≠ N + 3 by omega) q3
  refine wpAny_bind (wpAny_seqItems (s := { s with heap := f4 }) p4 rfl (wpAny_bind (upd4 (s := { s with heap := f4 }) p4 fun g4 q4 sg4 => ?_)))
  replace q4 : Tup4 g4 (N + 5 : Nat) x1 x2 x3 x4 := q4
  replace sg4 : Heap.SameBut (N + 5 : Nat) f4 g4 := sg4
  have k4 : ∀ c : Nat, c ≠ N + 6 → ¬ (N ≤ c ∧ c < N + 4) → c ≠ N + 5 → ∀ o, s.heap.get? c = some o → g4.get? c = some o := fun c h6 hm h5 o e => sg4.extBut _ _ h5 (sf4.extBut _ _ (show c ≠ N + 3 by omega) (k3 c h6 (by omega) h5 o e))
  have z4 : g4.objs.size = s.heap.objs.size := by rw [sg4.1, sf4.1, z3]
  refine wpAny_bind (wpAny_letGo (wpAny_pure (wpAny_pure ?_)))
  have hz4 : IsZip g4 (N + 6 : Nat) (N + 4 : Nat) (N + 5 : Nat) .ellipsis := sg4.extBut _ _ (show (N + 6 : Nat) ≠ N + 5 by omega) (sf4.extBut _ _ (show (N + 6 : Nat) ≠ N + 3 by omega) (sg3.extBut _ _ (show (N + 6 : Nat) ≠ N + 5 by omega) (sf3.extBut _ _ (show (N + 6 : Nat) ≠ N + 2 by omega) (sg2.extBut _ _ (show (N + 6 : Nat) ≠ N + 5 by omega) (sf2.extBut _ _ (show (N + 6 : Nat) ≠ N + 1 by omega) (sg1.extBut _ _ (show (N + 6 : Nat) ≠ N + 5 by omega) (sf1.extBut _ _ (show (N + 6 : Nat) ≠ N + 0 by omega) (hz0))))))))
  refine wpAny_bind (wpAny_seqItems (s := { s with heap := g4 }) q4 rfl (wpAny_bind (wpAny_newTuple ?_)))
  show wpAny _ _ (Builtin.SmallTypes.ownedTupleHandOut (.ref (N + 6 : Nat)) (.ref g4.objs.size) >>= _) _ _ { s with heap := g4.push { cls := .type "tuple", data := .seq #[x1, x2, x3, x4] } }
  refine wpAny_bind ?_
  unfold Builtin.SmallTypes.ownedTupleHandOut
  have hz5 : IsZip (g4.push { cls := .type "tuple", data := .seq #[x1, x2, x3, x4] }) (N + 6 : Nat) (N + 4 : Nat) (N + 5 : Nat) .ellipsis := Heap.get?_push_of_some _ hz4
  refine wpAny_bind (wpAny_setField_rec hz5 (by simp) fun h6 hz6 s6 => ?_)
  replace hz6 : IsZip h6 (N + 6 : Nat) (N + 4 : Nat) (N + 5 : Nat) (rawInt g4.objs.size) := hz6
  replace s6 : Heap.SameBut (N + 6 : Nat) (g4.push { cls := .type "tuple", data := .seq #[x1, x2, x3, x4] }) h6 := s6
  refine wpAny_setField_rec hz6 (by simp) fun h7 hz7 s7 => wpAny_pure ⟨_, rfl, wpAny_pure ?_⟩
  replace hz7 : IsZip h7 (N + 6 : Nat) (N + 4 : Nat) (N + 5 : Nat) (rawInt g4.objs.size) := hz7
  replace s7 : Heap.SameBut (N + 6 : Nat) h6 h7 := s7
  have up : ∀ c : Nat, c ≠ N + 6 → ∀ o, g4.get? c = some o → h7.get? c = some o := fun c hc o e => s7.extBut _ _ hc (s6.extBut _ _ hc (Heap.get?_push_of_some _ e))
  have hT : Tup4 h7 g4.objs.size x1 x2 x3 x4 := s7.extBut _ _ (show (g4.objs.size : Nat) ≠ N + 6 by omega) (s6.extBut _ _ (show (g4.objs.size : Nat) ≠ N + 6 by omega) (Heap.get?_push_size _ rfl))
  rw [z4] at hz7 hT
  show Q (some (.ref g4.objs.size)) { s with heap := h7 }
  rw [z4]
  refine hQ h7 ⟨hz7, up _ (by omega) _ (k4 _ (by omega) (by omega) (by omega) _ hTI), ⟨_, _, _, _, up _ (by omega) _ q4⟩, ?_, ?_, ?_, ?_⟩ hT fun c hc o e => up c (by omega) o (k4 c (by omega) (by omega) (by omega) o e)
  · exact (m1.at fun o e => sg4.extBut _ _ (show (N + 0 : Nat) ≠ N + 5 by omega) (sf4.extBut _ _ (show (N + 0 : Nat) ≠ N + 3 by omega) (sg3.extBut _ _ (show (N + 0 : Nat) ≠ N + 5 by omega) (sf3.extBut _ _ (show (N + 0 : Nat) ≠ N + 2 by omega) (sg2.extBut _ _ (show (N + 0 : Nat) ≠ N + 5 by omega) (sf2.extBut _ _ (show (N + 0 : Nat) ≠ N + 1 by omega) (sg1.extBut _ _ (show (N + 0 : Nat) ≠ N + 5 by omega) e))))))).at fun o e => up _ (by omega) o e
  · exact (m2.at fun o e => sg4.extBut _ _ (show (N + 1 : Nat) ≠ N + 5 by omega) (sf4.extBut _ _ (show (N + 1 : Nat) ≠ N + 3 by omega) (sg3.extBut _ _ (show (N + 1 : Nat) ≠ N + 5 by omega) (sf3.extBut _ _ (show (N + 1 : Nat) ≠ N + 2 by omega) (sg2.extBut _ _ (show (N + 1 : Nat) ≠ N + 5 by omega) e))))).at fun o e => up _ (by omega) o e
  · exact (m3.at fun o e => sg4.extBut _ _ (show (N + 2 : Nat) ≠ N + 5 by omega) (sf4.extBut _ _ (show (N + 2 : Nat) ≠ N + 3 by omega) (sg3.extBut _ _ (show (N + 2 : Nat) ≠ N + 5 by omega) e))).at fun o e => up _ (by omega) o e
  · exact (m4.at fun o e => sg4.extBut _ _ (show (N + 3 : Nat) ≠ N + 5 by omega) e).at fun o e => up _ (by omega) o e
/-- the first tuple is at its end -/
theorem zip4_end {N k l1 l2 l3 l4 : Nat} {xs1 : Array Value} {Q : Option Value → Shared → Prop} (hh : A.handled = none) (n1 : l1 < N) (S : ZSt N l1 l2 l3 l4 k s.heap .none) (t1 : s.heap.IsTuple l1 xs1) (e1 : xs1[k]? = none)
    (hQ : ∀ h', (∀ c : Nat, ¬ (N ≤ c ∧ c ≤ N + 6) → ∀ o, s.heap.get? c = some o → h'.get? c = some o) → Q none { s with heap := h' }) :
    wpAny (model prog w) A (pyNext (.ref (N + 6 : Nat))) Q E s := by
  obtain ⟨hz, hTI, ⟨a, b, c, d, hTO⟩, h1, h2, h3, h4⟩ := S
  have hty : s.TypeIs (.ref (N + 6 : Nat)) "zip" := ⟨_, hz, rfl⟩
  unfold pyNext
  refine wpAny_bind (wpAny_attempt (wpAny_callSpecial?_slot (name := Str.ofString "__next__") hty F.slot_zip_next (wpAny_call_entry F.slot_zip_next hty F.entry_zip_next ?_ (F.args_zip_next_1 _))))
  show wpAny _ _ (field (.ref (N + 6 : Nat)) 2 >>= _) _ _ _
  refine wpAny_bind (wpAny_field hz rfl (x := .bool false) rfl ?_)
  show wpAny _ _ (field (.ref (N + 6 : Nat)) 3 >>= _) _ _ _
  refine wpAny_bind (wpAny_field hz rfl (x := .ref (N + 4 : Nat)) rfl (wpAny_bind (wpAny_seqItems hTI rfl ?_)))
  show wpAny _ _ (Builtin.SmallTypes.ownedTupleIsFree (.ref (N + 6 : Nat)) >>= _) _ _ _
  refine wpAny_bind ?_
  unfold Builtin.SmallTypes.ownedTupleIsFree
  refine wpAny_bind (wpAny_field hz rfl (x := .none) rfl (wpAny_pure ?_))
  simp only [if_true]
  refine wpAny_bind (wpAny_rule (wpAny_bind (wpAny_field hz rfl (x := .ref (N + 5 : Nat)) rfl (wpAny_bind (wpAny_setField_rec hz (by simp) fun g0 hz0 s0 => ?_)))))
  replace hz0 : IsZip g0 (N + 6 : Nat) (N + 4 : Nat) (N + 5 : Nat) .ellipsis := hz0
  have k0 : ∀ c : Nat, c ≠ N + 6 → ∀ o, s.heap.get? c = some o → g0.get? c = some o := fun c hc o e => s0.extBut _ _ hc e
  refine wpAny_bind ?_
  simp only [List.zipIdx_cons, List.zipIdx_nil, List.forIn_cons, List.forIn_nil]
  refine wpAny_bind (wpAny_bind (wpAny_onRaise ?_))
  show wpAny _ _ (Builtin.SmallTypes.nextOf (.ref (N + 0 : Nat)) >>= _) _ _ { s with heap := g0 }
  have r1 : g0.IsTupleIter (N + 0 : Nat) l1 k := h1.at fun o e => k0 _ (by omega) o e
  have v1 : g0.IsTuple l1 xs1 := t1.at fun o e => k0 _ (by omega) o e
  refine wpAny_bind (wpAny_nextOf_tuple_end (s := { s with heap := g0 }) (show A.in1.handled = none from hh) r1 v1 e1 fun q x hq hx => ?_)
  replace hq : Heap.ExtBut (N + 0 : Nat) g0 q := hq
  obtain ⟨ox, hox, hcx⟩ := hx
  replace hox : q.get? x = some ox := hox
  have hzq : IsZip q (N + 6 : Nat) (N + 4 : Nat) (N + 5 : Nat) .ellipsis := hq _ _ (show (N + 6 : Nat) ≠ N + 0 by omega) hz0
  have hez : x ≠ (N + 6 : Nat) := fun y => by
    rw [y] at hox
    rw [hzq] at hox
    cases hox
    simp at hcx
  refine wpAny_setField_rec (s := { s with heap := q }) hzq (by simp) fun q' _ hq' => ?_
  replace hq' : Heap.SameBut (N + 6 : Nat) q q' := hq'
  refine wpAny_bind (wpAny_isInstance (T := "StopIteration") (b := true) ⟨ox, hq'.extBut _ _ hez hox, hcx⟩ isSubtype_stop ?_)
  exact wpAny_pure (hQ _ fun c hc o e => hq'.extBut _ _ (show c ≠ N + 6 by omega) (hq _ _ (show c ≠ N + 0 by omega) (k0 c (by omega) o e)))
end
/-! ### its making -/
abbrev zO1 (l : Addr) : Obj := { cls := .type "tuple_iterator", data := .fields #[.ref l, .int 0 0] }
abbrev zh4 (h : Heap) (l1 l2 l3 l4 : Addr) : Heap := (((h.push (zO1 l1)).push (zO1 l2)).push (zO1 l3)).push (zO1 l4)
abbrev zh5 (h : Heap) (l1 l2 l3 l4 : Addr) : Heap := (zh4 h l1 l2 l3 l4).push { cls := .type "tuple", data := .seq #[.ref h.objs.size, .ref (h.push (zO1 l1)).objs.size, .ref ((h.push (zO1 l1)).push (zO1 l2)).objs.size, .ref (((h.push (zO1 l1)).push (zO1 l2)).push (zO1 l3)).objs.size] }
abbrev zh6 (h : Heap) (l1 l2 l3 l4 : Addr) : Heap := (zh5 h l1 l2 l3 l4).push { cls := .type "tuple", data := .seq #[.none, .none, .none, .none] }
abbrev zh7 (h : Heap) (l1 l2 l3 l4 : Addr) : Heap := (zh6 h l1 l2 l3 l4).push { cls := .type "zip", data := .fields #[.none, .bool false, .bool false, .ref (zh4 h l1 l2 l3 l4).objs.size, .ref (zh5 h l1 l2 l3 l4).objs.size] }
theorem zc_type (a b c d : Value) : checkTypeCall "zip" ⟨[a, b, c, d], []⟩ = pure () := by kernel_rfl
theorem zc_new (a b c d : Value) : checkBuiltinCall "zip.__new__" ⟨[.type "zip", a, b, c, d], []⟩ = pure () := by kernel_rfl
theorem zc_init (obj a b c d : Value) : argsOk "object.__init__" ⟨[obj, a, b, c, d], []⟩ := by unfold argsOk; kernel_rfl
theorem meets_zip4 (l1 l2 l3 l4 : Addr) (xs1 xs2 xs3 xs4 : Array Value) :
    Meets (Builtin.«zip.__new__» ⟨[.type "zip", .ref l1, .ref l2, .ref l3, .ref l4], []⟩) (fun _ R s => (s.heap.IsTuple l1 xs1 ∧ s.heap.IsTuple l2 xs2 ∧ s.heap.IsTuple l3 xs3 ∧ s.heap.IsTuple l4 xs4) ∧
      R (.ok (.ret (.ref (zh6 s.heap l1 l2 l3 l4).objs.size))) { s with heap := zh7 s.heap l1 l2 l3 l4 }) :=
  .of_wp fun prog w A R s h => by
    obtain ⟨hp, g, d, tk, os⟩ := s
    obtain ⟨⟨h1, h2, h3, h4⟩, h⟩ := h
    have hsub := sub_zip
    have a1 : Heap.IsTuple (Shared.heap ⟨hp, g, d, tk, os⟩) l1 xs1 := h1
    have a2 : Heap.IsTuple (Shared.heap ⟨hp.push (zO1 l1), g, d, tk, os⟩) l2 xs2 := Heap.IsTuple.push h2 _
    have a3 : Heap.IsTuple (Shared.heap ⟨(hp.push (zO1 l1)).push (zO1 l2), g, d, tk, os⟩) l3 xs3 := Heap.IsTuple.push (Heap.IsTuple.push h3 _) _
    have a4 : Heap.IsTuple (Shared.heap ⟨((hp.push (zO1 l1)).push (zO1 l2)).push (zO1 l3), g, d, tk, os⟩) l4 xs4 := Heap.IsTuple.push (Heap.IsTuple.push (Heap.IsTuple.push h4 _) _) _
    wp_walk using wpAny_pyIter_tuple a1, wpAny_pyIter_tuple a2, wpAny_pyIter_tuple a3, wpAny_pyIter_tuple a4
    exact ⟨_, rfl, h⟩
section
variable {prog : Program} {w : World} {A : Around} {E : Value → Shared → Prop} {s : Shared}
theorem call_zip4 {l1 l2 l3 l4 : Addr} {xs1 xs2 xs3 xs4 : Array Value} {Q : Value → Shared → Prop} (t1 : s.heap.IsTuple l1 xs1) (t2 : s.heap.IsTuple l2 xs2) (t3 : s.heap.IsTuple l3 xs3) (t4 : s.heap.IsTuple l4 xs4)
    (h : ∀ h', ZSt s.heap.objs.size l1 l2 l3 l4 0 h' .none → (∀ c o, s.heap.get? c = some o → h'.get? c = some o) → Q (.ref (s.heap.objs.size + 6 : Nat)) { s with heap := h' }) :
    wpAny (model prog w) A (call (.type "zip") [.ref l1, .ref l2, .ref l3, .ref l4]) Q E s := by
  refine callType_new F.called_zip (by decide) (zc_type _ _ _ _) (zc_new _ _ _ _) (fun obj => zc_init obj _ _ _ _) F.entry_zip_new (meets_zip4 l1 l2 l3 l4 xs1 xs2 xs3 xs4) ⟨⟨t1, t2, t3, t4⟩, ?_⟩
  have y1 : (s.heap.push (zO1 l1)).objs.size = s.heap.objs.size + 1 := Heap.size_push ..
  have y2 : ((s.heap.push (zO1 l1)).push (zO1 l2)).objs.size = s.heap.objs.size + 2 := by rw [Heap.size_push, y1]
  have y3 : (((s.heap.push (zO1 l1)).push (zO1 l2)).push (zO1 l3)).objs.size = s.heap.objs.size + 3 := by rw [Heap.size_push, y2]
  have y4 : (zh4 s.heap l1 l2 l3 l4).objs.size = s.heap.objs.size + 4 := by rw [Heap.size_push, y3]
  have y5 : (zh5 s.heap l1 l2 l3 l4).objs.size = s.heap.objs.size + 5 := by rw [Heap.size_push, y4]
  have y6 : (zh6 s.heap l1 l2 l3 l4).objs.size = s.heap.objs.size + 6 := by rw [Heap.size_push, y5]
  have p7 : (zh7 s.heap l1 l2 l3 l4).get? (zh6 s.heap l1 l2 l3 l4).objs.size = some _ := Heap.get?_push_size _ rfl
  have p6 : (zh7 s.heap l1 l2 l3 l4).get? (zh5 s.heap l1 l2 l3 l4).objs.size = some _ := Heap.get?_push_of_some _ (Heap.get?_push_size _ rfl)
  have p5 : (zh7 s.heap l1 l2 l3 l4).get? (zh4 s.heap l1 l2 l3 l4).objs.size = some _ := Heap.get?_push_of_some _ (Heap.get?_push_of_some _ (Heap.get?_push_size _ rfl))
  have p4 : (zh7 s.heap l1 l2 l3 l4).get? (((s.heap.push (zO1 l1)).push (zO1 l2)).push (zO1 l3)).objs.size = some _ := Heap.get?_push_of_some _ (Heap.get?_push_of_some _ (Heap.get?_push_of_some _ (Heap.get?_push_size _ rfl)))
  have p3 : (zh7 s.heap l1 l2 l3 l4).get? ((s.heap.push (zO1 l1)).push (zO1 l2)).objs.size = some _ := Heap.get?_push_of_some _ (Heap.get?_push_of_some _ (Heap.get?_push_of_some _ (Heap.get?_push_of_some _ (Heap.get?_push_size _ rfl))))
  have p2 : (zh7 s.heap l1 l2 l3 l4).get? (s.heap.push (zO1 l1)).objs.size = some _ := Heap.get?_push_of_some _ (Heap.get?_push_of_some _ (Heap.get?_push_of_some _ (Heap.get?_push_of_some _ (Heap.get?_push_of_some _ (Heap.get?_push_size _ rfl)))))
  have p1 : (zh7 s.heap l1 l2 l3 l4).get? s.heap.objs.size = some _ := Heap.get?_push_of_some _ (Heap.get?_push_of_some _ (Heap.get?_push_of_some _ (Heap.get?_push_of_some _ (Heap.get?_push_of_some _ (Heap.get?_push_of_some _ (Heap.get?_push_size _ rfl))))))
  rw [y6, y5, y4] at p7
  rw [y5] at p6
  rw [y4, y3, y2, y1] at p5
  rw [y3] at p4
  rw [y2] at p3
  rw [y1] at p2
  show _ ∧ _
  rw [y6]
  refine ⟨⟨_, p7, rfl⟩, h _ ⟨p7, p5, ⟨_, _, _, _, p6⟩, ⟨_, p1, rfl, rfl⟩, ⟨_, p2, rfl, rfl⟩, ⟨_, p3, rfl, rfl⟩, ⟨_, p4, rfl, rfl⟩⟩ fun c o x => ?_⟩
  exact Heap.get?_push_of_some _ (Heap.get?_push_of_some _ (Heap.get?_push_of_some _ (Heap.get?_push_of_some _ (Heap.get?_push_of_some _ (Heap.get?_push_of_some _ (Heap.get?_push_of_some _ x))))))
end
/-! ### over the layer -/
def ItZ4 (K : PySem.W.Frag) (l1 l2 l3 l4 : Addr) (xs1 xs2 xs3 xs4 : List V) : It :=
  ⟨fun i H => (SqT K H l1 xs1 ∧ SqT K H l2 xs2 ∧ SqT K H l3 xs3 ∧ SqT K H l4 xs4) ∧ i < xs1.length ∧ i < xs2.length ∧ i < xs3.length ∧ i < xs4.length,
    fun i H v H' => ∃ T, v = .ref T ∧ H T = none ∧ H' = upd H T (.tup [xs1.getD i .non, xs2.getD i .non, xs3.getD i .non, xs4.getD i .non]),
    fun i H => SqT K H l1 xs1 ∧ xs1.length ≤ i⟩
theorem zfp {N c : Nat} (hc : c ∈ [N + 6, N + 5, N + 4, N + 3, N + 2, N + 1, N]) : N ≤ c ∧ c ≤ N + 6 := by
  simp only [List.mem_cons, List.not_mem_nil, or_false] at hc
  omega
theorem zpf {N c : Nat} (h1 : N ≤ c) (h2 : c ≤ N + 6) : c ∈ [N + 6, N + 5, N + 4, N + 3, N + 2, N + 1, N] := by
  simp only [List.mem_cons, List.not_mem_nil, or_false]
  omega
theorem turn_z4 {P : Program} {w : World} {K : PySem.W.Frag} {elts : List Expr} {kk : Nat} {tpos : Pos} {N l1 l2 l3 l4 : Nat} (n1 : l1 < N) (n2 : l2 < N) (n3 : l3 < N) (n4 : l4 < N) (xs1 xs2 xs3 xs4 : List V) :
    Turn P w K (.Tuple elts kk tpos) (ItZ4 K l1 l2 l3 l4 xs1 xs2 xs3 xs4) [N + 6, N + 5, N + 4, N + 3, N + 2, N + 1, N] (N + 6 : Nat) (fun i h => ZSt N l1 l2 l3 l4 i h .none) where
  mem := List.mem_cons_self ..
  obj := fun i h S c hc => by
    obtain ⟨hz, hTI, ⟨a, b, c', d, hTO⟩, ⟨o1, p1, _, d1⟩, ⟨o2, p2, _, d2⟩, ⟨o3, p3, _, d3⟩, ⟨o4, p4, _, d4⟩⟩ := S
    have e : c = N + 6 ∨ c = N + 5 ∨ c = N + 4 ∨ c = N + 3 ∨ c = N + 2 ∨ c = N + 1 ∨ c = N := by simpa using hc
    rcases e with rfl | rfl | rfl | rfl | rfl | rfl | rfl
    · exact ⟨_, hz, fun v q => nomatch q⟩
    · exact ⟨_, hTO, fun v q => nomatch q⟩
    · exact ⟨_, hTI, fun v q => nomatch q⟩
    · exact ⟨o4, p4, fun v q => by rw [d4] at q; cases q⟩
    · exact ⟨o3, p3, fun v q => by rw [d3] at q; cases q⟩
    · exact ⟨o2, p2, fun v q => by rw [d2] at q; cases q⟩
    · exact ⟨o1, p1, fun v q => by rw [d1] at q; cases q⟩
  keep := fun i h h' S k => S.at fun b b1 b2 o e => k b (zpf b1 b2) o e
  item := by
    intro X hP hw hK hc i pins s σ H E I hf S hg
    subst hP hw hK
    obtain ⟨⟨q1, q2, q3, q4⟩, m1, m2, m3, m4⟩ := hg
    obtain ⟨its1, v1, p1, _⟩ := I.tuple q1
    obtain ⟨its2, v2, p2, _⟩ := I.tuple q2
    obtain ⟨its3, v3, p3, _⟩ := I.tuple q3
    obtain ⟨its4, v4, p4, _⟩ := I.tuple q4
    obtain ⟨x1, e1, r1⟩ := v1.get (show xs1[i]? = some (xs1.getD i .non) by simp [m1])
    obtain ⟨x2, e2, r2⟩ := v2.get (show xs2[i]? = some (xs2.getD i .non) by simp [m2])
    obtain ⟨x3, e3, r3⟩ := v3.get (show xs3[i]? = some (xs3.getD i .non) by simp [m3])
    obtain ⟨x4, e4, r4⟩ := v4.get (show xs4[i]? = some (xs4.getD i .non) by simp [m4])
    have lt : (N + 6 : Nat) < s.heap.objs.size := Heap.lt_size S.z
    refine zip4_item n1 n2 n3 n4 S p1 p2 p3 p4 (x1 := x1) (x2 := x2) (x3 := x3) (x4 := x4) (by simpa using e1) (by simpa using e2) (by simpa using e3) (by simpa using e4) fun h' S' hT hk => ?_
    refine ⟨_, rfl, wpAny_letOwnedTupleGo_zip (s := { s with heap := h' }) S'.z fun h'' z'' sb => ?_⟩
    replace sb : Heap.SameBut (N + 6 : Nat) h' h'' := sb
    have hT2 : h''.get? s.heap.objs.size = some { cls := .type "tuple", data := .seq #[x1, x2, x3, x4] } := (sb.2 _ (show (s.heap.objs.size : Nat) ≠ N + 6 by omega)).trans hT
    have new : ObjOk X.prog X.w (upd H s.heap.objs.size (.tup [xs1.getD i .non, xs2.getD i .non, xs3.getD i .non, xs4.getD i .non])) h'' s.heap.objs.size (.tup [xs1.getD i .non, xs2.getD i .non, xs3.getD i .non, xs4.getD i .non]) :=
      ⟨by show 4 ≤ sizeLine; decide, [x1, x2, x3, x4], .cons r1 (.cons r2 (.cons r3 (.cons r4 .nil))), ⟨_, hT2, rfl, _, rfl⟩⟩
    have kp : ∀ b o, b ∉ [N + 6, N + 5, N + 4, N + 3, N + 2, N + 1, N] → s.heap.get? b = some o → h''.get? b = some o := fun b o hb e => by
      have hn : ¬ (N ≤ b ∧ b ≤ N + 6) := fun z => hb (zpf z.1 z.2)
      exact (sb.2 b (fun z => hb (by rw [z]; exact List.mem_cons_self ..))).trans (hk b hn o e)
    have I1 : Inv X pins σ (upd H s.heap.objs.size (.tup [xs1.getD i .non, xs2.getD i .non, xs3.getD i .non, xs4.getD i .non])) { s with heap := h'' } := I.turnedNew (t' := s.toks) (ch := [N + 6, N + 5, N + 4, N + 3, N + 2, N + 1, N]) kp hf (Nat.le_refl _) new
    refine ⟨.ref s.heap.objs.size, _, I1, rfl, ⟨_, rfl, I.hok.fresh (Nat.le_refl _), rfl⟩, ?_, fun c hcm => ?_⟩
    · obtain ⟨hz, hTI, ⟨a, b, c', d, hTO⟩, h1, h2, h3, h4⟩ := S'
      have up : ∀ c : Nat, c ≠ N + 6 → ∀ o, h'.get? c = some o → h''.get? c = some o := fun c hc o e => sb.extBut _ _ hc e
      exact ⟨z'', up _ (by omega) _ hTI, ⟨a, b, c', d, up _ (by omega) _ hTO⟩, h1.at fun o e => up _ (by omega) o e, h2.at fun o e => up _ (by omega) o e, h3.at fun o e => up _ (by omega) o e, h4.at fun o e => up _ (by omega) o e⟩
    · obtain ⟨c1, c2⟩ := zfp hcm
      have hlt : (c : Nat) ≠ s.heap.objs.size := Nat.ne_of_lt (Nat.lt_of_le_of_lt c2 lt)
      rw [upd_ne hlt]
      exact (hf c hcm).1
  done := by
    intro X hP hw hK hc i pins s σ H E I hf S hg
    subst hP hw hK
    obtain ⟨q1, m1⟩ := hg
    obtain ⟨its1, v1, p1, _⟩ := I.tuple q1
    have hl := v1.length
    refine zip4_end (I.ok.hd hc) n1 S p1 (by simp; omega) fun h' hk => ⟨rfl, I.turnedL (t' := s.toks) (ch := [N + 6, N + 5, N + 4, N + 3, N + 2, N + 1, N]) (fun c o hb e => hk c (fun z => hb (zpf z.1 z.2)) o e) hf⟩
  self := fun A i s Q E S h => wpAny_pyIter_zip S.z h
/-- zip(t, *l): what it asks: a tuple and a list of three tuples (behind tStar) -/
def iZ4 (K : PySem.W.Frag) (ta : TA) : TI := fun σ H R => ta σ H fun vs H1 => ∃ l1 l2 l3 l4 xs1 xs2 xs3 xs4, vs = [.ref l1, .ref l2, .ref l3, .ref l4] ∧ SqT K H1 l1 xs1 ∧ SqT K H1 l2 xs2 ∧ SqT K H1 l3 xs3 ∧ SqT K H1 l4 xs4 ∧ R (ItZ4 K l1 l2 l3 l4 xs1 xs2 xs3 xs4) H1
theorem pi_z4 {X : Cx} {e : Expr} {es : List Expr} {ta : TA} {p pos tpos : Pos} {elts : List Expr} {kk : Nat} (hg : Gl X "zip") (hm : X.mg "zip" = none) (ha : PA X (e :: es) ta)
    (he : starEach (e :: es) X.env = (false, eval e X.env) :: starEach es X.env := by rfl) (hst : (backTo pos (starEach es X.env)).any (·.1) = true := by rfl) :
    PI X (.Tuple elts kk tpos) (.Call (.Name "zip" p) (e :: es) [] pos) (iZ4 X.K ta) := by
  refine ⟨fun pins s σ H R I h => Call_ (ld_blt I hg hm PyProof.Rows.boot_zip ?_)⟩
  rw [he]
  refine PySem.W.ks_call (first := []) (P := fun _ => True) (by show (false || (backTo pos (starEach es X.env)).any (·.1)) = true; rw [hst]; rfl) (fun h _ => ⟨.machine, .inr (.inl rfl), PySem.W.Looks.of_pure rfl⟩) (PySem.Calls.evalArgs_plain ?_)
  have ha' := ha.run pos pins s σ H _ I h
  rw [he] at ha'
  refine thn ha' fun us s1 ⟨vs, H1, I1, r1, l1, l2, l3, l4, xs1, xs2, xs3, xs4, ev, q1, q2, q3, q4, q⟩ => ⟨trivial, ?_⟩
  subst ev
  obtain ⟨u1, u2, u3, u4, rfl, rfl, rfl, rfl, rfl⟩ : ∃ u1 u2 u3 u4, us = [u1, u2, u3, u4] ∧ u1 = Value.ref l1 ∧ u2 = Value.ref l2 ∧ u3 = Value.ref l3 ∧ u4 = Value.ref l4 := by
    cases r1 with
    | cons a1 r1 =>
      cases r1 with
      | cons a2 r1 =>
        cases r1 with
        | cons a3 r1 =>
          cases r1 with
          | cons a4 r1 =>
            cases r1
            exact ⟨_, _, _, _, rfl, a1, a2, a3, a4⟩
  obtain ⟨its1, v1, p1, _⟩ := I1.tuple q1
  obtain ⟨its2, v2, p2, _⟩ := I1.tuple q2
  obtain ⟨its3, v3, p3, _⟩ := I1.tuple q3
  obtain ⟨its4, v4, p4, _⟩ := I1.tuple q4
  have n1 : (l1 : Nat) < s1.heap.objs.size := by obtain ⟨o, ho, _⟩ := id p1; exact Heap.lt_size ho
  have n2 : (l2 : Nat) < s1.heap.objs.size := by obtain ⟨o, ho, _⟩ := id p2; exact Heap.lt_size ho
  have n3 : (l3 : Nat) < s1.heap.objs.size := by obtain ⟨o, ho, _⟩ := id p3; exact Heap.lt_size ho
  have n4 : (l4 : Nat) < s1.heap.objs.size := by obtain ⟨o, ho, _⟩ := id p4; exact Heap.lt_size ho
  refine call_zip4 (show s1.heap.IsTuple l1 its1.toArray from p1) (show s1.heap.IsTuple l2 its2.toArray from p2) (show s1.heap.IsTuple l3 its3.toArray from p3) (show s1.heap.IsTuple l4 its4.toArray from p4) fun h' S hk => wpAny_pyIter_zip S.z ?_
  have I2 : Inv X pins σ H1 { s1 with heap := h' } := I1.kept (t' := s1.toks) hk
  refine ⟨(s1.heap.objs.size + 6 : Nat), _, _, _, H1, rfl, I2, turn_z4 n1 n2 n3 n4 xs1 xs2 xs3 xs4, S, fun c hcm => ?_, q⟩
  obtain ⟨c1, c2⟩ := zfp hcm
  exact I1.fpOk c1 (I1.hok.fresh c1)
theorem walk_z4 {K : PySem.W.Frag} {l1 l2 l3 l4 : Addr} {xs1 xs2 xs3 xs4 : List V} {n : Nat} (h1 : xs1.length = n) (h2 : xs2.length = n) (h3 : xs3.length = n) (h4 : xs4.length = n) :
    Walk (ItZ4 K l1 l2 l3 l4 xs1 xs2 xs3 xs4) n (fun H => SqT K H l1 xs1 ∧ SqT K H l2 xs2 ∧ SqT K H l3 xs3 ∧ SqT K H l4 xs4)
      (fun i H v H' => ∃ T, v = .ref T ∧ H T = none ∧ H' = upd H T (.tup [xs1.getD i .non, xs2.getD i .non, xs3.getD i .non, xs4.getD i .non])) :=
  ⟨fun _ _ hi q => ⟨q, by omega, by omega, by omega, by omega⟩, fun _ q => ⟨q.1, by omega⟩, fun _ _ _ _ _ _ y => y⟩
end K45R

set_option maxRecDepth 100000
set_option maxHeartbeats 4000000
/-! What stands on the heap, and what each def promises. -/
namespace K45W
open PySem PySem.Spec PyProof.Rows L2 K45 K45R
def top (i : Nat) : Stmt := PySem.Challenge.pw_fourtouch_k45_whole_circles_of_the_heap.main.body.getD i (.Pass ⟨0, 0, 0, 0⟩)
/-! ### the heap -/
def cV (c : Cir) : List V := [.int c.b, .int c.c, .int c.x, .int c.y]
abbrev RT := Hp → V → Cir → Prop
/-- a circle: a tuple of four ints -/
def RC : Hp → V → Cir → Prop := fun H v c => ∃ p, v = .ref p ∧ H p = some (.tup (cV c))
/-- a pair -/
def RP : Hp → V → Int × Int → Prop := fun H v p => ∃ a, v = .ref a ∧ H a = some (.tup [.int p.1, .int p.2])
def RI : Hp → V → Int → Prop := fun _ v n => v = .int n
def RB : Hp → V → Bool → Prop := fun _ v n => v = .bl n
/-- a list of such -/
def LOf {α : Type} (R : Hp → V → α → Prop) (H : Hp) (a : Addr) (xs : List α) : Prop := ∃ vs : List V, H a = some (.lst vs) ∧ Paired (R H) vs xs
/-- it stays where all that is tracked stays -/
def Mono {α : Type} (R : Hp → V → α → Prop) : Prop := ∀ H H' v x, Same H H' → R H v x → R H' v x
/-- it stays where a list is changed -/
def Stab {α : Type} (R : Hp → V → α → Prop) : Prop := ∀ H D xs ys v x, H D = some (.lst xs) → R H v x → R (upd H D (.lst ys)) v x
theorem RC.mono : Mono RC := fun _ _ _ _ s ⟨p, e, h⟩ => ⟨p, e, s _ _ h⟩
theorem RP.mono : Mono RP := fun _ _ _ _ s ⟨p, e, h⟩ => ⟨p, e, s _ _ h⟩
theorem RI.mono : Mono RI := fun _ _ _ _ _ h => h
theorem RB.mono : Mono RB := fun _ _ _ _ _ h => h
theorem RC.stab : Stab RC := fun H D xs ys v x hD ⟨p, e, h⟩ => ⟨p, e, by rw [upd_ne (ne_of h hD (fun z => nomatch z))]; exact h⟩
theorem RP.stab : Stab RP := fun H D xs ys v x hD ⟨p, e, h⟩ => ⟨p, e, by rw [upd_ne (ne_of h hD (fun z => nomatch z))]; exact h⟩
theorem RI.stab : Stab RI := fun _ _ _ _ _ _ _ h => h
theorem RB.stab : Stab RB := fun _ _ _ _ _ _ _ h => h
section
variable {α β : Type} {F : α → β → Prop}
theorem pr_get : ∀ {xs : List α} {ys : List β} {i : Nat} {x : α}, Paired F xs ys → xs[i]? = some x → ∃ y, ys[i]? = some y ∧ F x y
  | _, _, _, _, .nil, e => by simp at e
  | _, _, 0, _, .cons r _, e => by simp at e; subst e; exact ⟨_, rfl, r⟩
  | _, _, i + 1, x, .cons _ t, e => by
    obtain ⟨u, h1, h2⟩ := pr_get (i := i) (x := x) t (by simpa using e)
    exact ⟨u, by simpa using h1, h2⟩
theorem pr_get' : ∀ {xs : List α} {ys : List β} {i : Nat} {y : β}, Paired F xs ys → ys[i]? = some y → ∃ x, xs[i]? = some x ∧ F x y
  | _, _, _, _, .nil, e => by simp at e
  | _, _, 0, _, .cons r _, e => by simp at e; subst e; exact ⟨_, rfl, r⟩
  | _, _, i + 1, y, .cons _ t, e => by
    obtain ⟨u, h1, h2⟩ := pr_get' (i := i) (y := y) t (by simpa using e)
    exact ⟨u, by simpa using h1, h2⟩
theorem pr_append : ∀ {xs xs' : List α} {ys ys' : List β}, Paired F xs ys → Paired F xs' ys' → Paired F (xs ++ xs') (ys ++ ys')
  | _, _, _, _, .nil, s => s
  | _, _, _, _, .cons r t, s => .cons r (pr_append t s)
theorem pr_take : ∀ {xs : List α} {ys : List β} (n : Nat), Paired F xs ys → Paired F (xs.take n) (ys.take n)
  | _, _, 0, _ => .nil
  | _, _, _ + 1, .nil => .nil
  | _, _, n + 1, .cons r t => .cons r (pr_take n t)
theorem pr_drop : ∀ {xs : List α} {ys : List β} (n : Nat), Paired F xs ys → Paired F (xs.drop n) (ys.drop n)
  | _, _, 0, r => r
  | _, _, _ + 1, .nil => .nil
  | _, _, n + 1, .cons _ t => pr_drop n t
theorem pr_len {xs : List α} {ys : List β} (r : Paired F xs ys) : xs.length = ys.length := Paired.length r
end
theorem LOf.mono {α : Type} {R : Hp → V → α → Prop} (m : Mono R) {H H' : Hp} {a : Addr} {xs : List α} (s : Same H H') (h : LOf R H a xs) : LOf R H' a xs :=
  let ⟨vs, e, p⟩ := h
  ⟨vs, s _ _ e, Paired.mapP p fun v x r => m _ _ v x s r⟩
theorem LOf.upd {α : Type} {R : Hp → V → α → Prop} (m : Stab R) {H : Hp} {a D : Addr} {xs : List α} {us ys : List V} (hne : a ≠ D) (hD : H D = some (.lst us)) (h : LOf R H a xs) : LOf R (L2.upd H D (.lst ys)) a xs :=
  let ⟨vs, e, p⟩ := h
  ⟨vs, by rw [upd_ne hne]; exact e, Paired.mapP p fun v x r => m _ _ _ _ v x hD r⟩
theorem ints_of : ∀ {vs : List V} {ns : List Int} {H : Hp}, Paired (RI H) vs ns → vs = ns.map V.int
  | _, _, _, .nil => rfl
  | _, _, _, .cons r t => by rw [List.map_cons, ints_of t, show _ = V.int _ from r]
theorem bls_of : ∀ {vs : List V} {ns : List Bool} {H : Hp}, Paired (RB H) vs ns → vs = ns.map V.bl
  | _, _, _, .nil => rfl
  | _, _, _, .cons r t => by rw [List.map_cons, bls_of t, show _ = V.bl _ from r]
theorem same_upd {H : Hp} {D : Addr} {o : HO} (h : H D = none) : Same H (upd H D o) := fun b u e => by rw [upd_ne (ne_of_none e h)]; exact e
theorem same_upd' {H H' : Hp} {D : Addr} {o : HO} (s : Same H H') (h : H D = none) : Same H (upd H' D o) := fun b u e => by rw [upd_ne (ne_of_none e h)]; exact s _ _ e
theorem small_line {n : Nat} (h : n ≤ 10000) : n < sizeLine := Nat.lt_of_le_of_lt h (by decide)
theorem small_line' {n : Nat} (h : n ≤ 10000) : n ≤ sizeLine := Nat.le_of_lt (small_line h)
/-! ### a comprehension that makes a list, read at once: f i is what turn i adds, if anything -/
theorem lc_new {β : Type} {J : It} {n : Nat} {G : Hp → Prop} {Y : Nat → Hp → V → Hp → Prop} (w : Walk J n G Y) {R : Hp → V → β → Prop} (mono : Mono R) (stab : Stab R) {g : TG} {tt : TT} {te : TE} {vs : List Nat} {σ : L2.St} {H1 : Hp} {D : Addr} {Qd : Hp → Prop} (f : Nat → Option β)
    (hD : H1 D = none) (hn : n ≤ 10000) (hG : ∀ H, Same H1 H → G H)
    (hs : ∀ i x H H', i < n → Same H1 H → Y i H x H' → ∀ (Yes : V → Hp → Prop) (No : Hp → Prop), (∀ v H4 z, f i = some z → Same H H4 → R H4 v z → Yes v H4) → (∀ H3, f i = none → Same H H3 → No H3) →
      g x (wipe σ vs) H' fun σ2 H2 => wipe σ2 vs = wipe σ vs ∧ tt σ2 H2 fun b H3 => if b = true then te σ2 H3 Yes else No H3)
    (hd : ∀ H', Same H1 H' → LOf R H' D ((List.range n).filterMap f) → Qd H') :
    ∃ W : Nat → Nat → Hp → Prop, (∃ m, W 0 m (upd H1 D (.lst []))) ∧ ∀ i m H, W i m H →
      (J.stop i H ∧ Qd H) ∨ (J.go i H ∧ ∃ Nx : Hp → Prop, (∀ H', Nx H' → ∃ m', m' < m ∧ W (i + 1) m' H') ∧ ∀ x H', J.yld i H x H' → g x (wipe σ vs) H' fun σ2 H2 => wipe σ2 vs = wipe σ vs ∧ tt σ2 H2 fun b H3 =>
        if b = true then te σ2 H3 fun y H4 => ∃ acc, H4 D = some (.lst acc) ∧ acc.length < sizeLine ∧ Nx (upd H4 D (.lst (acc ++ [y]))) else Nx H3) := by
  refine lc_it w (fun i H => Same H1 H ∧ LOf R H D ((List.range i).filterMap f)) ⟨same_upd hD, [], upd_same, .nil⟩ (fun i H _ p => hG H p.1) ?_ fun H p => hd H p.1 p.2
  intro i x H H' hi ⟨s, acc, hacc, pr⟩ y
  have hl : acc.length ≤ i := by
    rw [pr_len pr]
    exact Nat.le_trans (List.length_filterMap_le _ _) (by rw [List.length_range]; exact Nat.le_refl _)
  refine hs i x H H' hi s y _ _ (fun v H4 z hz s4 r => ⟨acc, s4 _ _ hacc, small_line (by omega), same_upd' (s.trans s4) hD, acc ++ [v], upd_same, ?_⟩) fun H3 hz s3 => ⟨s.trans s3, acc, s3 _ _ hacc, ?_⟩
  · rw [List.range_succ, List.filterMap_append]
    refine pr_append (Paired.mapP pr fun v' x' r' => stab _ _ _ _ _ _ (s4 _ _ hacc) (mono _ _ _ _ s4 r')) ?_
    rw [List.filterMap_cons, hz]
    exact .cons (stab _ _ _ _ _ _ (s4 _ _ hacc) r) .nil
  · rw [List.range_succ, List.filterMap_append, List.filterMap_cons, hz]
    simp only [List.filterMap_nil, List.append_nil]
    exact Paired.mapP pr fun v' x' r' => mono _ _ _ _ s3 r'
/-! ### a def that may be called -/
def Can (P : Program) (w : World) (K : PySem.W.Frag) (mg : Str → Option Value) (base : Heap) (k : Nat) (name : Str) (ps : List Str) (sp : Sp) : Prop :=
  ∃ f fd, FnOk P w K mg base CX0 k f fd ps sp ∧ mg name = some (.ref f) ∧ PySem.W.keepIn K (.ref f) = true ∧ Binds K fd ps []
/-- a def as the top has left it -/
def Stands (K : PySem.W.Frag) (mg : Str → Option Value) (name : Str) (st : Stmt) (ps : List Str) : Prop :=
  ∃ f fd, Fun K name name st f fd ∧ mg name = some (.ref f) ∧ Binds K fd ps []
/-- a circle with which the program may reckon -/
structure OkC (c : Cir) : Prop where
  n : nrm c = 1
  b : Bd 1099511627776 c
/-- what the top has left beside the defs -/
structure Txt (K : PySem.W.Frag) (mg : Str → Option Value) (C aN : Addr) : Prop where
  cl : Cls K C
  nCi : NoAttr K C "circles"
  mgC : mg "Four" = some (.ref C)
  mgN : mg "NUMBERS" = some (.ref aN)
  num : ∀ H, SqT K H aN [.int 1, .int 2, .int 3, .int 4]
  most : ∃ t, mg "MOST" = some (.int (10 ^ 30) t)
  gcd : mg "gcd" = some (.builtin "math.gcd")
  isqrt : mg "isqrt" = some (.builtin "math.isqrt")
  len : mg "len" = none
  sum : mg "sum" = none
  all : mg "all" = none
  any : mg "any" = none
  tuple : mg "tuple" = none
  list : mg "list" = none
  enum : mg "enumerate" = none
  zip : mg "zip" = none
  range : mg "range" = none
  max : mg "max" = none
  abs : mg "abs" = none
  int : mg "int" = none
/-- an instance of Four: its tuple of circles -/
def FourAt (C : Addr) (H : Hp) (x T : Addr) (cs : List Cir) : Prop := ∃ dx vs, H x = some (.ins C dx (putF "circles" (.ref T) [])) ∧ H T = some (.tup vs) ∧ Paired (RC H) vs cs
theorem FourAt.mono {C : Addr} {H H' : Hp} {x T : Addr} {cs : List Cir} (s : Same H H') (h : FourAt C H x T cs) : FourAt C H' x T cs :=
  let ⟨dx, vs, h1, h2, p⟩ := h
  ⟨dx, vs, s _ _ h1, s _ _ h2, Paired.mapP p fun v x r => RC.mono _ _ _ _ s r⟩
theorem four_fld (T : Addr) : (putF "circles" (V.ref T) []).lookup ("circles" : Str) = some (.ref T) := by rw [lookup_putF, if_pos rfl]
end K45W

set_option maxRecDepth 100000
set_option maxHeartbeats 4000000
namespace K45W
open PySem PySem.Spec PyProof.Rows L2 K45 K45R
theorem OkC.mb {c : Cir} (h : OkC c) (j : Int) : CMul c.b j := .inl ⟨by have := h.b.hb; omega, by have := h.b.hb; omega⟩
theorem OkC.mc {c : Cir} (h : OkC c) (j : Int) : CMul c.c j := .inl ⟨by have := h.b.hc; omega, by have := h.b.hc; omega⟩
theorem OkC.mx {c : Cir} (h : OkC c) (j : Int) : CMul c.x j := .inl ⟨by have := h.b.hx; omega, by have := h.b.hx; omega⟩
theorem OkC.my {c : Cir} (h : OkC c) (j : Int) : CMul c.y j := .inl ⟨by have := h.b.hy; omega, by have := h.b.hy; omega⟩
theorem cm2 (j : Int) : CMul 2 j := .inl ⟨by decide, by decide⟩
section
variable {P : Program} {w : World} {K : PySem.W.Frag} {mg : Str → Option Value} {base : Heap} {C aN : Addr}
/-! ### is_circle -/
abbrev sIsC : Stmt := top 8
theorem scIsC : FnScope ["circle", "b", "c", "x", "y"] ["circle"] (defScope sIsC) := ⟨rfl, rfl, rfl, by decide +kernel, rfl, by decide +kernel, by decide +kernel⟩
def spIsC : Sp := fun vs H Q _ => ∃ v c, vs = [v] ∧ RC H v c ∧ OkC c ∧ Q (.bl true) H
theorem ok_isC (T : Txt K mg C aN) (S : Stands K mg "is_circle" sIsC ["circle"]) : Can P w K mg base 1 "is_circle" ["circle"] spIsC := by
  obtain ⟨f, fd, F, m, b⟩ := S
  refine ⟨f, fd, F.ok scIsC (fun vs H Q E h => ?_) (fun cdv A outer s H vs Q E hr h => ?_), m, F.kp, b⟩
  · obtain ⟨v, c, rfl, _⟩ := h
    rfl
  · obtain ⟨v, c, rfl, ⟨p, rfl, hp⟩, ok, k⟩ := h
    refine ⟨_, pss_cons (ps_if (pt_cmpR op_ne (pe_callB call_len_seq (by rfl) T.len PySem.boot_len (pa_cons (pv 0) pa_nil)) pe_int (nomark _)) (pss_one (ps_ret pe_bl)) pss_nil)
      (pss_cons (ps_asg (pv 0) (pg_tup rfl (pgs_cons (pg_name (i := 1) scIsC.nd rfl (Or.inl rfl)) (pgs_cons (pg_name (i := 2) scIsC.nd rfl (Or.inl rfl)) (pgs_cons (pg_name (i := 3) scIsC.nd rfl (Or.inl rfl)) (pgs_cons (pg_name (i := 4) scIsC.nd rfl (Or.inl rfl)) pgs_nil))))))
      (pss_one (ps_ret (pe_cmpR op_eq (pe_op op_sub (pe_op op_add (pe_op op_mul (pv 3) (pv 3)) (pe_op op_mul (pv 4) (pv 4))) (pe_op op_mul (pv 1) (pv 2))) pe_int (nomark _))))), ?_⟩
    refine ⟨_, rfl, p, _, rfl, .inr (SqT.of hp), rfl, _, rfl, iteNS rfl ?_⟩
    refine ⟨_, rfl, p, _, rfl, SqT.of hp, rfl, _, _, rfl, _, _, rfl, _, _, rfl, _, _, rfl, rfl, ?_⟩
    refine ⟨_, rfl, _, rfl, _, _, rfl, rfl, ok.mx _, _, rfl, _, rfl, _, _, rfl, rfl, ok.my _, _, _, rfl, rfl, _, rfl, _, rfl, _, _, rfl, rfl, ok.mb _, _, _, rfl, rfl, rfl, ?_⟩
    have e : decide (V.int (c.x * c.x + c.y * c.y - c.b * c.c) = V.int 1) = true := decide_eq_true (by rw [show c.x * c.x + c.y * c.y - c.b * c.c = 1 from ok.n])
    show Q (V.bl (decide (V.int (c.x * c.x + c.y * c.y - c.b * c.c) = V.int 1))) H
    rw [e]
    exact k
/-! ### check_circle -/
abbrev sChk : Stmt := top 9
theorem scChk : FnScope ["circle"] ["circle"] (defScope sChk) := ⟨rfl, rfl, rfl, by decide +kernel, rfl, by decide +kernel, by decide +kernel⟩
def spChk : Sp := fun vs H Q _ => ∃ v c, vs = [v] ∧ RC H v c ∧ OkC c ∧ Q .non H
theorem ok_chk (T : Txt K mg C aN) (S : Stands K mg "check_circle" sChk ["circle"]) (GI : Can P w K mg base 1 "is_circle" ["circle"] spIsC) : Can P w K mg base 2 "check_circle" ["circle"] spChk := by
  obtain ⟨f, fd, F, m, b⟩ := S
  obtain ⟨fI, fdI, GI, mI, kI, bI⟩ := GI
  refine ⟨f, fd, F.ok scChk (fun vs H Q E h => ?_) (fun cdv A outer s H vs Q E hr h => ?_), m, F.kp, b⟩
  · obtain ⟨v, c, rfl, _⟩ := h
    rfl
  · obtain ⟨v, c, rfl, hc, ok, k⟩ := h
    refine ⟨_, pss_one (ps_if (pt_not (pt_val (pe_call GI hr rfl mI kI bI .nil pass0 (pa_cons (pv 0) pa_nil)))) (pss_one ps_never) pss_nil), ?_⟩
    exact ⟨_, rfl, v, c, rfl, hc, ok, true, rfl, iteF k⟩
/-! ### double -/
abbrev sDbl : Stmt := top 10
theorem scDbl : FnScope ["one", "other", "b", "c", "x", "y", "far_b", "far_c", "far_x", "far_y"] ["one", "other"] (defScope sDbl) := ⟨rfl, rfl, rfl, by decide +kernel, rfl, by decide +kernel, by decide +kernel⟩
def spDbl : Sp := fun vs H Q _ => ∃ v u c d, vs = [v, u] ∧ RC H v c ∧ RC H u d ∧ OkC c ∧ OkC d ∧ Q (.int (dbl c d)) H
theorem ok_dbl (T : Txt K mg C aN) (S : Stands K mg "double" sDbl ["one", "other"]) (GC : Can P w K mg base 2 "check_circle" ["circle"] spChk) : Can P w K mg base 3 "double" ["one", "other"] spDbl := by
  obtain ⟨f, fd, F, m, b⟩ := S
  obtain ⟨fC, fdC, GC, mC, kC, bC⟩ := GC
  refine ⟨f, fd, F.ok scDbl (fun vs H Q E h => ?_) (fun cdv A outer s H vs Q E hr h => ?_), m, F.kp, b⟩
  · obtain ⟨v, u, c, d, rfl, _⟩ := h
    rfl
  · obtain ⟨v, u, c, d, rfl, hc, hd, oc, od, k⟩ := h
    have nd := scDbl.nd
    refine ⟨_, pss_cons (ps_expr (pe_call GC hr rfl mC kC bC .nil pass0 (pa_cons (pv 0) pa_nil))) (pss_cons (ps_expr (pe_call GC hr rfl mC kC bC .nil pass0 (pa_cons (pv 1) pa_nil)))
      (pss_cons (ps_asg (pv 0) (pg_tup rfl (pgs_cons (pg_name (i := 2) nd rfl (Or.inl rfl)) (pgs_cons (pg_name (i := 3) nd rfl (Or.inl rfl)) (pgs_cons (pg_name (i := 4) nd rfl (Or.inl rfl)) (pgs_cons (pg_name (i := 5) nd rfl (Or.inl rfl)) pgs_nil))))))
      (pss_cons (ps_asg (pv 1) (pg_tup rfl (pgs_cons (pg_name (i := 6) nd rfl (Or.inl rfl)) (pgs_cons (pg_name (i := 7) nd rfl (Or.inl rfl)) (pgs_cons (pg_name (i := 8) nd rfl (Or.inl rfl)) (pgs_cons (pg_name (i := 9) nd rfl (Or.inl rfl)) pgs_nil))))))
      (pss_one (ps_ret (pe_op op_sub (pe_op op_mul pe_int (pe_op op_add (pe_op op_mul (pv 4) (pv 8)) (pe_op op_mul (pv 5) (pv 9)))) (pe_op op_add (pe_op op_mul (pv 2) (pv 7)) (pe_op op_mul (pv 6) (pv 3))))))))), ?_⟩
    refine ⟨_, rfl, v, c, rfl, hc, oc, _, rfl, u, d, rfl, hd, od, ?_⟩
    obtain ⟨p, rfl, hp⟩ := hc
    obtain ⟨q, rfl, hq⟩ := hd
    refine ⟨_, rfl, p, _, rfl, SqT.of hp, rfl, _, _, rfl, _, _, rfl, _, _, rfl, _, _, rfl, rfl, ?_⟩
    refine ⟨_, rfl, q, _, rfl, SqT.of hq, rfl, _, _, rfl, _, _, rfl, _, _, rfl, _, _, rfl, rfl, ?_⟩
    exact ⟨_, rfl, _, rfl, _, _, rfl, rfl, oc.mx _, _, rfl, _, rfl, _, _, rfl, rfl, oc.my _, _, _, rfl, rfl, _, _, rfl, rfl, cm2 _, _, rfl, _, rfl, _, _, rfl, rfl, oc.mb _, _, rfl, _, rfl, _, _, rfl, rfl, od.mb _, _, _, rfl, rfl, _, _, rfl, rfl, k⟩
/-! ### are_outward -/
abbrev sOut : Stmt := top 11
theorem scOut : FnScope ["one", "other", "b"] ["one", "other"] (defScope sOut) := ⟨rfl, rfl, rfl, by decide +kernel, rfl, by decide +kernel, by decide +kernel⟩
def spOut : Sp := fun vs H Q _ => ∃ v u c d, vs = [v, u] ∧ RC H v c ∧ RC H u d ∧ outw c d ∧ Q (.bl true) H
theorem ok_out (T : Txt K mg C aN) (S : Stands K mg "are_outward" sOut ["one", "other"]) : Can P w K mg base 1 "are_outward" ["one", "other"] spOut := by
  obtain ⟨f, fd, F, m, b⟩ := S
  refine ⟨f, fd, F.ok scOut (fun vs H Q E h => ?_) (fun cdv A outer s H vs Q E hr h => ?_), m, F.kp, b⟩
  · obtain ⟨v, u, c, d, rfl, _⟩ := h
    rfl
  · obtain ⟨v, u, c, d, rfl, ⟨p, rfl, hp⟩, ⟨q, rfl, hq⟩, ho, k⟩ := h
    refine ⟨_, pss_cons (ps_set (i := 2) scOut.nd rfl (Or.inl rfl) (pe_op op_add (pe_ix ix_tup (pv 0) pe_int (fun _ _ => rfl)) (pe_ix ix_tup (pv 1) pe_int (fun _ _ => rfl))))
      (pss_one (ps_ret (pe_or (pe_cmpR op_gt (pv 2) pe_int (nomark _)) (pe_one (pe_and (pe_cmpR op_eq (pv 2) pe_int (nomark _)) (pe_one (pe_cmpR op_gt (pe_op op_add (pe_ix ix_tup (pv 0) pe_int (fun _ _ => rfl)) (pe_ix ix_tup (pv 1) pe_int (fun _ _ => rfl))) pe_int (nomark _)))))))), ?_⟩
    refine ⟨_, rfl, p, _, _, _, rfl, rfl, SqT.of hp, at_of (j := 0) rfl rfl, _, rfl, q, _, _, _, rfl, rfl, SqT.of hq, at_of (j := 0) rfl rfl, _, _, rfl, rfl, ?_⟩
    refine ⟨_, rfl, _, _, rfl, rfl, _, rfl, ?_⟩
    by_cases h1 : 0 < c.b + d.b
    · rw [decide_eq_true h1]
      exact iteT k
    · have h2 : c.b + d.b = 0 ∧ 0 < c.c + d.c := by
        unfold outw at ho
        omega
      rw [decide_eq_false h1]
      refine iteF ⟨_, rfl, rfl, _, rfl, ?_⟩
      rw [show decide (V.int (c.b + d.b) = V.int 0) = true from decide_eq_true (by rw [h2.1])]
      refine iteT ⟨_, rfl, p, _, _, _, rfl, rfl, SqT.of hp, at_of (j := 1) rfl rfl, _, rfl, q, _, _, _, rfl, rfl, SqT.of hq, at_of (j := 1) rfl rfl, _, _, rfl, rfl, _, _, rfl, rfl, ?_⟩
      show Q (V.bl (decide (0 < c.c + d.c))) H
      rw [decide_eq_true h2.2]
      exact k
/-! ### touch -/
abbrev sTch : Stmt := top 12
theorem scTch : FnScope ["one", "other"] ["one", "other"] (defScope sTch) := ⟨rfl, rfl, rfl, by decide +kernel, rfl, by decide +kernel, by decide +kernel⟩
def spTch : Sp := fun vs H Q _ => ∃ v u c d, vs = [v, u] ∧ RC H v c ∧ RC H u d ∧ OkC c ∧ OkC d ∧ Tch c d ∧ Q (.bl true) H
theorem ok_tch (T : Txt K mg C aN) (S : Stands K mg "touch" sTch ["one", "other"]) (GD : Can P w K mg base 3 "double" ["one", "other"] spDbl) (GO : Can P w K mg base 1 "are_outward" ["one", "other"] spOut) : Can P w K mg base 4 "touch" ["one", "other"] spTch := by
  obtain ⟨f, fd, F, m, b⟩ := S
  obtain ⟨fD, fdD, GD, mD, kD, bD⟩ := GD
  obtain ⟨fO, fdO, GO, mO, kO, bO⟩ := GO
  refine ⟨f, fd, F.ok scTch (fun vs H Q E h => ?_) (fun cdv A outer s H vs Q E hr h => ?_), m, F.kp, b⟩
  · obtain ⟨v, u, c, d, rfl, _⟩ := h
    rfl
  · obtain ⟨v, u, c, d, rfl, hc, hd, oc, od, ht, k⟩ := h
    refine ⟨_, pss_one (ps_ret (pe_and (pe_cmpR op_eq (pe_call GD hr rfl mD kD bD .nil pass0 (pa_cons (pv 0) (pa_cons (pv 1) pa_nil))) (pe_un un_neg pe_int) (nomark _))
      (pe_one (pe_call GO (hr.mono (by decide)) rfl mO kO bO .nil pass0 (pa_cons (pv 0) (pa_cons (pv 1) pa_nil)))))), ?_⟩
    refine ⟨_, rfl, _, rfl, v, u, c, d, rfl, hc, hd, oc, od, _, rfl, rfl, _, rfl, ?_⟩
    rw [show decide (V.int (dbl c d) = V.int (-2)) = true from decide_eq_true (by rw [ht.d])]
    exact iteT ⟨_, rfl, _, rfl, v, u, c, d, rfl, hc, hd, ht.o, k⟩
/-! ### check_number -/
abbrev sNum : Stmt := top 15
theorem scNum : FnScope ["number"] ["number"] (defScope sNum) := ⟨rfl, rfl, rfl, by decide +kernel, rfl, by decide +kernel, by decide +kernel⟩
def spNum : Sp := fun vs H Q _ => ∃ n : Int, vs = [.int n] ∧ 1 ≤ n ∧ n ≤ 4 ∧ Q .non H
theorem ok_num (T : Txt K mg C aN) (S : Stands K mg "check_number" sNum ["number"]) : Can P w K mg base 1 "check_number" ["number"] spNum := by
  obtain ⟨f, fd, F, m, b⟩ := S
  refine ⟨f, fd, F.ok scNum (fun vs H Q E h => ?_) (fun cdv A outer s H vs Q E hr h => ?_), m, F.kp, b⟩
  · obtain ⟨n, rfl, _⟩ := h
    rfl
  · obtain ⟨n, rfl, h1, h2, k⟩ := h
    refine ⟨_, pss_one (ps_if (pt_cmpR op_notIn_seq (pv 0) (pe_glob (v := .ref aN) rfl T.mgN rfl) rfl) (pss_one ps_never) pss_nil), ?_⟩
    refine ⟨_, rfl, aN, _, rfl, .inr (T.num _), rfl, rfl, _, rfl, ?_⟩
    have e : (if true = true then !inV (V.int n) [.int 1, .int 2, .int 3, .int 4] else inV (V.int n) [.int 1, .int 2, .int 3, .int 4]) = false := by
      have : n = 1 ∨ n = 2 ∨ n = 3 ∨ n = 4 := by omega
      rcases this with rfl | rfl | rfl | rfl <;> decide
    rw [e]
    exact iteF k
end
end K45W

set_option maxRecDepth 100000
set_option maxHeartbeats 4000000
namespace K45W
open PySem PySem.Spec PyProof.Rows L2 K45 K45R
theorem four_no (T : Addr) : (putF "circles" (V.ref T) []).lookup ("circle" : Str) = none := by
  rw [lookup_putF, if_neg (by decide +kernel)]
  rfl
def CanM (P : Program) (w : World) (K : PySem.W.Frag) (mg : Str → Option Value) (base : Heap) (C : Addr) (k : Nat) (name : Str) (ps : List Str) (sp : Sp) : Prop :=
  ∃ f fd, FnOk P w K mg base CX0 k f fd ps sp ∧ Meth K C name f ∧ Binds K fd ps []
def StandsM (K : PySem.W.Frag) (C : Addr) (name qual : Str) (st : Stmt) (ps : List Str) : Prop :=
  ∃ f fd, Fun K name qual st f fd ∧ Meth K C name f ∧ Binds K fd ps []
structure FitP (p : Int × Int) : Prop where
  told : told p.1 p.2 = p
  cop : Nat.gcd p.1.natAbs p.2.natAbs = 1
  le1 : p.1.natAbs ≤ 1000
  le2 : p.2.natAbs ≤ 1000
theorem fit_of {p : Int × Int} (h : fit p = true) : FitP p := by
  unfold fit at h
  simp only [Bool.and_eq_true, decide_eq_true_eq] at h
  exact ⟨h.1.1.1, h.1.1.2, h.1.2, h.2⟩
theorem cmS {i j : Int} (h : j.natAbs ≤ 1099511627776) : CMul i j := .inr ⟨by omega, by omega⟩
theorem cmS' {i j : Int} (h : i.natAbs ≤ 1099511627776) : CMul i j := .inl ⟨by omega, by omega⟩
theorem own_get {cs : List Cir} {k : Nat} (h : k < cs.length) : cs[k]? = some (own cs k) := by
  unfold own
  simp [List.getD_eq_getElem?_getD, List.getElem?_eq_getElem h]
section
variable {P : Program} {w : World} {K : PySem.W.Frag} {mg : Str → Option Value} {base : Heap} {C aN : Addr}
/-! ### Four.circle -/
abbrev sFC : Stmt := inClass (top 16) 2
theorem scFC : FnScope ["self", "number"] ["self", "number"] (defScope sFC) := ⟨rfl, rfl, rfl, by decide +kernel, rfl, by decide +kernel, by decide +kernel⟩
def spFC (C : Addr) : Sp := fun vs H Q _ => ∃ x T cs k, vs = [.ref x, .int ((k : Nat) + 1)] ∧ FourAt C H x T cs ∧ cs.length = 4 ∧ k < 4 ∧ ∀ v, RC H v (own cs k) → Q v H
theorem ok_FC (T : Txt K mg C aN) (S : StandsM K C "circle" "Four.circle" sFC ["self", "number"]) (GN : Can P w K mg base 1 "check_number" ["number"] spNum) : CanM P w K mg base C 2 "circle" ["self", "number"] (spFC C) := by
  obtain ⟨f, fd, F, m, b⟩ := S
  obtain ⟨fN, fdN, GN, mN, kN, bN⟩ := GN
  refine ⟨f, fd, F.ok scFC (fun vs H Q E h => ?_) (fun cdv A outer s H vs Q E hr h => ?_), m, b⟩
  · obtain ⟨x, T, cs, k, rfl, _⟩ := h
    rfl
  · obtain ⟨x, Tt, cs, k, rfl, ⟨dx, vs, h1, h2, pr⟩, hl, hk, q⟩ := h
    refine ⟨_, pss_cons (ps_expr (pe_call GN hr rfl mN kN bN .nil pass0 (pa_cons (pv 1) pa_nil))) (pss_one (ps_ret (pe_ix ix_tup (pe_fld (pv 0) rfl) (pe_op op_sub (pv 1) pe_int) (fun _ _ => rfl)))), ?_⟩
    obtain ⟨v, hv, r⟩ := pr_get' pr (own_get (cs := cs) (k := k) (by omega))
    refine ⟨_, rfl, _, rfl, by omega, by omega, ?_⟩
    exact ⟨_, rfl, x, C, dx, _, _, rfl, h1, T.cl, T.nCi, four_fld _, _, rfl, _, _, rfl, rfl, Tt, _, _, v, rfl, rfl, SqT.of h2, at_of (j := k) (by omega) hv, q v r⟩
/-! ### told -/
abbrev sTold : Stmt := top 20
theorem scTold : FnScope ["pair", "p", "q"] ["pair"] (defScope sTold) := ⟨rfl, rfl, rfl, by decide +kernel, rfl, by decide +kernel, by decide +kernel⟩
def spTold : Sp := fun vs H Q _ => ∃ v p, vs = [v] ∧ RP H v p ∧ ∀ v' H', Same H H' → RP H' v' (told p.1 p.2) → Q v' H'
theorem ok_told (T : Txt K mg C aN) (S : Stands K mg "told" sTold ["pair"]) : Can P w K mg base 1 "told" ["pair"] spTold := by
  obtain ⟨f, fd, F, m, b⟩ := S
  refine ⟨f, fd, F.ok scTold (fun vs H Q E h => ?_) (fun cdv A outer s H vs Q E hr h => ?_), m, F.kp, b⟩
  · obtain ⟨v, p, rfl, _⟩ := h
    rfl
  · obtain ⟨v, p, rfl, ⟨a, rfl, ha⟩, k⟩ := h
    refine ⟨_, pss_cons (ps_asg (pv 0) (pg_tup rfl (pgs_cons (pg_name (i := 1) scTold.nd rfl (Or.inl rfl)) (pgs_cons (pg_name (i := 2) scTold.nd rfl (Or.inl rfl)) pgs_nil))))
      (pss_one (ps_ret (pe_ifExp (pt_cmpR (op_gt2 hr.units0) (pe_tup (pa_cons (pv 1) (pa_cons (pv 2) pa_nil))) (pe_tup (pa_cons pe_int (pa_cons pe_int pa_nil))) (nomark _))
        (pe_tup (pa_cons (pv 1) (pa_cons (pv 2) pa_nil))) (pe_tup (pa_cons (pe_un un_neg (pv 1)) (pa_cons (pe_un un_neg (pv 2)) pa_nil)))))), ?_⟩
    refine ⟨_, rfl, a, _, rfl, SqT.of ha, rfl, _, _, rfl, _, _, rfl, rfl, ?_⟩
    refine ⟨_, rfl, _, rfl, (by show 2 ≤ sizeLine; decide), fun t1 n1 => ?_⟩
    refine ⟨(by show 2 ≤ sizeLine; decide), fun t2 n2 => ?_⟩
    have d12 : t1 ≠ t2 := ne_of_none upd_same n2
    refine ⟨t1, t2, p.1, p.2, 0, 0, rfl, rfl, SqT.of (by rw [upd_ne d12]; exact upd_same), SqT.of upd_same, _, rfl, ?_⟩
    have s2 : Same H (upd (upd H t1 (.tup [.int p.1, .int p.2])) t2 (.tup [.int 0, .int 0])) := (same_upd n1).trans (same_upd n2)
    refine ite2 (fun hc => ?_) (fun hc => ?_)
    · refine ⟨_, rfl, _, rfl, (by show 2 ≤ sizeLine; decide), fun t3 n3 => k _ _ (s2.trans (same_upd n3)) ⟨t3, rfl, ?_⟩⟩
      rw [show told p.1 p.2 = (p.1, p.2) from if_pos (of_decide_eq_true hc)]
      exact upd_same
    · refine ⟨_, rfl, _, rfl, _, rfl, _, rfl, (by show 2 ≤ sizeLine; decide), fun t3 n3 => k _ _ (s2.trans (same_upd n3)) ⟨t3, rfl, ?_⟩⟩
      rw [show told p.1 p.2 = (-p.1, -p.2) from if_neg (fun z => hc (decide_eq_true z))]
      exact upd_same
/-! ### crossed -/
abbrev sCrs : Stmt := top 26
theorem scCrs : FnScope ["one", "other"] ["one", "other"] (defScope sCrs) := ⟨rfl, rfl, rfl, by decide +kernel, rfl, by decide +kernel, by decide +kernel⟩
def spCrs : Sp := fun vs H Q _ => ∃ v u p q, vs = [v, u] ∧ RP H v p ∧ RP H u q ∧ FitP p ∧ FitP q ∧ Q (.int (crs p q)) H
theorem ok_crs (T : Txt K mg C aN) (S : Stands K mg "crossed" sCrs ["one", "other"]) : Can P w K mg base 1 "crossed" ["one", "other"] spCrs := by
  obtain ⟨f, fd, F, m, b⟩ := S
  refine ⟨f, fd, F.ok scCrs (fun vs H Q E h => ?_) (fun cdv A outer s H vs Q E hr h => ?_), m, F.kp, b⟩
  · obtain ⟨v, u, p, q, rfl, _⟩ := h
    rfl
  · obtain ⟨v, u, p, q, rfl, ⟨a, rfl, ha⟩, ⟨c, rfl, hc⟩, fp, fq, k⟩ := h
    refine ⟨_, pss_one (ps_ret (pe_op op_sub (pe_op op_mul (pe_ix ix_tup (pv 0) pe_int (fun _ _ => rfl)) (pe_ix ix_tup (pv 1) pe_int (fun _ _ => rfl))) (pe_op op_mul (pe_ix ix_tup (pv 0) pe_int (fun _ _ => rfl)) (pe_ix ix_tup (pv 1) pe_int (fun _ _ => rfl))))), ?_⟩
    exact ⟨_, rfl, a, _, _, _, rfl, rfl, SqT.of ha, at_of (j := 0) rfl rfl, _, rfl, c, _, _, _, rfl, rfl, SqT.of hc, at_of (j := 1) rfl rfl, _, _, rfl, rfl, cmS' (by have := fp.le1; omega),
      _, rfl, a, _, _, _, rfl, rfl, SqT.of ha, at_of (j := 1) rfl rfl, _, rfl, c, _, _, _, rfl, rfl, SqT.of hc, at_of (j := 0) rfl rfl, _, _, rfl, rfl, cmS' (by have := fp.le2; omega), _, _, rfl, rfl, k⟩
/-! ### normal -/
abbrev sNrm : Stmt := top 19
theorem scNrm : FnScope ["pair"] ["pair"] (defScope sNrm) := ⟨rfl, rfl, rfl, by decide +kernel, rfl, by decide +kernel, by decide +kernel⟩
def spNrm : Sp := fun vs H Q _ => ∃ v p, vs = [v] ∧ RP H v p ∧ FitP p ∧ ∀ v' H', Same H H' → RP H' v' p → Q v' H'
theorem ok_nrm (T : Txt K mg C aN) (S : Stands K mg "normal" sNrm ["pair"]) (GT : Can P w K mg base 1 "told" ["pair"] spTold) : Can P w K mg base 2 "normal" ["pair"] spNrm := by
  obtain ⟨f, fd, F, m, b⟩ := S
  obtain ⟨fT, fdT, GT, mT, kT, bT⟩ := GT
  obtain ⟨tM, hM⟩ := T.most
  refine ⟨f, fd, F.ok scNrm (fun vs H Q E h => ?_) (fun cdv A outer s H vs Q E hr h => ?_), m, F.kp, b⟩
  · obtain ⟨v, p, rfl, _⟩ := h
    rfl
  · obtain ⟨v, p, rfl, hp, fp, k⟩ := h
    obtain ⟨a, rfl, ha⟩ := id hp
    refine ⟨_, pss_cons (ps_if (PW.pt (pw_or (pt_cmpR op_ne (pe_callB call_len_seq (by rfl) T.len PySem.boot_len (pa_cons (pv 0) pa_nil)) pe_int (nomark _))
        (pw_or (pt_cmpR op_ne (pe_callBfun cr_gcd rfl T.gcd (pa_cons (pe_ix ix_tup (pv 0) pe_int (fun _ _ => rfl)) (pa_cons (pe_ix ix_tup (pv 0) pe_int (fun _ _ => rfl)) pa_nil))) pe_int (nomark _))
        (pw_or1 (pt_cmpR op_gt (pe_callB (call_max2 rfl) (by rfl) T.max (by decide +kernel) (pa_cons (pe_callB call_abs (by rfl) T.abs (by decide +kernel) (pa_cons (pe_ix ix_tup (pv 0) pe_int (fun _ _ => rfl)) pa_nil))
          (pa_cons (pe_callB call_abs (by rfl) T.abs (by decide +kernel) (pa_cons (pe_ix ix_tup (pv 0) pe_int (fun _ _ => rfl)) pa_nil)) pa_nil))) (pe_glob (v := .int (10 ^ 30)) rfl hM ⟨tM, rfl⟩) (nomark _)))))) (pss_one ps_never) pss_nil)
      (pss_one (ps_ret (pe_call GT hr rfl mT kT bT .nil pass0 (pa_cons (pv 0) pa_nil)))), ?_⟩
    refine ⟨_, rfl, a, _, rfl, .inr (SqT.of ha), rfl, _, rfl, iteNS rfl ?_⟩
    refine ⟨_, rfl, a, _, _, _, rfl, rfl, SqT.of ha, at_of (j := 0) rfl rfl, _, rfl, a, _, _, _, rfl, rfl, SqT.of ha, at_of (j := 1) rfl rfl, p.1, p.2, rfl, rfl, _, rfl, iteNS (by rw [fp.cop]; rfl) ?_⟩
    refine ⟨_, rfl, a, _, _, _, rfl, rfl, SqT.of ha, at_of (j := 0) rfl rfl, p.1, rfl, _, rfl, a, _, _, _, rfl, rfl, SqT.of ha, at_of (j := 1) rfl rfl, p.2, rfl, _, _, rfl, _, _, rfl, rfl, _, rfl, ?_⟩
    have h1 := fp.le1
    have h2 := fp.le2
    have e : decide ((10 : Int) ^ 30 < (if (if p.2 < 0 then -p.2 else p.2) > (if p.1 < 0 then -p.1 else p.1) then (if p.2 < 0 then -p.2 else p.2) else (if p.1 < 0 then -p.1 else p.1))) = false := by
      refine decide_eq_false ?_
      have : (10 : Int) ^ 30 = 1000000000000000000000000000000 := by decide
      rw [this]
      split <;> split <;> omega
    rw [e]
    refine iteF ⟨_, rfl, _, p, rfl, hp, fun v' H' s' r' => k v' H' s' ?_⟩
    rw [fp.told] at r'
    exact r'
/-! ### are_neighbours -/
abbrev sNb : Stmt := top 27
theorem scNb : FnScope ["one", "other"] ["one", "other"] (defScope sNb) := ⟨rfl, rfl, rfl, by decide +kernel, rfl, by decide +kernel, by decide +kernel⟩
def spNb : Sp := fun vs H Q _ => ∃ v u p q, vs = [v, u] ∧ RP H v p ∧ RP H u q ∧ FitP p ∧ FitP q ∧ ∀ H', Same H H' → Q (.bl (decide ((crs p q).natAbs = 1))) H'
theorem ok_nb (T : Txt K mg C aN) (S : Stands K mg "are_neighbours" sNb ["one", "other"]) (GN : Can P w K mg base 2 "normal" ["pair"] spNrm) (GC : Can P w K mg base 1 "crossed" ["one", "other"] spCrs) : Can P w K mg base 3 "are_neighbours" ["one", "other"] spNb := by
  obtain ⟨f, fd, F, m, b⟩ := S
  obtain ⟨fN, fdN, GN, mN, kN, bN⟩ := GN
  obtain ⟨fC, fdC, GC, mC, kC, bC⟩ := GC
  refine ⟨f, fd, F.ok scNb (fun vs H Q E h => ?_) (fun cdv A outer s H vs Q E hr h => ?_), m, F.kp, b⟩
  · obtain ⟨v, u, p, q, rfl, _⟩ := h
    rfl
  · obtain ⟨v, u, p, q, rfl, hp, hq, fp, fq, k⟩ := h
    refine ⟨_, pss_one (ps_ret (pe_cmpR op_eq (pe_callB call_abs (by rfl) T.abs (by decide +kernel) (pa_cons (pe_call GC (hr.mono (by decide)) rfl mC kC bC .nil pass0
      (pa_cons (pe_call GN hr rfl mN kN bN .nil pass0 (pa_cons (pv 0) pa_nil)) (pa_cons (pe_call GN hr rfl mN kN bN .nil pass0 (pa_cons (pv 1) pa_nil)) pa_nil))) pa_nil)) pe_int (nomark _))), ?_⟩
    refine ⟨_, rfl, v, p, rfl, hp, fp, fun v1 H1 s1 r1 => ?_⟩
    refine ⟨_, rfl, u, q, rfl, RP.mono _ _ _ _ s1 hq, fq, fun v2 H2 s2 r2 => ?_⟩
    refine ⟨v1, v2, p, q, rfl, RP.mono _ _ _ _ s2 r1, r2, fp, fq, crs p q, rfl, rfl, ?_⟩
    have e : decide (V.int (if crs p q < 0 then -crs p q else crs p q) = V.int 1) = decide ((crs p q).natAbs = 1) := by
      rw [dec_int, Bool.beq_eq_decide_eq]
      refine decide_eq_decide.mpr ?_
      split <;> omega
    show Q (.bl (decide (V.int (if crs p q < 0 then -crs p q else crs p q) = V.int 1))) H2
    rw [e]
    exact k H2 (s1.trans s2)
end
end K45W

set_option maxRecDepth 100000
set_option maxHeartbeats 4000000
namespace K45W
open PySem PySem.Spec PyProof.Rows L2 K45 K45R
def cAt (c : Cir) (i : Nat) : Int := [c.b, c.c, c.x, c.y].getD i 0
theorem cV_at (c : Cir) {i : Nat} (h : i < 4) : (cV c).getD i .non = .int (cAt c i) := by
  match i, h with
  | 0, _ => rfl
  | 1, _ => rfl
  | 2, _ => rfl
  | 3, _ => rfl
/-- part i of the circle that a pair tells -/
def mk1 (v w1 w2 w3 : Cir) (p q : Int) (i : Nat) : Int := (cAt v i + cAt w1 i) * p * p + (cAt w3 i - cAt v i - cAt w1 i - cAt w2 i) * p * q + (cAt v i + cAt w2 i) * q * q - cAt v i
theorem mk_made (v w1 w2 w3 : Cir) (p q : Int) : (List.range 4).map (fun i => V.int (mk1 v w1 w2 w3 p q i)) = cV (madeC v w1 w2 w3 p q) := rfl
/-- all but the circle with a number, as the comprehension picks them -/
def partF (cs : List Cir) (k i : Nat) : Option Cir := if 1 + (i : Int) = (k : Int) + 1 then none else some (own cs i)
theorem partF_all {cs : List Cir} (h : cs.length = 4) {k : Nat} (hk : k < 4) : (List.range 4).filterMap (partF cs k) = cs.eraseIdx k := by
  match cs, h with
  | [a, b, c, d], _ =>
    match k, hk with
    | 0, _ => rfl
    | 1, _ => rfl
    | 2, _ => rfl
    | 3, _ => rfl
theorem three_of {R : RT} {H : Hp} {vs : List V} {cs : List Cir} (p : Paired (R H) vs cs) (h : cs.length = 3) : ∃ v1 v2 v3 c1 c2 c3, vs = [v1, v2, v3] ∧ cs = [c1, c2, c3] ∧ R H v1 c1 ∧ R H v2 c2 ∧ R H v3 c3 := by
  cases p with
  | nil => cases h
  | cons r1 p =>
    cases p with
    | nil => cases h
    | cons r2 p =>
      cases p with
      | nil => cases h
      | cons r3 p =>
        cases p with
        | nil => exact ⟨_, _, _, _, _, _, rfl, rfl, r1, r2, r3⟩
        | cons r4 p => simp only [List.length_cons] at h; omega
section
variable {P : Program} {w : World} {K : PySem.W.Frag} {mg : Str → Option Value} {base : Heap} {C aN : Addr}
/-! ### made -/
abbrev sMade : Stmt := top 23
theorem scMade : FnScope ["own", "others", "pair", "p", "q", "parts", "part", "one", "two", "three"] ["own", "others", "pair"] (defScope sMade) := ⟨rfl, rfl, rfl, by decide +kernel, rfl, by decide +kernel, by decide +kernel⟩
def spMade : Sp := fun vs H Q _ => ∃ vo l vp v w1 w2 w3 p, vs = [vo, .ref l, vp] ∧ RC H vo v ∧ LOf RC H l [w1, w2, w3] ∧ RP H vp p ∧ p.1.natAbs ≤ 1099511627776 ∧ p.2.natAbs ≤ 1099511627776 ∧
  ∀ v' H', Same H H' → RC H' v' (madeC v w1 w2 w3 p.1 p.2) → Q v' H'
theorem ok_made (T : Txt K mg C aN) (S : Stands K mg "made" sMade ["own", "others", "pair"]) : Can P w K mg base 1 "made" ["own", "others", "pair"] spMade := by
  obtain ⟨f, fd, F, m, b⟩ := S
  refine ⟨f, fd, F.ok scMade (fun vs H Q E h => ?_) (fun cdv A outer s H vs Q E hr h => ?_), m, F.kp, b⟩
  · obtain ⟨vo, l, vp, v, w1, w2, w3, p, rfl, _⟩ := h
    rfl
  · obtain ⟨vo, l, vp, v, w1, w2, w3, p, rfl, ⟨a0, rfl, h0⟩, ⟨vs, hl, pr⟩, ⟨ap, rfl, hp⟩, hp1, hp2, k⟩ := h
    obtain ⟨v1, v2, v3, c1, c2, c3, rfl, ec, ⟨a1, rfl, h1⟩, ⟨a2, rfl, h2⟩, ⟨a3, rfl, h3⟩⟩ := three_of (R := RC) pr rfl
    simp only [List.cons.injEq, and_true] at ec
    obtain ⟨rfl, rfl, rfl⟩ := ec
    have nd := scMade.nd
    refine ⟨_, pss_cons (ps_asg (pv 2) (pg_tup rfl (pgs_cons (pg_name (i := 3) nd rfl (Or.inl rfl)) (pgs_cons (pg_name (i := 4) nd rfl (Or.inl rfl)) pgs_nil))))
      (pss_cons (ps_set (i := 5) nd rfl (Or.inl rfl) (pe_lst pa_nil))
      (pss_cons (ps_for PassesOwn.never rfl (pi_z4 (by rfl) T.zip (pa_cons (pv 0) (StX.pa_star (pv 1) pa_nil)))
        (pg_tup rfl (pgs_cons (pg_name (i := 6) nd rfl (Or.inl rfl)) (pgs_cons (pg_name (i := 7) nd rfl (Or.inl rfl)) (pgs_cons (pg_name (i := 8) nd rfl (Or.inl rfl)) (pgs_cons (pg_name (i := 9) nd rfl (Or.inl rfl)) pgs_nil)))))
        (pss_one (ps_expr (pe_bm PySem.F.plainAttrs_list PySem.F.slot_list_append PySem.F.type_list_append mt_append (pv 5) (pa_cons
          (pe_op op_sub (pe_op op_add (pe_op op_add (pe_op op_mul (pe_op op_mul (pe_op op_add (pv 6) (pv 7)) (pv 3)) (pv 3))
            (pe_op op_mul (pe_op op_mul (pe_op op_sub (pe_op op_sub (pe_op op_sub (pv 9) (pv 6)) (pv 7)) (pv 8)) (pv 3)) (pv 4)))
            (pe_op op_mul (pe_op op_mul (pe_op op_add (pv 6) (pv 8)) (pv 4)) (pv 4))) (pv 6)) pa_nil)))))
      (pss_one (ps_ret (pe_callTy call_tuple_of (by rfl) T.tuple (by decide +kernel) (pa_cons (pv 5) pa_nil)))))), ?_⟩
    refine ⟨_, rfl, ap, _, rfl, SqT.of hp, rfl, _, _, rfl, _, _, rfl, rfl, ?_⟩
    refine ⟨Nat.zero_le _, fun D hD => ?_⟩
    have sD : Same H (upd H D (.lst [])) := same_upd hD
    refine ⟨_, rfl, _, rfl, l, _, rfl, .inr (SqL.of (sD _ _ hl)), a0, a1, a2, a3, _, _, _, _, rfl, SqT.of (sD _ _ h0), SqT.of (sD _ _ h1), SqT.of (sD _ _ h2), SqT.of (sD _ _ h3), ?_⟩
    refine for_it (walk_z4 (n := 4) rfl rfl rfl rfl) (fun i σ H' => ∃ x6 x7 x8 x9, σ = [some (.ref a0), some (.ref l), some (.ref ap), some (.int p.1), some (.int p.2), some (.ref D), x6, x7, x8, x9] ∧ Same H H' ∧
      H' D = some (.lst ((List.range i).map fun i => V.int (mk1 v w1 w2 w3 p.1 p.2 i)))) ⟨_, _, _, _, rfl, sD, upd_same⟩ (fun i σ H' _ ⟨_, _, _, _, _, s', _⟩ => ⟨SqT.of (s' _ _ h0), SqT.of (s' _ _ h1), SqT.of (s' _ _ h2), SqT.of (s' _ _ h3)⟩) ?_ ?_
    · rintro i x σ H1 H2 hi ⟨x6, x7, x8, x9, rfl, s', hD'⟩ ⟨t, rfl, ht, rfl⟩
      rw [cV_at v hi, cV_at w1 hi, cV_at w2 hi, cV_at w3 hi]
      have dDt : D ≠ t := ne_of_none hD' ht
      refine ⟨t, _, rfl, SqT.of upd_same, rfl, _, _, rfl, _, _, rfl, _, _, rfl, _, _, rfl, rfl, ?_⟩
      refine ⟨_, rfl, .inl ⟨rfl, _, SqL.of (by rw [upd_ne dDt]; exact hD')⟩, ?_⟩
      refine ⟨_, rfl, _, rfl, _, _, rfl, rfl, _, rfl, _, _, rfl, rfl, cmS hp1, _, rfl, _, _, rfl, rfl, cmS hp1, ?_⟩
      refine ⟨_, rfl, _, rfl, _, _, rfl, rfl, _, rfl, _, _, rfl, rfl, _, rfl, _, _, rfl, rfl, _, rfl, _, _, rfl, rfl, cmS hp1, _, rfl, _, _, rfl, rfl, cmS hp2, _, _, rfl, rfl, ?_⟩
      refine ⟨_, rfl, _, rfl, _, _, rfl, rfl, _, rfl, _, _, rfl, rfl, cmS hp2, _, rfl, _, _, rfl, rfl, cmS hp2, _, _, rfl, rfl, _, rfl, _, _, rfl, rfl, ?_⟩
      refine ⟨D, _, _, rfl, rfl, (by rw [upd_ne dDt]; exact hD'), small_line (by rw [List.length_map, List.length_range]; omega), ?_⟩
      refine ⟨_, _, _, _, rfl, same_upd' (s'.trans (same_upd ht)) hD, ?_⟩
      rw [upd_same, List.range_succ, List.map_append]
      rfl
    · rintro σ H' ⟨x6, x7, x8, x9, rfl, s', hD'⟩
      refine ⟨_, rfl, D, _, rfl, .inl ⟨SqL.of hD', fun t nt => k _ _ (s'.trans (same_upd nt)) ⟨t, rfl, ?_⟩⟩⟩
      rw [upd_same, mk_made]
/-! ### parted -/
abbrev sPart : Stmt := top 21
theorem scPart : FnScope ["four", "number", "own", "at", "circle"] ["four", "number"] (defScope sPart) := ⟨rfl, rfl, rfl, by decide +kernel, rfl, by decide +kernel, by decide +kernel⟩
def spPart (C : Addr) : Sp := fun vs H Q _ => ∃ x Tt cs k, vs = [.ref x, .int ((k : Nat) + 1)] ∧ FourAt C H x Tt cs ∧ cs.length = 4 ∧ k < 4 ∧
  ∀ t vo l H', Same H H' → H' t = some (.tup [vo, .ref l]) → RC H' vo (own cs k) → LOf RC H' l (cs.eraseIdx k) → Q (.ref t) H'
theorem ok_part (T : Txt K mg C aN) (S : Stands K mg "parted" sPart ["four", "number"]) (GC : CanM P w K mg base C 2 "circle" ["self", "number"] (spFC C)) : Can P w K mg base 3 "parted" ["four", "number"] (spPart C) := by
  obtain ⟨f, fd, F, m, b⟩ := S
  obtain ⟨fC, fdC, GC, mC, bC⟩ := GC
  refine ⟨f, fd, F.ok scPart (fun vs H Q E h => ?_) (fun cdv A outer s H vs Q E hr h => ?_), m, F.kp, b⟩
  · obtain ⟨x, Tt, cs, k, rfl, _⟩ := h
    rfl
  · obtain ⟨x, Tt, cs, k, rfl, hF, hl, hk, q⟩ := h
    obtain ⟨dx, vs, h1, h2, pr⟩ := id hF
    have nd := scPart.nd
    refine ⟨_, pss_cons (ps_set (i := 2) nd rfl (Or.inl rfl) (pe_meth (pv 0) T.cl mC GC hr bC .nil pass0 (pa_cons (pv 1) pa_nil)))
      (pss_one (ps_ret (pe_tup (pa_cons (pv 2) (pa_cons (pe_lc (own := [("at", 3), ("circle", 4)]) (g := gTup K 2 (gCons (gName 3) (gCons (gName 4) gNil))) (by rfl) nd (pi_enTC (by rfl) T.enum (pa_cons (pe_fld (pv 0) rfl) (pa_cons pe_int pa_nil)))
        (blkOk_by (own := [("at", 3), ("circle", 4)]) (N := ["four", "number", "own", "at", "circle"]) (sc := defScope sPart) (by decide +kernel))
        (fun _ _ _ _ _ => pg_tup rfl (pgs_cons (pg_name (i := 3) nd rfl (Or.inl rfl)) (pgs_cons (pg_name (i := 4) nd rfl (Or.inl rfl)) pgs_nil)))
        (fun _ _ _ _ _ => pts_one (pt_cmpR op_ne (pv 3) (pv 1) (nomark _))) (fun _ _ _ _ _ => pv 4)) pa_nil))))), ?_⟩
    refine ⟨_, rfl, x, dx, _, rfl, h1, four_no _, _, rfl, x, Tt, cs, k, rfl, hF, hl, hk, fun v rv => ?_⟩
    refine ⟨_, rfl, _, rfl, x, C, dx, _, _, rfl, h1, T.cl, T.nCi, four_fld _, Tt, _, 1, rfl, by decide, by decide, SqT.of h2, fun D hD => ?_⟩
    have hvl : vs.length = 4 := by rw [pr_len pr, hl]
    refine lc_new walk_enT RC.mono RC.stab (partF cs k) hD (by omega) (fun H' s' => SqT.of (s' _ _ h2)) (fun i y H1 H2 hi s1 hy Yes No yes no => ?_) (fun H' s' hL => ?_)
    · obtain ⟨t, rfl, ht, rfl⟩ := hy
      refine ⟨t, _, rfl, SqT.of upd_same, rfl, _, _, rfl, _, _, rfl, rfl, rfl, _, rfl, _, rfl, rfl, _, rfl, ?_⟩
      have e : (!decide (V.int (1 + (i : Nat)) = V.int ((k : Nat) + 1))) = !decide (1 + (i : Int) = (k : Int) + 1) := by rw [dec_int, Bool.beq_eq_decide_eq]
      rw [e]
      by_cases hc : 1 + (i : Int) = (k : Int) + 1
      · rw [decide_eq_true hc]
        refine iteF (no _ ?_ (same_upd ht))
        unfold partF
        rw [if_pos hc]
      · rw [decide_eq_false hc]
        refine iteT ⟨_, rfl, yes _ _ (own cs i) ?_ (same_upd ht) ?_⟩
        · unfold partF
          rw [if_neg hc]
        · obtain ⟨c, hc', r⟩ := pr_get pr (show vs[i]? = some (vs.getD i .non) by simp [hi])
          rw [own_get (by omega)] at hc'
          cases hc'
          exact RC.mono _ _ _ _ (s1.trans (same_upd ht)) r
    · rw [hvl, partF_all hl hk] at hL
      refine ⟨(by show 2 ≤ sizeLine; decide), fun t nt => ?_⟩
      exact q t v D _ (s'.trans (same_upd nt)) upd_same (RC.mono _ _ _ _ (s'.trans (same_upd nt)) rv) (hL.mono RC.mono (same_upd nt))
/-! ### circle_by -/
abbrev sBy : Stmt := top 22
theorem scBy : FnScope ["four", "number", "pair", "own", "others"] ["four", "number", "pair"] (defScope sBy) := ⟨rfl, rfl, rfl, by decide +kernel, rfl, by decide +kernel, by decide +kernel⟩
def spBy (C : Addr) : Sp := fun vs H Q _ => ∃ x Tt cs k vp p, vs = [.ref x, .int ((k : Nat) + 1), vp] ∧ FourAt C H x Tt cs ∧ cs.length = 4 ∧ k < 4 ∧ RP H vp p ∧ FitP p ∧
  ∀ v' H', Same H H' → RC H' v' (by_ cs k p) → Q v' H'
theorem erase_oth {cs : List Cir} (h : cs.length = 4) {k : Nat} (hk : k < 4) : cs.eraseIdx k = [oth cs k 0, oth cs k 1, oth cs k 2] := by
  match cs, h with
  | [a, b, c, d], _ =>
    match k, hk with
    | 0, _ => rfl
    | 1, _ => rfl
    | 2, _ => rfl
    | 3, _ => rfl
theorem ok_by (T : Txt K mg C aN) (S : Stands K mg "circle_by" sBy ["four", "number", "pair"]) (GP : Can P w K mg base 3 "parted" ["four", "number"] (spPart C)) (GM : Can P w K mg base 1 "made" ["own", "others", "pair"] spMade)
    (GN : Can P w K mg base 2 "normal" ["pair"] spNrm) : Can P w K mg base 4 "circle_by" ["four", "number", "pair"] (spBy C) := by
  obtain ⟨f, fd, F, m, b⟩ := S
  obtain ⟨fP, fdP, GP, mP, kP, bP⟩ := GP
  obtain ⟨fM, fdM, GM, mM, kM, bM⟩ := GM
  obtain ⟨fN, fdN, GN, mN, kN, bN⟩ := GN
  refine ⟨f, fd, F.ok scBy (fun vs H Q E h => ?_) (fun cdv A outer s H vs Q E hr h => ?_), m, F.kp, b⟩
  · obtain ⟨x, Tt, cs, k, vp, p, rfl, _⟩ := h
    rfl
  · obtain ⟨x, Tt, cs, k, vp, p, rfl, hF, hl, hk, hp, fp, q⟩ := h
    have nd := scBy.nd
    refine ⟨_, pss_cons (ps_asg (pe_call GP hr rfl mP kP bP .nil pass0 (pa_cons (pv 0) (pa_cons (pv 1) pa_nil))) (pg_tup rfl (pgs_cons (pg_name (i := 3) nd rfl (Or.inl rfl)) (pgs_cons (pg_name (i := 4) nd rfl (Or.inl rfl)) pgs_nil))))
      (pss_one (ps_ret (pe_call GM (hr.mono (by decide)) rfl mM kM bM .nil pass0 (pa_cons (pv 3) (pa_cons (pv 4) (pa_cons (pe_call GN (hr.mono (by decide)) rfl mN kN bN .nil pass0 (pa_cons (pv 2) pa_nil)) pa_nil)))))), ?_⟩
    refine ⟨_, rfl, _, rfl, x, Tt, cs, k, rfl, hF, hl, hk, fun t vo l H1 s1 ht ro rl => ?_⟩
    refine ⟨t, _, rfl, SqT.of ht, rfl, _, _, rfl, _, _, rfl, rfl, ?_⟩
    refine ⟨_, rfl, _, rfl, _, rfl, vp, p, rfl, RP.mono _ _ _ _ s1 hp, fp, fun v2 H2 s2 r2 => ?_⟩
    rw [erase_oth hl hk] at rl
    exact ⟨vo, l, v2, own cs k, _, _, _, p, rfl, RC.mono _ _ _ _ s2 ro, rl.mono RC.mono s2, r2, by have := fp.le1; omega, by have := fp.le2; omega, fun v' H' s' r' => q v' H' ((s1.trans s2).trans s') r'⟩
end
end K45W

set_option maxRecDepth 100000
set_option maxHeartbeats 4000000
namespace K45W
open PySem PySem.Spec PyProof.Rows L2 K45 K45R
theorem fm_range {α β : Type} (xs : List α) (g : α → β) : ∀ n, (List.range n).filterMap (fun i => (xs[i]?).map g) = (xs.take n).map g
  | 0 => by simp
  | n + 1 => by
    rw [List.range_succ, List.filterMap_append, fm_range xs g n, List.take_succ, List.map_append]
    have key : ∀ o : Option α, xs[n]? = o → List.filterMap (fun i => (xs[i]?).map g) [n] = o.toList.map g := fun o ho => by
      cases o with
      | none => simp [ho]
      | some z => simp [ho]
    rw [key _ rfl]
theorem fm_all {α β : Type} (xs : List α) (g : α → β) : (List.range xs.length).filterMap (fun i => (xs[i]?).map g) = xs.map g := by
  rw [fm_range, List.take_length]
/-- two ways meet behind a statement: a word about what they leave -/
def tCut (t u : TS) : TS := fun D σ H => ∃ Pm : L2.St → Hp → Prop, t { D with nx := Pm } σ H ∧ ∀ σ' H', Pm σ' H' → u D σ' H'
theorem pss_mid {X : Cx} {st : Stmt} {rest : List Stmt} {t u : TS} (h1 : PS X st t) (h2 : PSs X rest u) : PSs X (st :: rest) (tCut t u) := by
  have h := pss_cons h1 h2
  refine ⟨fun pins s σ H D I hw => ?_⟩
  obtain ⟨Pm, q, k⟩ := hw
  refine wpAny_execs_cons (thn (h1.run pins s σ H { D with nx := Pm } I q) fun f s1 q => ?_)
  cases f with
  | next =>
    obtain ⟨σ', H', I', q⟩ := q
    exact h2.run pins s1 σ' H' D I' (k _ _ q)
  | ret v => exact q
  | brk => exact q
  | cont => exact q
/-! ### circles and pairs as data -/
def cD (c : Cir) : PyData := .tuple [.int c.b, .int c.c, .int c.x, .int c.y]
def pD (p : Int × Int) : PyData := .tuple [.int p.1, .int p.2]
theorem cD_dp {K : PySem.W.Frag} {H : Hp} {v : V} {c : Cir} (h : RC H v c) : Dp K H v (cD c) := by
  obtain ⟨p, rfl, hp⟩ := h
  exact .tup (SqT.of hp) (.cons (.int _) (.cons (.int _) (.cons (.int _) (.cons (.int _) .nil))))
theorem pD_dp {K : PySem.W.Frag} {H : Hp} {v : V} {p : Int × Int} (h : RP H v p) : Dp K H v (pD p) := by
  obtain ⟨a, rfl, hp⟩ := h
  exact .tup (SqT.of hp) (.cons (.int _) (.cons (.int _) .nil))
theorem cD_lay (c : Cir) : (cD c).canLay0 = true := by simp [cD, PyData.canLay0, PyData.canLayAll0]
theorem pD_lay (c : Int × Int) : (pD c).canLay0 = true := by simp [pD, PyData.canLay0, PyData.canLayAll0]
theorem cD_depth (c : Cir) : (cD c).depth = 1 := by simp [cD, PyData.depth, PyData.depthAll]
theorem pD_depth (c : Int × Int) : (pD c).depth = 1 := by simp [pD, PyData.depth, PyData.depthAll]
theorem shaped_of {d : PyData} (h1 : d.canLay0 = true) (h2 : d.depth ≤ 64) : SeqAt.shaped d = true := by
  show (d.canLay0 && decide (d.depth ≤ 64)) = true
  rw [h1, decide_eq_true h2]
  rfl
theorem cD_sh (c : Cir) : SeqAt.shaped (cD c) = true := shaped_of (cD_lay c) (by rw [cD_depth]; decide)
theorem pD_sh (c : Int × Int) : SeqAt.shaped (pD c) = true := shaped_of (pD_lay c) (by rw [pD_depth]; decide)
theorem beq_dec (i j : Int) : (i == j) = decide (i = j) := Bool.beq_eq_decide_eq i j
theorem cD_eqv (c d : Cir) : PyData.eqv (cD c) (cD d) = decide (c = d) := by
  obtain ⟨b, c, x, y⟩ := c
  obtain ⟨b', c', x', y'⟩ := d
  have e : PyData.eqv (cD ⟨b, c, x, y⟩) (cD ⟨b', c', x', y'⟩) = ((b == b') && ((c == c') && ((x == x') && ((y == y') && true)))) := by simp only [cD, PyData.eqv, PyData.eqvAll]
  rw [e, beq_dec, beq_dec, beq_dec, beq_dec, Bool.and_true, ← Bool.decide_and, ← Bool.decide_and, ← Bool.decide_and]
  refine decide_eq_decide.mpr ?_
  simp only [Cir.mk.injEq]
theorem pD_eqv (p q : Int × Int) : PyData.eqv (pD p) (pD q) = decide (p = q) := by
  obtain ⟨a, b⟩ := p
  obtain ⟨a', b'⟩ := q
  have e : PyData.eqv (pD (a, b)) (pD (a', b')) = ((a == a') && ((b == b') && true)) := by simp only [pD, PyData.eqv, PyData.eqvAll]
  rw [e, beq_dec, beq_dec, Bool.and_true, ← Bool.decide_and]
  refine decide_eq_decide.mpr ?_
  simp only [Prod.mk.injEq]
theorem crd_some {cs : List Cir} {c : Cir} {ps : List Int} (h : crd cs c = some ps) : ((dbls cs c).map fun d => decide ((2 * d - (dbls cs c).sum) % 8 ≠ 0)).any id = false ∧ ps = (dbls cs c).map fun d => (2 * d - (dbls cs c).sum) / 8 := by
  unfold crd at h
  by_cases q : (dbls cs c).any (fun d => decide ((2 * d - (dbls cs c).sum) % 8 ≠ 0)) = true
  · rw [if_pos q] at h
    cases h
  · rw [if_neg q] at h
    refine ⟨?_, (Option.some.inj h).symm⟩
    rw [List.any_map]
    exact Bool.eq_false_iff.mpr q
section
variable {P : Program} {w : World} {K : PySem.W.Frag} {mg : Str → Option Value} {base : Heap} {C aN : Addr}
/-! ### coordinates_of -/
abbrev sCrd : Stmt := top 24
theorem scCrd : FnScope ["four", "circle", "doubles", "total", "other", "twice"] ["four", "circle"] (defScope sCrd) := ⟨rfl, rfl, rfl, by decide +kernel, rfl, by decide +kernel, by decide +kernel⟩
def spCrd (C : Addr) : Sp := fun vs H Q _ => ∃ x Tt cs vc c ps, vs = [.ref x, vc] ∧ FourAt C H x Tt cs ∧ cs.length ≤ 100 ∧ RC H vc c ∧ OkC c ∧ (∀ d ∈ cs, OkC d) ∧ crd cs c = some ps ∧
  ∀ l H', Same H H' → H l = none → H' l = some (.lst (ps.map V.int)) → Q (.ref l) H'
theorem ok_crd (T : Txt K mg C aN) (S : Stands K mg "coordinates_of" sCrd ["four", "circle"]) (GD : Can P w K mg base 3 "double" ["one", "other"] spDbl) : Can P w K mg base 4 "coordinates_of" ["four", "circle"] (spCrd C) := by
  obtain ⟨f, fd, F, m, b⟩ := S
  obtain ⟨fD, fdD, GD, mD, kD, bD⟩ := GD
  refine ⟨f, fd, F.ok scCrd (fun vs H Q E h => ?_) (fun cdv A outer s H vs Q E hr h => ?_), m, F.kp, b⟩
  · obtain ⟨x, Tt, cs, vc, c, ps, rfl, _⟩ := h
    rfl
  · obtain ⟨x, Tt, cs, vc, c, ps, rfl, hF, hl, hc, oc, oks, hcr, q⟩ := h
    obtain ⟨dx, vs, h1, h2, pr⟩ := id hF
    obtain ⟨hany, rfl⟩ := crd_some hcr
    have nd := scCrd.nd
    refine ⟨_, pss_cons (ps_setLc (i := 2) (own := [("other", 4)]) (g := gName 4) (tt := tYes) (by rfl) nd rfl rfl (sw_true rfl rfl rfl (by decide +kernel)) (pi_tup (pe_fld (pv 0) rfl))
        (blkOk_by (own := [("other", 4)]) (N := ["four", "circle", "doubles", "total", "other", "twice"]) (sc := defScope sCrd) (by decide +kernel))
        (fun _ _ _ _ _ => pg_name (i := 4) nd rfl (Or.inl rfl)) (fun _ _ _ _ _ => pts_nil) (fun _ _ _ _ _ => pe_call GD hr rfl mD kD bD .nil pass0 (pa_cons (pv 1) (pa_cons (pv 4) pa_nil))))
      (pss_cons (ps_set (i := 3) nd rfl (Or.inr rfl) (pe_callB (cr_sum rfl) (by rfl) T.sum (by decide +kernel) (pa_cons (pv 2) pa_nil)))
      (pss_cons (ps_if (pt_val (pe_callB (cr_any rfl) (by rfl) T.any (by decide +kernel) (pa_cons (pe_lc (own := [("twice", 5)]) (g := gName 5) (tt := tYes) (by rfl) nd (pi_list (pv 2))
          (blkOk_by (own := [("twice", 5)]) (N := ["four", "circle", "doubles", "total", "other", "twice"]) (sc := defScope sCrd) (by decide +kernel))
          (fun _ _ _ _ _ => pg_name (i := 5) nd rfl (Or.inl rfl)) (fun _ _ _ _ _ => pts_nil) (fun _ _ _ _ _ => pe_cmpR op_ne (pe_op op_mod (pe_op op_sub (pe_op op_mul pe_int (pv 5)) (pv 3)) pe_int) pe_int (nomark _))) pa_nil)))
        (pss_one (ps_ret pe_non)) pss_nil)
      (pss_one (ps_ret (pe_lc (own := [("twice", 5)]) (g := gName 5) (tt := tYes) (by rfl) nd (pi_list (pv 2))
          (blkOk_by (own := [("twice", 5)]) (N := ["four", "circle", "doubles", "total", "other", "twice"]) (sc := defScope sCrd) (by decide +kernel))
          (fun _ _ _ _ _ => pg_name (i := 5) nd rfl (Or.inl rfl)) (fun _ _ _ _ _ => pts_nil) (fun _ _ _ _ _ => pe_op op_fdiv (pe_op op_sub (pe_op op_mul pe_int (pv 5)) (pv 3)) pe_int)))))), ?_⟩
    have hvl : vs.length = cs.length := pr_len pr
    -- doubles
    refine ⟨_, rfl, x, C, dx, _, _, rfl, h1, T.cl, T.nCi, four_fld _, Tt, rfl, ⟨_, SqT.of h2⟩, fun D hD => ?_⟩
    refine lc_new walk_tup RI.mono RI.stab (fun i => (cs[i]?).map (dbl c)) hD (by omega) (fun H' s' => SqT.of (s' _ _ h2)) (fun i y H1 H2 hi s1 hy Yes No yes no => ?_) (fun H1 s1 hL => ?_)
    · obtain ⟨rfl, hy⟩ := hy
      obtain ⟨d, hd, r⟩ := pr_get pr hy
      refine ⟨rfl, _, rfl, _, rfl, vc, y, c, d, rfl, RC.mono _ _ _ _ s1 hc, RC.mono _ _ _ _ s1 r, oc, oks d (List.mem_of_getElem? hd), yes _ _ _ ?_ (Same.refl _) rfl⟩
      rw [hd]
      rfl
    · rw [hvl, fm_all] at hL
      obtain ⟨ds, hds, pds⟩ := hL
      rw [ints_of pds] at hds
      replace hds : H1 D = some (.lst ((dbls cs c).map V.int)) := hds
      have dl : ((dbls cs c).map V.int).length = (dbls cs c).length := List.length_map ..
      have dl2 : (dbls cs c).length = cs.length := List.length_map ..
      refine ⟨_, rfl, D, _, rfl, SqL.of hds, ?_⟩
      -- any
      refine ⟨_, rfl, D, rfl, ⟨_, SqL.of hds⟩, fun D2 hD2 => ?_⟩
      refine lc_new walk_list RB.mono RB.stab (fun i => ((dbls cs c)[i]?).map fun d => decide ((2 * d - (dbls cs c).sum) % 8 ≠ 0)) hD2 (by omega) (fun H' s' => SqL.of (s' _ _ hds)) (fun i y H2 H3 hi s2 hy Yes No yes no => ?_) (fun H2 s2 hL => ?_)
      · obtain ⟨rfl, hy⟩ := hy
        rw [List.getElem?_map] at hy
        cases hz : (dbls cs c)[i]? with
        | none => rw [hz] at hy; cases hy
        | some z =>
          rw [hz] at hy
          cases hy
          refine ⟨rfl, _, rfl, _, _, rfl, rfl, cm2 _, _, rfl, _, _, rfl, rfl, _, _, rfl, rfl, (by show (0 : Int) < 8; decide), rfl, yes _ _ (decide ((2 * z - (dbls cs c).sum) % 8 ≠ 0)) ?_ (Same.refl _) ?_⟩
          · rw [hz]
            rfl
          · show V.bl (!decide (V.int ((2 * z - (dbls cs c).sum) % 8) = V.int 0)) = V.bl (decide ((2 * z - (dbls cs c).sum) % 8 ≠ 0))
            rw [dec_int, beq_dec, decide_not]
      · rw [dl, fm_all] at hL
        obtain ⟨bs, hbs, pbs⟩ := hL
        rw [bls_of pbs] at hbs
        refine ⟨D2, _, rfl, SqL.of hbs, _, rfl, ?_⟩
        rw [hany]
        refine iteF ?_
        -- the list
        have hds2 := s2 _ _ hds
        refine ⟨_, rfl, D, rfl, ⟨_, SqL.of hds2⟩, fun D3 hD3 => ?_⟩
        refine lc_new walk_list RI.mono RI.stab (fun i => ((dbls cs c)[i]?).map fun d => (2 * d - (dbls cs c).sum) / 8) hD3 (by omega) (fun H' s' => SqL.of (s' _ _ hds2)) (fun i y H3 H4 hi s3 hy Yes No yes no => ?_) (fun H3 s3 hL => ?_)
        · obtain ⟨rfl, hy⟩ := hy
          rw [List.getElem?_map] at hy
          cases hz : (dbls cs c)[i]? with
          | none => rw [hz] at hy; cases hy
          | some z =>
            rw [hz] at hy
            cases hy
            refine ⟨rfl, _, rfl, _, _, rfl, rfl, cm2 _, _, rfl, _, _, rfl, rfl, _, _, rfl, rfl, ⟨by decide, by decide⟩, yes _ _ _ ?_ (Same.refl _) rfl⟩
            rw [hz]
            rfl
        · rw [dl, fm_all] at hL
          obtain ⟨ks, hks, pks⟩ := hL
          rw [ints_of pks] at hks
          exact q D3 H3 ((s1.trans s2).trans s3) ((s1.trans s2).free hD3) hks
end
end K45W

set_option maxRecDepth 100000
set_option maxHeartbeats 4000000
namespace K45W
open PySem PySem.Spec PyProof.Rows L2 K45 K45R
theorem sq_le (n : Nat) : sq n ≤ n := by
  have h := (sq_spec n).1
  rcases Nat.eq_zero_or_pos (sq n) with z | z
  · omega
  · have : sq n ≤ sq n * sq n := Nat.le_mul_of_pos_left _ z
    omega
/-- coordinates of a small size -/
def Small (z : Int) : Prop := -1000 ≤ z ∧ z ≤ 1000
theorem erase_ps {i j l m : Int} (hi : Small i) (hj : Small j) (hl : Small l) (hm : Small m) {k : Nat} (hk : k < 4) : ∃ a b c, [i, j, l, m].eraseIdx k = [a, b, c] ∧ Small a ∧ Small b ∧ Small c ∧ ∃ z, ([i, j, l, m].map V.int)[k]? = some (.int z) := by
  match k, hk with
  | 0, _ => exact ⟨_, _, _, rfl, hj, hl, hm, _, rfl⟩
  | 1, _ => exact ⟨_, _, _, rfl, hi, hl, hm, _, rfl⟩
  | 2, _ => exact ⟨_, _, _, rfl, hi, hj, hm, _, rfl⟩
  | 3, _ => exact ⟨_, _, _, rfl, hi, hj, hl, _, rfl⟩
theorem map_erase {α β : Type} (f : α → β) : ∀ (l : List α) (k : Nat), (l.map f).eraseIdx k = (l.eraseIdx k).map f
  | [], _ => rfl
  | _ :: _, 0 => rfl
  | a :: l, k + 1 => by simp only [List.map_cons, List.eraseIdx_cons_succ, map_erase f l k]
theorem seq_ix {k : Nat} (hk : k < 4) : seqIndex? (((k : Nat) : Int) + 1 - 1) 4 = some k := by
  match k, hk with
  | 0, _ => rfl
  | 1, _ => rfl
  | 2, _ => rfl
  | 3, _ => rfl
section
variable {P : Program} {w : World} {K : PySem.W.Frag} {mg : Str → Option Value} {base : Heap} {C aN : Addr}
/-! ### pair_of -/
abbrev sPair : Stmt := top 25
theorem scPair : FnScope ["four", "number", "circle", "own", "others", "parts", "one", "two", "three", "pair"] ["four", "number", "circle"] (defScope sPair) := ⟨rfl, rfl, rfl, by decide +kernel, rfl, by decide +kernel, by decide +kernel⟩
/-- a pair, or None -/
def ROpt (H : Hp) (v : V) : Option (Int × Int) → Prop
  | none => v = .non
  | some p => RP H v p
def spPair (C : Addr) : Sp := fun vs H Q _ => ∃ x Tt cs k vc c i j l m, vs = [.ref x, .int ((k : Nat) + 1), vc] ∧ FourAt C H x Tt cs ∧ cs.length = 4 ∧ k < 4 ∧ RC H vc c ∧ OkC c ∧ (∀ d ∈ cs, OkC d) ∧
  crd cs c = some [i, j, l, m] ∧ Small i ∧ Small j ∧ Small l ∧ Small m ∧ ∀ v H', Same H H' → ROpt H' v (pairOf cs k c) → Q v H'
theorem ok_pair (T : Txt K mg C aN) (S : Stands K mg "pair_of" sPair ["four", "number", "circle"]) (GP : Can P w K mg base 3 "parted" ["four", "number"] (spPart C)) (GC : Can P w K mg base 4 "coordinates_of" ["four", "circle"] (spCrd C))
    (GM : Can P w K mg base 1 "made" ["own", "others", "pair"] spMade) (GT : Can P w K mg base 1 "told" ["pair"] spTold) : Can P w K mg base 5 "pair_of" ["four", "number", "circle"] (spPair C) := by
  obtain ⟨f, fd, F, m, b⟩ := S
  obtain ⟨fP, fdP, GP, mP, kP, bP⟩ := GP
  obtain ⟨fC, fdC, GC, mC, kC, bC⟩ := GC
  obtain ⟨fM, fdM, GM, mM, kM, bM⟩ := GM
  obtain ⟨fT, fdT, GT, mT, kT, bT⟩ := GT
  refine ⟨f, fd, F.ok scPair (fun vs H Q E h => ?_) (fun cdv A outer s H vs Q E hr h => ?_), m, F.kp, b⟩
  · obtain ⟨x, Tt, cs, k, vc, c, i, j, l, m, rfl, _⟩ := h
    rfl
  · obtain ⟨x, Tt, cs, k, vc, c, ci, cj, cl, cm, rfl, hF, hl, hk, hc, oc, oks, hcr, zi, zj, zl, zm, q⟩ := h
    have nd := scPair.nd
    have hr1 : Room 1 _ := hr.mono (by decide)
    refine ⟨_, pss_cons (ps_asg (pe_call GP (hr.mono (by decide)) rfl mP kP bP .nil pass0 (pa_cons (pv 0) (pa_cons (pv 1) pa_nil))) (pg_tup rfl (pgs_cons (pg_name (i := 3) nd rfl (Or.inl rfl)) (pgs_cons (pg_name (i := 4) nd rfl (Or.inl rfl)) pgs_nil))))
      (pss_cons (ps_set (i := 5) nd rfl (Or.inl rfl) (pe_call GC hr rfl mC kC bC .nil pass0 (pa_cons (pv 0) (pa_cons (pv 2) pa_nil))))
      (pss_cons (ps_if (pt_cmpR op_isN (pv 5) pe_non (nomark _)) (pss_one (ps_ret pe_non)) pss_nil)
      (pss_cons (ps_expr (pe_bm PySem.F.plainAttrs_list PySem.F.slot_list_pop PySem.F.type_list_pop mt_popAt (pv 5) (pa_cons (pe_op op_sub (pv 1) pe_int) pa_nil)))
      (pss_cons (ps_asg (pv 5) (pg_unl rfl (pgs_cons (pg_name (i := 6) nd rfl (Or.inl rfl)) (pgs_cons (pg_name (i := 7) nd rfl (Or.inl rfl)) (pgs_cons (pg_name (i := 8) nd rfl (Or.inl rfl)) pgs_nil)))))
      (pss_cons (ps_if (PW.pt (pw_or (pt_cmpR op_lt (pe_op op_add (pv 6) (pv 8)) pe_int (nomark _)) (pw_or1 (pt_cmpR op_lt (pe_op op_add (pv 7) (pv 8)) pe_int (nomark _))))) (pss_one (ps_ret pe_non)) pss_nil)
      (pss_cons (ps_set (i := 9) nd rfl (Or.inl rfl) (pe_tup (pa_cons (pe_callBfun cr_isqrt rfl T.isqrt (pa_cons (pe_op op_add (pv 6) (pv 8)) pa_nil)) (pa_cons (pe_callBfun cr_isqrt rfl T.isqrt (pa_cons (pe_op op_add (pv 7) (pv 8)) pa_nil)) pa_nil))))
      (pss_mid (ps_if (pt_cmpR op_lt (pv 8) pe_int (nomark _)) (pss_one (ps_set (i := 9) nd rfl (Or.inl rfl) (pe_tup (pa_cons (pe_ix ix_tup (pv 9) pe_int (fun _ _ => rfl)) (pa_cons (pe_un un_neg (pe_ix ix_tup (pv 9) pe_int (fun _ _ => rfl))) pa_nil))))) pss_nil)
      (pss_cons (ps_if (PW.pt (pw_or (pt_cmpR op_ne (pe_callBfun cr_gcd rfl T.gcd (pa_cons (pe_ix ix_tup (pv 9) pe_int (fun _ _ => rfl)) (pa_cons (pe_ix ix_tup (pv 9) pe_int (fun _ _ => rfl)) pa_nil))) pe_int (nomark _))
        (pw_or1 (pt_cmpR (op_neD hr.units) (pe_call GM hr1 rfl mM kM bM .nil pass0 (pa_cons (pv 3) (pa_cons (pv 4) (pa_cons (pv 9) pa_nil)))) (pe_callTy call_tupleT (by rfl) T.tuple (by decide +kernel) (pa_cons (pv 2) pa_nil)) (nomark _)))))
        (pss_one (ps_ret pe_non)) pss_nil)
      (pss_one (ps_ret (pe_call GT hr1 rfl mT kT bT .nil pass0 (pa_cons (pv 9) pa_nil)))))))))))), ?_⟩
    -- own, others
    refine ⟨_, rfl, _, rfl, x, Tt, cs, k, rfl, hF, hl, hk, fun t vo lo H1 s1 ht ro rl => ?_⟩
    refine ⟨t, _, rfl, SqT.of ht, rfl, _, _, rfl, _, _, rfl, rfl, ?_⟩
    -- parts
    refine ⟨_, rfl, _, rfl, x, Tt, cs, vc, c, _, rfl, hF.mono s1, by omega, RC.mono _ _ _ _ s1 hc, oc, oks, hcr, fun lp H2 s2 nlp hlp => ?_⟩
    refine ⟨_, rfl, rfl, _, rfl, ite2 (fun z => absurd (of_decide_eq_true z) (fun y => nomatch y)) (fun _ => ?_)⟩
    obtain ⟨one, two, three, he, so, st, sh, zz, hzz⟩ := erase_ps zi zj zl zm hk
    refine ⟨_, rfl, .inl ⟨rfl, _, SqL.of hlp⟩, _, rfl, _, _, rfl, rfl, lp, _, _, k, _, rfl, rfl, hlp, by omega, by omega, seq_ix hk, hzz, ?_⟩
    have el : ([ci, cj, cl, cm].map V.int).eraseIdx k = [V.int one, V.int two, V.int three] := by
      rw [map_erase, he]
      rfl
    rw [el]
    have s2' : Same H (upd H2 lp (.lst [V.int one, V.int two, V.int three])) := fun b o e => by
      rw [upd_ne (ne_of_none (s1 _ _ e) nlp)]
      exact s2 _ _ (s1 _ _ e)
    have s12 : Same H1 (upd H2 lp (.lst [V.int one, V.int two, V.int three])) := fun b o e => by
      rw [upd_ne (ne_of_none e nlp)]
      exact s2 _ _ e
    generalize hH3 : upd H2 lp (.lst [V.int one, V.int two, V.int three]) = H3 at s2' s12 ⊢
    have hlp3 : H3 lp = some (.lst [V.int one, V.int two, V.int three]) := by rw [← hH3, upd_same]
    refine ⟨_, rfl, lp, _, rfl, SqL.of hlp3, rfl, _, _, rfl, _, _, rfl, _, _, rfl, rfl, ?_⟩
    have ep : pairOf cs k c = K45.tail3 one two three (own cs k) (oth cs k 0) (oth cs k 1) (oth cs k 2) c := by
      unfold pairOf tailP
      rw [hcr]
      simp only [he, erase_oth hl hk, own_get (cs := cs) (k := k) (by omega)]
    rw [ep] at q
    unfold K45.tail3 at q
    refine ⟨_, rfl, _, rfl, _, _, rfl, rfl, _, _, rfl, rfl, _, rfl, ?_⟩
    refine ite2 (fun h5 => iteT (q _ _ s2' (by rw [if_pos (Or.inl (of_decide_eq_true h5))]; rfl))) (fun h5 => ?_)
    refine ⟨_, rfl, _, rfl, _, _, rfl, rfl, _, _, rfl, rfl, _, rfl, ?_⟩
    refine ite2 (fun h6 => q _ _ s2' (by rw [if_pos (Or.inr (of_decide_eq_true h6))]; rfl)) (fun h6 => ?_)
    have n5 : ¬ one + three < 0 := fun z => h5 (decide_eq_true z)
    have n6 : ¬ two + three < 0 := fun z => h6 (decide_eq_true z)
    rw [if_neg (by rintro (z | z); exact n5 z; exact n6 z)] at q
    obtain ⟨so1, so2⟩ := so
    obtain ⟨st1, st2⟩ := st
    obtain ⟨sh1, sh2⟩ := sh
    refine ⟨_, rfl, _, rfl, _, _, rfl, rfl, _, rfl, by omega, by omega, ?_⟩
    refine ⟨_, rfl, _, rfl, _, _, rfl, rfl, _, rfl, by omega, by omega, (by show 2 ≤ sizeLine; decide), fun t1 nt1 => ?_⟩
    have b1 : sq (one + three).toNat ≤ 2000 := Nat.le_trans (sq_le _) (by omega)
    have b2 : sq (two + three).toNat ≤ 2000 := Nat.le_trans (sq_le _) (by omega)
    generalize hp : ((sq (one + three).toNat : Nat) : Int) = p at q nt1 ⊢
    generalize hq0 : ((sq (two + three).toNat : Nat) : Int) = q0 at q nt1 ⊢
    have s4 : Same H3 (upd H3 t1 (.tup [.int p, .int q0])) := same_upd nt1
    -- if three < 0: the two ways meet
    refine ⟨fun σ' H' => ∃ tp, σ' = [some (.ref x), some (.int ((k : Nat) + 1)), some vc, some vo, some (.ref lo), some (.ref lp), some (.int one), some (.int two), some (.int three), some (.ref tp)] ∧ Same H3 H' ∧
      H' tp = some (.tup [.int p, .int (if three < 0 then -q0 else q0)]), ?_, ?_⟩
    · refine ⟨_, rfl, _, _, rfl, rfl, _, rfl, ?_⟩
      refine ite2 (fun h7 => ?_) (fun h7 => ?_)
      · have h7' := of_decide_eq_true h7
        refine ⟨_, rfl, t1, _, _, _, rfl, rfl, SqT.of upd_same, at_of (j := 0) rfl rfl, _, rfl, t1, _, _, _, rfl, rfl, SqT.of upd_same, at_of (j := 1) rfl rfl, _, rfl, (by show 2 ≤ sizeLine; decide), fun t2 nt2 => ?_⟩
        exact ⟨t2, rfl, s4.trans (same_upd nt2), by rw [upd_same, if_pos h7']⟩
      · have h7' : ¬ three < 0 := fun z => h7 (decide_eq_true z)
        exact ⟨t1, rfl, s4, by rw [upd_same, if_neg h7']⟩
    · rintro σ' H4 ⟨tp, rfl, s34, htp⟩
      generalize hq' : (if three < 0 then -q0 else q0) = q' at htp q
      have bp : p.natAbs ≤ 1099511627776 := by omega
      have bq : q'.natAbs ≤ 1099511627776 := by
        rw [← hq']
        split <;> omega
      refine ⟨_, rfl, tp, _, _, _, rfl, rfl, SqT.of htp, at_of (j := 0) rfl rfl, _, rfl, tp, _, _, _, rfl, rfl, SqT.of htp, at_of (j := 1) rfl rfl, p, q', rfl, rfl, _, rfl, ?_⟩
      refine ite2 (fun h8 => iteT (q _ _ (s2'.trans s34) ?_)) (fun h8 => ?_)
      · have h8' : Nat.gcd p.natAbs q'.natAbs ≠ 1 := fun z => by
          rw [z] at h8
          exact absurd h8 (by decide)
        rw [if_pos (Or.inl h8')]
        rfl
      have g1 : Nat.gcd p.natAbs q'.natAbs = 1 := by
        refine Classical.byContradiction fun z => h8 ?_
        rw [dec_int, Bool.not_eq_true']
        exact beq_eq_false_iff_ne.mpr (by omega)
      have ro4 := RC.mono _ _ _ _ (s12.trans s34) ro
      have rl4 := rl.mono RC.mono (s12.trans s34)
      rw [erase_oth hl hk] at rl4
      refine ⟨_, rfl, _, rfl, _, rfl, vo, lo, _, own cs k, _, _, _, (p, q'), rfl, ro4, rl4, ⟨tp, rfl, htp⟩, bp, bq, fun v5 H5 s5 r5 => ?_⟩
      obtain ⟨pc, rfl, hpc⟩ := id hc
      have hc5 := ((s2'.trans s34).trans s5) _ _ hpc
      refine ⟨_, rfl, pc, _, rfl, SqT.of hc5, ?_⟩
      refine ⟨cD _, cD c, cD_dp r5, cD_dp ⟨pc, rfl, hc5⟩, cD_sh _, cD_sh _, _, rfl, ?_⟩
      rw [cD_eqv]
      by_cases h9 : madeC (own cs k) (oth cs k 0) (oth cs k 1) (oth cs k 2) p q' = c
      · rw [decide_eq_true h9]
        refine iteF ⟨_, rfl, _, (p, q'), rfl, ⟨tp, rfl, s5 _ _ htp⟩, fun v6 H6 s6 r6 => q _ _ (((s2'.trans s34).trans s5).trans s6) ?_⟩
        rw [if_neg (by rintro (z | z); exact z g1; exact z h9)]
        exact r6
      · rw [decide_eq_false h9]
        refine iteT (q _ _ ((s2'.trans s34).trans s5) ?_)
        rw [if_pos (Or.inr h9)]
        rfl
end
end K45W

set_option maxRecDepth 100000
set_option maxHeartbeats 4000000
namespace K45W
open PySem PySem.Spec PyProof.Rows L2 K45 K45R
theorem G_tch {cs : List Cir} (h : G cs) {i j : Nat} {c d : Cir} (hi : cs[i]? = some c) (hj : cs[j]? = some d) (hne : i ≠ j) : Tch c d := by
  obtain ⟨p, q, r, s, rfl, g⟩ := h
  have l1 : i < 4 := by
    have := (List.getElem?_eq_some_iff.mp hi).1
    simpa using this
  have l2 : j < 4 := by
    have := (List.getElem?_eq_some_iff.mp hj).1
    simpa using this
  have e1 : i = 0 ∨ i = 1 ∨ i = 2 ∨ i = 3 := by omega
  have e2 : j = 0 ∨ j = 1 ∨ j = 2 ∨ j = 3 := by omega
  rcases e1 with rfl | rfl | rfl | rfl <;> rcases e2 with rfl | rfl | rfl | rfl <;> cases hi <;> cases hj
  all_goals first
    | exact absurd rfl hne
    | exact g.ab
    | exact g.ac
    | exact g.ad
    | exact g.bc
    | exact g.bd
    | exact g.cd
    | exact g.ab.symm
    | exact g.ac.symm
    | exact g.ad.symm
    | exact g.bc.symm
    | exact g.bd.symm
    | exact g.cd.symm
theorem all_true : ∀ n : Nat, ((List.range n).filterMap (fun _ => some true)).all id = true
  | 0 => rfl
  | n + 1 => by
    rw [List.range_succ, List.filterMap_append, List.all_append, all_true n]
    rfl
theorem cut_take {xs : List V} {i : Nat} (h : i < xs.length) : HT.sIx xs.length xs.length (some ((i : Nat) : Int)) = i ∧ cutV xs none (some ((i : Nat) : Int)) = xs.take i := by
  have e : HT.sIx xs.length xs.length (some ((i : Nat) : Int)) = i := by
    rw [HT.sIx_nat]
    omega
  refine ⟨e, ?_⟩
  unfold cutV
  rw [e, HT.sIx_none, List.drop_zero, Nat.sub_zero]
def rTupT (K : PySem.W.Frag) : List V → Hp → VK → Prop := fun xs H Q => ∃ a ys, xs = [V.ref a] ∧ SqT K H a ys ∧ Q (V.ref a) H
section
variable {P : Program} {w : World} {K : PySem.W.Frag} {mg : Str → Option Value} {base : Heap} {C aN : Addr}
abbrev sInit : Stmt := inClass (top 16) 0
theorem scInit : FnScope ["self", "circles", "circle", "at", "other"] ["self", "circles"] (defScope sInit) := ⟨rfl, rfl, rfl, by decide +kernel, rfl, by decide +kernel, by decide +kernel⟩
def spInit (C : Addr) : Sp := fun vs H Q _ => ∃ x a dx cs, vs = [.ref x, .ref a] ∧ H x = some (.ins C dx []) ∧ LOf RC H a cs ∧ G cs ∧ (∀ d ∈ cs, OkC d) ∧
  ∀ Tt H', FourAt C H' x Tt cs → (∀ b o, H b = some o → b ≠ x → H' b = some o) → Q .non H'
theorem ok_init {f : Addr} {fd : FuncData} (T : Txt K mg C aN) (F : Fun K "__init__" "Four.__init__" sInit f fd) (GC : Can P w K mg base 2 "check_circle" ["circle"] spChk) (GT : Can P w K mg base 4 "touch" ["one", "other"] spTch) :
    FnOk P w K mg base CX0 5 f fd ["self", "circles"] (spInit C) := by
  obtain ⟨fC, fdC, GC, mC, kC, bC⟩ := GC
  obtain ⟨fT, fdT, GT, mT, kT, bT⟩ := GT
  refine F.ok scInit (fun vs H Q E h => ?_) (fun cdv A outer s H vs Q E hr h => ?_)
  · obtain ⟨x, a, dx, cs, rfl, _⟩ := h
    rfl
  · obtain ⟨x, a, dx, cs, rfl, hx, ⟨vs, ha, pr⟩, hg, oks, q⟩ := h
    have nd := scInit.nd
    have hvl : vs.length = 4 := by rw [pr_len pr, hg.len]
    refine ⟨_, pss_cons (ps_if (pt_cmpR op_ne (pe_callB call_len_seq (by rfl) T.len PySem.boot_len (pa_cons (pv 1) pa_nil)) (pe_callB call_len_seq (by rfl) T.len PySem.boot_len (pa_cons (pe_glob (v := .ref aN) rfl T.mgN rfl) pa_nil)) (nomark _)) (pss_one ps_never) pss_nil)
      (pss_cons (ps_for PassesOwn.never rfl (pi_list (pv 1)) (pg_name (i := 2) nd rfl (Or.inr rfl)) (pss_one (ps_expr (pe_call GC (hr.mono (by decide)) rfl mC kC bC .nil pass0 (pa_cons (pv 2) pa_nil)))))
      (pss_cons (ps_fld (pv 0) (pe_callTy call_tuple_of (by rfl) T.tuple (by decide +kernel) (pa_cons (pe_lc (own := [("circle", 2)]) (g := gName 2) (tt := tYes) (by rfl) nd (pi_list (pv 1))
          (blkOk_by (own := [("circle", 2)]) (N := ["self", "circles", "circle", "at", "other"]) (sc := defScope sInit) (by decide +kernel))
          (fun _ _ _ _ _ => pg_name (i := 2) nd rfl (Or.inl rfl)) (fun _ _ _ _ _ => pts_nil) (fun _ _ _ _ _ => pe_callTy (T := "tuple") (r := rTupT K) call_tupleT (by rfl) T.tuple (by decide +kernel) (pa_cons (pv 2) pa_nil))) pa_nil)) rfl)
      (pss_one (ps_for PassesOwn.never rfl (pi_enT (by rfl) T.enum (pa_cons (pe_fld (pv 0) rfl) pa_nil)) (pg_tup rfl (pgs_cons (pg_name (i := 3) nd rfl (Or.inl rfl)) (pgs_cons (pg_name (i := 2) nd rfl (Or.inr rfl)) pgs_nil)))
        (pss_one (ps_if (pt_not (pt_val (pe_callB (cr_all rfl) (by rfl) T.all (by decide +kernel) (pa_cons (pe_lc (own := [("other", 4)]) (g := gName 4) (tt := tYes) (by rfl) nd (pi_tup (pe_slice sl_tupA (pe_fld (pv 0) rfl) po_none (po_some (pv 3))))
          (blkOk_by (own := [("other", 4)]) (N := ["self", "circles", "circle", "at", "other"]) (sc := defScope sInit) (by decide +kernel))
          (fun _ _ _ _ _ => pg_name (i := 4) nd rfl (Or.inl rfl)) (fun _ _ _ _ _ => pts_nil) (fun _ _ _ _ _ => pe_call GT hr rfl mT kT bT .nil pass0 (pa_cons (pv 2) (pa_cons (pv 4) pa_nil)))) pa_nil)))) (pss_one ps_never) pss_nil)))))), ?_⟩
    refine ⟨_, rfl, a, _, rfl, .inl (SqL.of ha), aN, _, rfl, .inr (T.num _), rfl, _, rfl, iteNS (by rw [hvl]; rfl) ?_⟩
    -- for circle in circles: check_circle(circle)
    refine ⟨_, rfl, a, rfl, ⟨_, SqL.of ha⟩, for_list (K := K) (a := a) (xs := vs) (fun i σ H' => ∃ v, σ = [some (.ref x), some (.ref a), v, none, none] ∧ H' = H) ⟨none, rfl, rfl⟩ (fun i σ H' _ ⟨_, _, e⟩ => by rw [e]; exact SqL.of ha) ?_ ?_⟩
    · rintro i y σ H' hi ⟨v, rfl, rfl⟩
      obtain ⟨c, hc, r⟩ := pr_get pr hi
      exact ⟨_, rfl, y, c, rfl, r, oks c (List.mem_of_getElem? hc), _, rfl, rfl⟩
    · rintro σ H' ⟨v, rfl, rfl⟩
      -- self.circles = tuple([tuple(circle) for circle in circles])
      refine ⟨_, rfl, a, rfl, ⟨_, SqL.of ha⟩, fun D hD => ?_⟩
      refine lc_new walk_list RC.mono RC.stab (fun i => (cs[i]?).map id) hD (by omega) (fun H1 s1 => SqL.of (s1 _ _ ha)) (fun i y H1 H2 hi s1 hy Yes No yes no => ?_) (fun H1 s1 hL => ?_)
      · obtain ⟨rfl, hy⟩ := hy
        obtain ⟨c, hc, r⟩ := pr_get pr hy
        obtain ⟨p, rfl, hp⟩ := RC.mono _ _ _ _ s1 r
        exact ⟨rfl, _, rfl, p, _, rfl, SqT.of hp, yes _ _ c (by rw [hc]; rfl) (Same.refl _) ⟨p, rfl, hp⟩⟩
      · rw [pr_len pr, fm_all, List.map_id] at hL
        obtain ⟨us, hus, prU⟩ := hL
        refine ⟨D, _, rfl, .inl ⟨SqL.of hus, fun Tt nT => ?_⟩⟩
        have nx : x ≠ Tt := ne_of_none (s1 _ _ hx) nT
        refine ⟨_, rfl, x, C, dx, [], rfl, (by rw [upd_ne nx]; exact s1 _ _ hx), T.cl, T.nCi, (by show 0 < 1000; decide), ?_⟩
        have sx : ∀ b o, H1 b = some o → b ≠ x → upd (upd H1 Tt (.tup us)) x (.ins C dx (putF "circles" (.ref Tt) [])) b = some o := fun b o e hb => by
          rw [upd_ne hb, upd_ne (ne_of_none e nT)]
          exact e
        have hF : FourAt C (upd (upd H1 Tt (.tup us)) x (.ins C dx (putF "circles" (.ref Tt) []))) x Tt cs := by
          refine ⟨dx, us, upd_same, by rw [upd_ne nx.symm, upd_same], Paired.mapP prU fun v' c' r => ?_⟩
          obtain ⟨p, e, hp⟩ := r
          exact ⟨p, e, sx _ _ hp (ne_of hp (s1 _ _ hx) (fun z => nomatch z))⟩
        have hul : us.length = 4 := by rw [pr_len prU, hg.len]
        generalize upd (upd H1 Tt (.tup us)) x (.ins C dx (putF "circles" (.ref Tt) [])) = H2 at sx hF ⊢
        obtain ⟨dx2, us2, f1, f2, f3⟩ := id hF
        have hul2 : us2.length = 4 := by rw [pr_len f3, hg.len]
        -- for at, circle in enumerate(self.circles)
        refine ⟨_, rfl, x, C, dx2, _, _, rfl, f1, T.cl, T.nCi, four_fld _, Tt, us2, rfl, SqT.of f2, ?_⟩
        refine for_it walk_enT (fun i σ H' => ∃ v2 v3, σ = [some (.ref x), some (.ref a), v2, v3, none] ∧ Same H2 H') ⟨_, _, rfl, Same.refl _⟩ (fun i σ H' _ ⟨_, _, _, s'⟩ => SqT.of (s' _ _ f2)) ?_ ?_
        · rintro i y σ H3 H4 hi ⟨v2, v3, rfl, s3⟩ ⟨t, rfl, nt, rfl⟩
          have s4 : Same H2 (upd H3 t (.tup [.int (0 + (i : Nat)), us2.getD i .non])) := s3.trans (same_upd nt)
          refine ⟨t, _, rfl, SqT.of upd_same, rfl, _, _, rfl, _, _, rfl, rfl, ?_⟩
          obtain ⟨c, hc, r⟩ := pr_get f3 (show us2[i]? = some (us2.getD i .non) by simp [hi])
          obtain ⟨ec1, ec2⟩ := cut_take hi
          have e0 : (0 : Int) + ((i : Nat) : Int) = (i : Nat) := by omega
          rw [e0] at s4 ⊢
          refine ⟨_, rfl, x, C, dx2, _, _, rfl, s4 _ _ f1, T.cl, T.nCi, four_fld _, _, rfl, _, rfl, Tt, us2, rfl, SqT.of (s4 _ _ f2), (fun z => absurd z.2 (by rw [ec1]; omega)), fun _ p np => ?_⟩
          rw [ec2]
          have s5 := s4.trans (same_upd (o := HO.tup (us2.take i)) np)
          refine ⟨p, rfl, ⟨_, SqT.of upd_same⟩, fun D2 nD2 => ?_⟩
          refine lc_new walk_tup RB.mono RB.stab (fun _ => some true) nD2 (by rw [List.length_take]; omega) (fun H6 s6 => SqT.of (s6 _ _ upd_same)) (fun j z H6 H7 hj s6 hz Yes No yes no => ?_) (fun H6 s6 hL => ?_)
          · obtain ⟨rfl, hz⟩ := hz
            have hj' : j < i := by
              rw [List.length_take] at hj
              omega
            have hz' : us2[j]? = some z := by
              rw [List.getElem?_take, if_pos hj'] at hz
              exact hz
            obtain ⟨d, hd, r2⟩ := pr_get f3 hz'
            have s7 := s5.trans s6
            exact ⟨rfl, _, rfl, _, rfl, _, z, c, d, rfl, RC.mono _ _ _ _ s7 r, RC.mono _ _ _ _ s7 r2, oks c (List.mem_of_getElem? hc), oks d (List.mem_of_getElem? hd), G_tch hg hc hd (by omega), yes _ _ true rfl (Same.refl _) rfl⟩
          · obtain ⟨bs, hbs, pbs⟩ := hL
            rw [bls_of pbs] at hbs
            refine ⟨D2, _, rfl, SqL.of hbs, true, ?_, iteF ⟨_, _, rfl, s5.trans s6⟩⟩
            rw [all_true]
        · rintro σ H3 ⟨v2, v3, rfl, s3⟩
          exact q Tt H3 (hF.mono s3) fun b o e hb => s3 _ _ (sx _ _ (s1 _ _ e) hb)
end
end K45W

set_option maxRecDepth 100000
set_option maxHeartbeats 4000000
namespace K45W
open PySem PySem.Spec PyProof.Rows L2 K45 K45R
theorem cutV_ints (ns : List Int) (lo hi : Option Int) : ∃ ms : List Int, cutV (ns.map V.int) lo hi = ms.map V.int ∧ ms.length ≤ ns.length ∧ ∀ m ∈ ms, m ∈ ns := by
  refine ⟨(ns.drop (HT.sIx ns.length 0 lo)).take (HT.sIx ns.length ns.length hi - HT.sIx ns.length 0 lo), ?_, ?_, fun m hm => List.mem_of_mem_drop (List.mem_of_mem_take hm)⟩
  · unfold cutV
    rw [List.length_map, List.map_take, List.map_drop]
  · rw [List.length_take, List.length_drop]
    omega
def Draw (n : Int) : Prop := 0 ≤ n ∧ n < 1009
theorem draw_mod (a : Int) : Draw (a % 1009) := ⟨Int.emod_nonneg _ (by decide), Int.emod_lt_of_pos _ (by decide)⟩
theorem int_at {ns : List Int} {i : Nat} {y : V} (h : (ns.map V.int)[i]? = some y) : ∃ z, ns[i]? = some z ∧ y = .int z := by
  rw [List.getElem?_map] at h
  cases e : ns[i]? with
  | none => rw [e] at h; cases h
  | some z => rw [e] at h; exact ⟨z, rfl, (Option.some.inj h).symm⟩
section
variable {P : Program} {w : World} {K : PySem.W.Frag} {mg : Str → Option Value} {base : Heap} {C aN : Addr}
/-! ### _law_row -/
abbrev sRow : Stmt := top 29
theorem scRow : FnScope ["_law_cell", "_law_many", "_law_row_here", "_law_rest", "_law_mixed", "_law_k"] ["_law_cell", "_law_many"] (defScope sRow) := ⟨rfl, rfl, rfl, by decide +kernel, rfl, by decide +kernel, by decide +kernel⟩
def spRow : Sp := fun vs H Q _ => ∃ (c : Int) (m : Nat), vs = [.int c, .int (m : Nat)] ∧ m ≤ 100 ∧ ∀ (l : Addr) (ns : List Int) (H' : Hp), Same H H' → H l = none → H' l = some (.lst (ns.map V.int)) → ns.length = m → (∀ n ∈ ns, Draw n) → Q (.ref l) H'
theorem ok_row (T : Txt K mg C aN) (S : Stands K mg "_law_row" sRow ["_law_cell", "_law_many"]) : Can P w K mg base 1 "_law_row" ["_law_cell", "_law_many"] spRow := by
  obtain ⟨f, fd, F, m, b⟩ := S
  refine ⟨f, fd, F.ok scRow (fun vs H Q E h => ?_) (fun cdv A outer s H vs Q E hr h => ?_), m, F.kp, b⟩
  · obtain ⟨c, m, rfl, _⟩ := h
    rfl
  · obtain ⟨c, m, rfl, hm, q⟩ := h
    have nd := scRow.nd
    refine ⟨_, pss_cons (ps_set (i := 2) nd rfl (Or.inl rfl) (pe_lst pa_nil))
      (pss_cons (ps_set (i := 3) nd rfl (Or.inl rfl) (pe_callB call_abs (by rfl) T.abs (by decide +kernel) (pa_cons (pv 0) pa_nil)))
      (pss_cons (ps_set (i := 4) nd rfl (Or.inl rfl) (pe_op op_mod (pe_callTy call_int1 (by rfl) T.int (by decide +kernel) (pa_cons (pe_op op_add (pe_op op_mul (pv 3) pe_int) pe_int) pa_nil)) pe_int))
      (pss_cons (ps_for PassesOwn.never rfl (pi_range1 rfl T.range (pa_cons (pv 1) pa_nil)) (pg_name (i := 5) nd rfl (Or.inl rfl))
        (pss_cons (ps_set (i := 4) nd rfl (Or.inl rfl) (pe_op op_mod (pe_callTy call_int1 (by rfl) T.int (by decide +kernel) (pa_cons (pe_op op_add (pe_op op_mul (pv 4) pe_int) (pe_op op_mul pe_int (pe_op op_add (pv 5) pe_int))) pa_nil)) pe_int))
        (pss_one (ps_if (pt_cmpR op_ge (pe_callB call_abs (by rfl) T.abs (by decide +kernel) (pa_cons (pv 0) pa_nil)) (pe_op op_pow pe_int pe_int) (nomark _))
          (pss_cons (ps_expr (pe_bm PySem.F.plainAttrs_list PySem.F.slot_list_append PySem.F.type_list_append mt_append (pv 2) (pa_cons (pe_op op_mod (pe_callTy call_int1 (by rfl) T.int (by decide +kernel) (pa_cons (pv 3) pa_nil)) pe_int) pa_nil)))
            (pss_one (ps_set (i := 3) nd rfl (Or.inl rfl) (pe_op op_fdiv (pv 3) pe_int))))
          (pss_one (ps_expr (pe_bm PySem.F.plainAttrs_list PySem.F.slot_list_append PySem.F.type_list_append mt_append (pv 2) (pa_cons (pe_op op_mod (pe_callTy call_int1 (by rfl) T.int (by decide +kernel) (pa_cons (pe_op op_fdiv (pv 4) pe_int) pa_nil)) pe_int) pa_nil))))))))
      (pss_one (ps_ret (pv 2)))))), ?_⟩
    refine ⟨Nat.zero_le _, fun D hD => ?_⟩
    refine ⟨_, rfl, c, rfl, ?_⟩
    refine ⟨_, rfl, _, _, rfl, rfl, .inr ⟨by decide, by decide⟩, _, _, rfl, rfl, .inl ⟨_, rfl, _, _, rfl, rfl, (by show (0 : Int) < 2147483647; decide), ?_⟩⟩
    refine ⟨_, rfl, _, rfl, (by omega), (by omega), for_range (lo := 0) (n := m) (fun i σ H' => ∃ (rest mixed : Int) (kv : Option V) (ns : List Int), σ = [some (.int c), some (.int (m : Nat)), some (.ref D), some (.int rest), some (.int mixed), kv] ∧ Same H H' ∧ H' D = some (.lst (ns.map V.int)) ∧ ns.length = i ∧ ∀ n ∈ ns, Draw n)
      ⟨_, _, _, [], rfl, same_upd hD, upd_same, rfl, fun n hn => absurd hn (by simp)⟩ ?_ ?_⟩
    · rintro i σ H' hi ⟨rest, mixed, kv, ns, rfl, s', hD', hl, hd⟩
      have snoc : ∀ z, Draw z → upd H' D (.lst (ns.map V.int ++ [V.int z])) D = some (.lst ((ns ++ [z]).map V.int)) ∧ (ns ++ [z]).length = i + 1 ∧ ∀ n ∈ ns ++ [z], Draw n := fun z hz => by
        refine ⟨by rw [upd_same, List.map_append]; rfl, by rw [List.length_append, hl]; rfl, fun n hn => ?_⟩
        rcases List.mem_append.mp hn with h | h
        · exact hd n h
        · rw [List.mem_singleton.mp h]
          exact hz
      have ln : (ns.map V.int).length < sizeLine := small_line (by rw [List.length_map]; omega)
      refine ⟨_, rfl, _, _, rfl, rfl, .inr ⟨by decide, by decide⟩, _, rfl, _, _, rfl, rfl, _, _, rfl, rfl, .inl ⟨by decide, by decide⟩, _, _, rfl, rfl, .inl ⟨_, rfl, _, _, rfl, rfl, (by show (0 : Int) < 2147483629; decide), ?_⟩⟩
      refine ⟨_, rfl, c, rfl, _, _, rfl, rfl, ⟨by decide, by decide, by decide⟩, _, _, rfl, rfl, _, rfl, ?_⟩
      refine ite2 (fun _ => ?_) (fun _ => ?_)
      · refine ⟨_, rfl, .inl ⟨rfl, _, SqL.of hD'⟩, _, rfl, .inl ⟨_, rfl, _, _, rfl, rfl, (by show (0 : Int) < 1009; decide), D, _, _, rfl, rfl, hD', ln, ?_⟩⟩
        refine ⟨_, rfl, _, _, rfl, rfl, ⟨by decide, by decide⟩, ?_⟩
        obtain ⟨a1, a2, a3⟩ := snoc _ (draw_mod rest)
        exact ⟨_, _, _, ns ++ [rest % 1009], rfl, same_upd' s' hD, a1, a2, a3⟩
      · refine ⟨_, rfl, .inl ⟨rfl, _, SqL.of hD'⟩, _, rfl, _, _, rfl, rfl, ⟨by decide, by decide⟩, .inl ⟨_, rfl, _, _, rfl, rfl, (by show (0 : Int) < 1009; decide), D, _, _, rfl, rfl, hD', ln, ?_⟩⟩
        obtain ⟨a1, a2, a3⟩ := snoc _ (draw_mod _)
        exact ⟨_, _, _, _, rfl, same_upd' s' hD, a1, a2, a3⟩
    · rintro σ H' ⟨rest, mixed, kv, ns, rfl, s', hD', hl, hd⟩
      exact ⟨_, rfl, q D ns H' s' hD hD' hl hd⟩
/-! ### _law_numbers -/
abbrev sNums : Stmt := top 30
theorem scNums : FnScope ["_law_script", "_law_many", "_law_cells", "_law_each", "_law_numbers_here", "_law_cell", "_law_number"] ["_law_script", "_law_many"] (defScope sNums) := ⟨rfl, rfl, rfl, by decide +kernel, rfl, by decide +kernel, by decide +kernel⟩
def spNums (K : PySem.W.Frag) : Sp := fun vs H Q _ => ∃ (a : Addr) (ns : List Int), vs = [.ref a, .int 20] ∧ SqL K H a (ns.map V.int) ∧ ns.length ≤ 63 ∧ ∀ (l : Addr) (ms : List Int) (H' : Hp), Same H H' → H l = none → H' l = some (.lst (ms.map V.int)) → ms.length = 20 → (∀ n ∈ ms, Draw n) → Q (.ref l) H'
theorem ok_nums (T : Txt K mg C aN) (S : Stands K mg "_law_numbers" sNums ["_law_script", "_law_many"]) (GR : Can P w K mg base 1 "_law_row" ["_law_cell", "_law_many"] spRow) : Can P w K mg base 2 "_law_numbers" ["_law_script", "_law_many"] (spNums K) := by
  obtain ⟨f, fd, F, m, b⟩ := S
  obtain ⟨fR, fdR, GR, mR, kR, bR⟩ := GR
  refine ⟨f, fd, F.ok scNums (fun vs H Q E h => ?_) (fun cdv A outer s H vs Q E hr h => ?_), m, F.kp, b⟩
  · obtain ⟨a, ns, rfl, _⟩ := h
    rfl
  · obtain ⟨a, ns, rfl, hS, hn, q⟩ := h
    have nd := scNums.nd
    refine ⟨_, pss_cons (ps_set (i := 2) nd rfl (Or.inl rfl) (pe_slice sl_list (pv 0) po_none (po_some pe_int)))
      (pss_cons (ps_set (i := 3) nd rfl (Or.inl rfl) (pe_op op_add pe_int (pe_op op_fdiv (pv 1) (pe_callB (call_max2 rfl) (by rfl) T.max (by decide +kernel) (pa_cons pe_int (pa_cons (pe_callB call_len_seq (by rfl) T.len PySem.boot_len (pa_cons (pv 2) pa_nil)) pa_nil))))))
      (pss_cons (ps_set (i := 4) nd rfl (Or.inl rfl) (pe_lst pa_nil))
      (pss_cons (ps_for PassesOwn.never rfl (pi_list (pv 2)) (pg_name (i := 5) nd rfl (Or.inl rfl))
        (pss_one (ps_for PassesOwn.never rfl (pi_list (pe_call GR hr rfl mR kR bR .nil pass0 (pa_cons (pv 5) (pa_cons (pv 3) pa_nil)))) (pg_name (i := 6) nd rfl (Or.inl rfl))
          (pss_one (ps_expr (pe_bm PySem.F.plainAttrs_list PySem.F.slot_list_append PySem.F.type_list_append mt_append (pv 4) (pa_cons (pv 6) pa_nil)))))))
      (pss_cons (ps_while PassesOwn.never (pt_cmpR op_lt (pe_callB call_len_seq (by rfl) T.len PySem.boot_len (pa_cons (pv 4) pa_nil)) (pv 1) (nomark _))
        (pss_one (ps_expr (pe_bm PySem.F.plainAttrs_list PySem.F.slot_list_append PySem.F.type_list_append mt_append (pv 4) (pa_cons pe_int pa_nil)))))
      (pss_one (ps_ret (pe_slice sl_list (pv 4) po_none (po_some (pv 1))))))))), ?_⟩
    obtain ⟨ms, hms, lms, _⟩ := cutV_ints ns none (some 63)
    refine ⟨_, rfl, 63, rfl, a, _, rfl, hS, fun D1 n1 => ?_⟩
    rw [hms]
    have sD1 : Same H (upd H D1 (.lst (ms.map V.int))) := same_upd n1
    have hD1 : upd H D1 (.lst (ms.map V.int)) D1 = some (.lst (ms.map V.int)) := upd_same
    generalize upd H D1 (.lst (ms.map V.int)) = H1 at sD1 hD1 ⊢
    have lmv : (ms.map V.int).length = ms.length := List.length_map ..
    have hj : ∀ z : Int, (z = if (((ms.map V.int).length : Nat) : Int) > 1 then (((ms.map V.int).length : Nat) : Int) else 1) → 0 < z ∧ z ≤ 63 := fun z e => by
      rw [e]
      split <;> omega
    refine ⟨_, rfl, _, rfl, D1, _, rfl, .inl (SqL.of hD1), _, _, rfl, ?_⟩
    generalize hz : (if (((ms.map V.int).length : Nat) : Int) > 1 then (((ms.map V.int).length : Nat) : Int) else 1) = z
    obtain ⟨z1, z2⟩ := hj z hz.symm
    refine ⟨_, _, rfl, rfl, ⟨z1, by omega⟩, _, _, rfl, rfl, ?_⟩
    obtain ⟨each, he, he2⟩ : ∃ each : Nat, (1 : Int) + 20 / z = (each : Nat) ∧ each ≤ 21 := by
      have d1 : 0 ≤ 20 / z := Int.ediv_nonneg (show (0 : Int) ≤ 20 by decide) (by omega)
      have d2 : (20 : Int) / z ≤ 20 := Int.ediv_le_self (a := 20) z (by decide)
      exact ⟨(1 + 20 / z).toNat, by omega, by omega⟩
    rw [show (fun i j : Int => V.int (i + j)) 1 (20 / z) = V.int ((each : Nat) : Int) from congrArg V.int he]
    refine ⟨Nat.zero_le _, fun D2 n2 => ?_⟩
    have sD2 : Same H1 (upd H1 D2 (.lst [])) := same_upd n2
    refine ⟨_, rfl, D1, rfl, ⟨_, SqL.of (sD2 _ _ hD1)⟩, for_list (K := K) (a := D1) (xs := ms.map V.int) (fun i σ H' => ∃ (v5 v6 : Option V) (out : List Int), σ = [some (.ref a), some (.int 20), some (.ref D1), some (.int (each : Nat)), some (.ref D2), v5, v6] ∧ Same H1 H' ∧
      H' D2 = some (.lst (out.map V.int)) ∧ out.length ≤ 21 * i ∧ ∀ n ∈ out, Draw n) ⟨_, _, [], rfl, sD2, upd_same, Nat.zero_le _, fun n hn => absurd hn (by simp)⟩ (fun i σ H' _ ⟨_, _, _, _, s', _⟩ => SqL.of (s' _ _ hD1)) ?_ ?_⟩
    · rintro i y σ H' hi ⟨v5, v6, out, rfl, s', hD', hl, hd⟩
      have hil : i < ms.length := by
        have := (List.getElem?_eq_some_iff.mp hi).1
        omega
      obtain ⟨c, _, rfl⟩ := int_at hi
      refine ⟨_, rfl, _, rfl, c, each, rfl, by omega, fun l rs H2 s2 nl hl2 lr dr => ?_⟩
      have dl : l ≠ D2 := (ne_of_none hD' nl).symm
      refine ⟨l, rfl, ⟨_, SqL.of hl2⟩, for_list (K := K) (a := l) (xs := rs.map V.int) (fun j σ H3 => ∃ (v6 : Option V) (out' : List Int), σ = [some (.ref a), some (.int 20), some (.ref D1), some (.int (each : Nat)), some (.ref D2), some (.int c), v6] ∧ Same H1 H3 ∧
        H3 l = some (.lst (rs.map V.int)) ∧ H3 D2 = some (.lst (out'.map V.int)) ∧ out'.length ≤ 21 * i + j ∧ ∀ n ∈ out', Draw n) ⟨_, out, rfl, s'.trans s2, hl2, s2 _ _ hD', hl, hd⟩ (fun j σ H3 _ ⟨_, _, _, _, e, _⟩ => SqL.of e) ?_ ?_⟩
      · rintro j y σ H3 hj3 ⟨v6, out', rfl, s3, e3, hD3, hl3, hd3⟩
        have hjl : j < rs.length := by
          have := (List.getElem?_eq_some_iff.mp hj3).1
          rw [List.length_map] at this
          exact this
        obtain ⟨z, hz3, rfl⟩ := int_at hj3
        refine ⟨_, rfl, .inl ⟨rfl, _, SqL.of hD3⟩, _, rfl, D2, _, _, rfl, rfl, hD3, small_line (by rw [List.length_map]; omega), ?_⟩
        refine ⟨_, out' ++ [z], rfl, same_upd' s3 n2, by rw [upd_ne dl]; exact e3, by rw [upd_same, List.map_append]; rfl, by rw [List.length_append, List.length_singleton]; omega, fun n hn => ?_⟩
        rcases List.mem_append.mp hn with h | h
        · exact hd3 n h
        · rw [List.mem_singleton.mp h]
          exact dr z (List.mem_of_getElem? hz3)
      · rintro σ H3 ⟨v6, out', rfl, s3, e3, hD3, hl3, hd3⟩
        refine ⟨_, _, out', rfl, s3, hD3, ?_, hd3⟩
        rw [List.length_map, lr] at hl3
        omega
    · rintro σ H' ⟨v5, v6, out, rfl, s', hD', hl, hd⟩
      have hlo : out.length ≤ 1323 := by rw [lmv] at hl; omega
      -- while
      refine while_by (fun σ H3 => ∃ (out' : List Int), σ = [some (.ref a), some (.int 20), some (.ref D1), some (.int (each : Nat)), some (.ref D2), v5, v6] ∧ Same H1 H3 ∧ H3 D2 = some (.lst (out'.map V.int)) ∧ out'.length ≤ 1400 ∧ ∀ n ∈ out', Draw n)
        (fun _ H3 => match H3 D2 with
          | some (.lst xs) => 20 - xs.length
          | _ => 0) ⟨out, rfl, s', hD', by omega, hd⟩ ?_ ?_
      · rintro σ H3 ⟨out', rfl, s3, hD3, hl3, hd3⟩
        refine ⟨_, rfl, D2, _, rfl, .inl (SqL.of hD3), _, rfl, _, _, rfl, rfl, _, rfl, ?_⟩
        have lo' : (out'.map V.int).length = out'.length := List.length_map ..
        refine ite2 (fun h => ?_) (fun h => ?_)
        · have h' := of_decide_eq_true h
          rw [lo'] at h'
          refine ⟨_, rfl, .inl ⟨rfl, _, SqL.of hD3⟩, D2, _, _, rfl, rfl, hD3, small_line (by omega), ?_⟩
          refine ⟨⟨out' ++ [0], rfl, same_upd' s3 n2, by rw [upd_same, List.map_append]; rfl, by rw [List.length_append, List.length_singleton]; omega, fun n hn => ?_⟩, ?_⟩
          · rcases List.mem_append.mp hn with h | h
            · exact hd3 n h
            · rw [List.mem_singleton.mp h]
              exact ⟨by decide, by decide⟩
          · rw [upd_same, hD3]
            show 20 - (out'.map V.int ++ [V.int 0]).length < 20 - (out'.map V.int).length
            rw [List.length_append, lo', List.length_singleton]
            omega
        · have h' : ¬ ((((out'.map V.int).length : Nat) : Int) < 20) := fun z => h (decide_eq_true z)
          rw [lo'] at h'
          refine ⟨_, rfl, _, rfl, 20, rfl, D2, _, rfl, SqL.of hD3, fun l nl => ?_⟩
          refine q l (out'.take 20) _ ((sD1.trans s3).trans (same_upd nl)) ((sD1.trans s3).free nl) ?_ ?_ fun n hn => hd3 n (List.mem_of_mem_take hn)
          · rw [upd_same, List.map_take]
            have e : HT.sIx (out'.map V.int).length (out'.map V.int).length (some (20 : Int)) = 20 := by
              have q := HT.sIx_nat (out'.map V.int).length (out'.map V.int).length 20
              rw [show ((20 : Nat) : Int) = 20 from rfl] at q
              rw [q, lo']
              omega
            unfold cutV
            rw [HT.sIx_none, e, List.drop_zero, Nat.sub_zero]
          · rw [List.length_take]
            omega
      · intro σ H3 Q1 Q2 hq h
        obtain ⟨v, e1, p, ys, e2, h2, u, e3, i, j, e4, e5, k, e6, h7⟩ := h
        exact ⟨v, e1, p, ys, e2, h2, u, e3, i, j, e4, e5, k, e6, hq _ _ h7⟩
end
end K45W

set_option maxRecDepth 100000
set_option maxHeartbeats 4000000
namespace K45W
open PySem PySem.Spec PyProof.Rows L2 K45 K45R
/-- four new tuples in a new list -/
theorem lof4 {H : Hp} {t1 t2 t3 t4 l : Addr} (c1 c2 c3 c4 : Cir) (n1 : H t1 = none) (n2 : upd H t1 (.tup (cV c1)) t2 = none) (n3 : upd (upd H t1 (.tup (cV c1))) t2 (.tup (cV c2)) t3 = none)
    (n4 : upd (upd (upd H t1 (.tup (cV c1))) t2 (.tup (cV c2))) t3 (.tup (cV c3)) t4 = none) (nl : upd (upd (upd (upd H t1 (.tup (cV c1))) t2 (.tup (cV c2))) t3 (.tup (cV c3))) t4 (.tup (cV c4)) l = none) :
    Same H (upd (upd (upd (upd (upd H t1 (.tup (cV c1))) t2 (.tup (cV c2))) t3 (.tup (cV c3))) t4 (.tup (cV c4))) l (.lst [.ref t1, .ref t2, .ref t3, .ref t4])) ∧ H l = none ∧
    LOf RC (upd (upd (upd (upd (upd H t1 (.tup (cV c1))) t2 (.tup (cV c2))) t3 (.tup (cV c3))) t4 (.tup (cV c4))) l (.lst [.ref t1, .ref t2, .ref t3, .ref t4])) l [c1, c2, c3, c4] := by
  have s1 := same_upd (o := HO.tup (cV c1)) n1
  have s2 := same_upd (o := HO.tup (cV c2)) n2
  have s3 := same_upd (o := HO.tup (cV c3)) n3
  have s4 := same_upd (o := HO.tup (cV c4)) n4
  have s5 := same_upd (o := HO.lst [.ref t1, .ref t2, .ref t3, .ref t4]) nl
  have a := ((s1.trans s2).trans s3).trans s4
  exact ⟨a.trans s5, a.free nl, _, upd_same, .cons ⟨t1, rfl, s5 _ _ (s4 _ _ (s3 _ _ (s2 _ _ upd_same)))⟩ (.cons ⟨t2, rfl, s5 _ _ (s4 _ _ (s3 _ _ upd_same))⟩ (.cons ⟨t3, rfl, s5 _ _ (s4 _ _ upd_same)⟩ (.cons ⟨t4, rfl, s5 _ _ upd_same⟩ .nil)))⟩
theorem exch_eq {cs : List Cir} (h : cs.length = 4) {k : Nat} (hk : k < 4) : exch cs k = cs.take k ++ [exc (oth cs k 0) (oth cs k 1) (oth cs k 2) (own cs k)] ++ cs.drop (k + 1) := by
  match cs, h with
  | [a, b, c, d], _ =>
    match k, hk with
    | 0, _ => rfl
    | 1, _ => rfl
    | 2, _ => rfl
    | 3, _ => rfl
def othF (cs : List Cir) (k i : Nat) : Option Cir := if (i : Int) = (k : Int) then none else some (own cs i)
theorem othF_all {cs : List Cir} (h : cs.length = 4) {k : Nat} (hk : k < 4) : (List.range 4).filterMap (othF cs k) = cs.eraseIdx k := by
  match cs, h with
  | [a, b, c, d], _ =>
    match k, hk with
    | 0, _ => rfl
    | 1, _ => rfl
    | 2, _ => rfl
    | 3, _ => rfl
def exAt (a b c v : Cir) (j : Nat) : Int := 2 * (cAt a j + cAt b j + cAt c j) - cAt v j
theorem cV_ix (c : Cir) {j : Nat} (h : j < 4) : (cV c)[j]? = some (.int (cAt c j)) := by
  match j, h with
  | 0, _ => rfl
  | 1, _ => rfl
  | 2, _ => rfl
  | 3, _ => rfl
theorem cut_head {vs : List V} {k : Nat} (h : k ≤ vs.length) : cutV vs none (some ((k : Nat) : Int)) = vs.take k := by
  have e : HT.sIx vs.length vs.length (some ((k : Nat) : Int)) = k := by
    rw [HT.sIx_nat]
    omega
  unfold cutV
  rw [e, HT.sIx_none, List.drop_zero, Nat.sub_zero]
theorem cut_tail {vs : List V} {k : Nat} (h : k ≤ vs.length) : cutV vs (some ((k : Nat) : Int)) none = vs.drop k := by
  have e : HT.sIx vs.length 0 (some ((k : Nat) : Int)) = k := by
    rw [HT.sIx_nat]
    omega
  unfold cutV
  rw [e, HT.sIx_none, List.take_of_length_le (by rw [List.length_drop]; omega)]
section
variable {P : Program} {w : World} {K : PySem.W.Frag} {mg : Str → Option Value} {base : Heap} {C aN : Addr}
/-! ### _law_base -/
abbrev sBase : Stmt := top 31
theorem scBase : FnScope ["_law_kind", "_law_n", "_law_side"] ["_law_kind", "_law_n"] (defScope sBase) := ⟨rfl, rfl, rfl, by decide +kernel, rfl, by decide +kernel, by decide +kernel⟩
def spBase : Sp := fun vs H Q _ => ∃ kind n : Int, vs = [.int kind, .int n] ∧ 1 ≤ n ∧ n ≤ 4 ∧ ∀ (l : Addr) (H' : Hp), Same H H' → H l = none → LOf RC H' l (K45.base kind n) → Q (.ref l) H'
theorem ok_base (T : Txt K mg C aN) (S : Stands K mg "_law_base" sBase ["_law_kind", "_law_n"]) : Can P w K mg base 1 "_law_base" ["_law_kind", "_law_n"] spBase := by
  obtain ⟨f, fd, F, m, b⟩ := S
  refine ⟨f, fd, F.ok scBase (fun vs H Q E h => ?_) (fun cdv A outer s H vs Q E hr h => ?_), m, F.kp, b⟩
  · obtain ⟨kind, n, rfl, _⟩ := h
    rfl
  · obtain ⟨kind, n, rfl, n1, n2, q⟩ := h
    have nd := scBase.nd
    have l4 : 4 ≤ sizeLine := by decide
    have cmn : ∀ j, CMul n j := fun j => .inl ⟨by omega, by omega⟩
    refine ⟨_, pss_cons (ps_if (pt_cmpR op_eq (pv 0) pe_int (nomark _)) (pss_one (ps_ret (pe_lst (pa_cons (pe_tup (pa_cons (pe_un un_neg pe_int) (pa_cons pe_int (pa_cons pe_int (pa_cons pe_int pa_nil))))) (pa_cons (pe_tup (pa_cons pe_int (pa_cons pe_int (pa_cons (pe_un un_neg pe_int) (pa_cons pe_int pa_nil)))))
          (pa_cons (pe_tup (pa_cons pe_int (pa_cons pe_int (pa_cons (pe_un un_neg pe_int) (pa_cons pe_int pa_nil))))) (pa_cons (pe_tup (pa_cons pe_int (pa_cons pe_int (pa_cons (pe_un un_neg pe_int) (pa_cons (pe_un un_neg pe_int) pa_nil))))) pa_nil))))))) pss_nil)
      (pss_cons (ps_if (pt_cmpR op_eq (pv 0) pe_int (nomark _)) (pss_one (ps_ret (pe_lst (pa_cons (pe_tup (pa_cons pe_int (pa_cons pe_int (pa_cons pe_int (pa_cons pe_int pa_nil))))) (pa_cons (pe_tup (pa_cons pe_int (pa_cons pe_int (pa_cons pe_int (pa_cons (pe_un un_neg pe_int) pa_nil)))))
          (pa_cons (pe_tup (pa_cons pe_int (pa_cons (pe_un un_neg pe_int) (pa_cons pe_int (pa_cons pe_int pa_nil))))) (pa_cons (pe_tup (pa_cons pe_int (pa_cons pe_int (pa_cons pe_int (pa_cons pe_int pa_nil))))) pa_nil))))))) pss_nil)
      (pss_cons (ps_if (pt_cmpR op_eq (pv 0) pe_int (nomark _)) (pss_one (ps_ret (pe_lst (pa_cons (pe_tup (pa_cons pe_int (pa_cons pe_int (pa_cons pe_int (pa_cons pe_int pa_nil))))) (pa_cons (pe_tup (pa_cons pe_int (pa_cons pe_int (pa_cons pe_int (pa_cons (pe_un un_neg pe_int) pa_nil)))))
          (pa_cons (pe_tup (pa_cons pe_int (pa_cons pe_int (pa_cons pe_int (pa_cons pe_int pa_nil))))) (pa_cons (pe_tup (pa_cons pe_int (pa_cons pe_int (pa_cons pe_int (pa_cons pe_int pa_nil))))) pa_nil))))))) pss_nil)
      (pss_cons (ps_set (i := 2) nd rfl (Or.inl rfl) (pe_op op_sub (pe_op op_sub pe_int (pe_op op_mul pe_int (pv 1))) pe_int))
      (pss_one (ps_ret (pe_lst (pa_cons (pe_tup (pa_cons (pe_op op_sub pe_int (pv 1)) (pa_cons pe_int (pa_cons pe_int (pa_cons pe_int pa_nil))))) (pa_cons (pe_tup (pa_cons (pe_op op_add (pv 1) pe_int) (pa_cons pe_int (pa_cons (pe_un un_neg pe_int) (pa_cons pe_int pa_nil)))))
          (pa_cons (pe_tup (pa_cons (pe_op op_add (pe_op op_mul (pv 1) (pv 1)) (pv 1)) (pa_cons pe_int (pa_cons (pv 2) (pa_cons pe_int pa_nil))))) (pa_cons (pe_tup (pa_cons (pe_op op_add (pe_op op_add (pe_op op_mul (pv 1) (pv 1)) (pv 1)) pe_int) (pa_cons pe_int (pa_cons (pv 2) (pa_cons pe_int pa_nil))))) pa_nil)))))))))), ?_⟩
    unfold K45.base at q
    refine ⟨_, rfl, rfl, _, rfl, ite2 (fun h0 => ?_) (fun h0 => ?_)⟩
    · rw [dec_int, beq_iff_eq] at h0
      rw [if_pos h0] at q
      refine ⟨_, rfl, l4, fun t1 m1 => ⟨_, rfl, l4, fun t2 m2 => ⟨_, rfl, l4, fun t3 m3 => ⟨_, rfl, _, rfl, l4, fun t4 m4 => ⟨l4, fun l ml => ?_⟩⟩⟩⟩⟩
      obtain ⟨a1, a2, a3⟩ := lof4 ⟨-3, 0, 1, 0⟩ ⟨5, 0, -1, 0⟩ ⟨8, 2, -4, 1⟩ ⟨8, 2, -4, -1⟩ m1 m2 m3 m4 ml
      exact q l _ a1 a2 a3
    rw [dec_int, beq_iff_eq] at h0
    rw [if_neg h0] at q
    refine ⟨_, rfl, rfl, _, rfl, ite2 (fun h1 => ?_) (fun h1 => ?_)⟩
    · rw [dec_int, beq_iff_eq] at h1
      rw [if_pos h1] at q
      refine ⟨l4, fun t1 m1 => ⟨_, rfl, l4, fun t2 m2 => ⟨_, rfl, l4, fun t3 m3 => ⟨l4, fun t4 m4 => ⟨l4, fun l ml => ?_⟩⟩⟩⟩⟩
      obtain ⟨a1, a2, a3⟩ := lof4 ⟨0, 2, 0, 1⟩ ⟨0, 2, 0, -1⟩ ⟨1, -1, 0, 0⟩ ⟨1, 3, 2, 0⟩ m1 m2 m3 m4 ml
      exact q l _ a1 a2 a3
    rw [dec_int, beq_iff_eq] at h1
    rw [if_neg h1] at q
    refine ⟨_, rfl, rfl, _, rfl, ite2 (fun h2 => ?_) (fun h2 => ?_)⟩
    · rw [dec_int, beq_iff_eq] at h2
      rw [if_pos h2] at q
      refine ⟨l4, fun t1 m1 => ⟨_, rfl, l4, fun t2 m2 => ⟨l4, fun t3 m3 => ⟨l4, fun t4 m4 => ⟨l4, fun l ml => ?_⟩⟩⟩⟩⟩
      obtain ⟨a1, a2, a3⟩ := lof4 ⟨0, 1, 0, 1⟩ ⟨0, 1, 0, -1⟩ ⟨2, 0, 1, 0⟩ ⟨2, 4, 3, 0⟩ m1 m2 m3 m4 ml
      exact q l _ a1 a2 a3
    rw [dec_int, beq_iff_eq] at h2
    rw [if_neg h2] at q
    refine ⟨_, rfl, _, _, rfl, rfl, cm2 _, _, _, rfl, rfl, _, _, rfl, rfl, ?_⟩
    refine ⟨_, rfl, _, _, rfl, rfl, l4, fun t1 m1 => ⟨_, rfl, _, _, rfl, rfl, _, rfl, l4, fun t2 m2 => ?_⟩⟩
    refine ⟨_, rfl, _, rfl, _, _, rfl, rfl, cmn _, _, rfl, _, _, rfl, rfl, _, rfl, l4, fun t3 m3 => ?_⟩
    refine ⟨_, rfl, _, rfl, _, _, rfl, rfl, cmn _, _, rfl, _, _, rfl, rfl, _, _, rfl, rfl, _, rfl, l4, fun t4 m4 => ⟨l4, fun l ml => ?_⟩⟩
    obtain ⟨a1, a2, a3⟩ := lof4 ⟨0 - n, 0, 1, 0⟩ ⟨n + 1, 0, -1, 0⟩ ⟨n * n + n, 4, 0 - 2 * n - 1, 0⟩ ⟨n * n + n + 1, 4, 0 - 2 * n - 1, 2⟩ m1 m2 m3 m4 ml
    exact q l _ a1 a2 a3
/-! ### _law_moved -/
abbrev sMov : Stmt := top 32
theorem scMov : FnScope ["_law_circle", "_law_s", "_law_t", "_law_turns", "_law_mirror", "_law_b", "_law_c", "_law_x", "_law_y", "_law_turn"] ["_law_circle", "_law_s", "_law_t", "_law_turns", "_law_mirror"] (defScope sMov) := ⟨rfl, rfl, rfl, by decide +kernel, rfl, by decide +kernel, by decide +kernel⟩
def spMov : Sp := fun vs H Q _ => ∃ (v : V) (c : Cir) (s t : Int) (n : Nat) (m : Bool), vs = [v, .int s, .int t, .int (n : Nat), .bl m] ∧ RC H v c ∧ (-3 ≤ s ∧ s ≤ 3) ∧ (-3 ≤ t ∧ t ≤ 3) ∧ n ≤ 3 ∧
  ∀ (v' : V) (H' : Hp), Same H H' → RC H' v' (movedC s t n m c) → Q v' H'
theorem ok_mov (T : Txt K mg C aN) (S : Stands K mg "_law_moved" sMov ["_law_circle", "_law_s", "_law_t", "_law_turns", "_law_mirror"]) : Can P w K mg base 1 "_law_moved" ["_law_circle", "_law_s", "_law_t", "_law_turns", "_law_mirror"] spMov := by
  obtain ⟨f, fd, F, m, b⟩ := S
  refine ⟨f, fd, F.ok scMov (fun vs H Q E h => ?_) (fun cdv A outer s H vs Q E hr h => ?_), m, F.kp, b⟩
  · obtain ⟨v, c, s, t, n, m, rfl, _⟩ := h
    rfl
  · obtain ⟨v, c, ms, mt, n, m, rfl, ⟨p, rfl, hp⟩, ⟨s1, s2⟩, ⟨t1, t2⟩, hn, q⟩ := h
    have nd := scMov.nd
    have cs1 : ∀ j, CMul j ms := fun j => .inr ⟨by omega, by omega⟩
    have ct1 : ∀ j, CMul j mt := fun j => .inr ⟨by omega, by omega⟩
    have css : ∀ j, CMul j (ms * ms + mt * mt) := fun j => by
      have e1 := small_mul s1 s2 s1 s2
      have e2 := small_mul t1 t2 t1 t2
      exact .inr ⟨by omega, by omega⟩
    refine ⟨_, pss_cons (ps_asg (pv 0) (pg_tup rfl (pgs_cons (pg_name (i := 5) nd rfl (Or.inl rfl)) (pgs_cons (pg_name (i := 6) nd rfl (Or.inl rfl)) (pgs_cons (pg_name (i := 7) nd rfl (Or.inl rfl)) (pgs_cons (pg_name (i := 8) nd rfl (Or.inl rfl)) pgs_nil))))))
      (pss_cons (ps_set (i := 6) nd rfl (Or.inl rfl) (pe_op op_add (pe_op op_add (pv 6) (pe_op op_mul pe_int (pe_op op_add (pe_op op_mul (pv 7) (pv 1)) (pe_op op_mul (pv 8) (pv 2))))) (pe_op op_mul (pv 5) (pe_op op_add (pe_op op_mul (pv 1) (pv 1)) (pe_op op_mul (pv 2) (pv 2))))))
      (pss_cons (ps_set (i := 7) nd rfl (Or.inl rfl) (pe_op op_add (pv 7) (pe_op op_mul (pv 5) (pv 1))))
      (pss_cons (ps_set (i := 8) nd rfl (Or.inl rfl) (pe_op op_add (pv 8) (pe_op op_mul (pv 5) (pv 2))))
      (pss_cons (ps_for PassesOwn.never rfl (pi_range1 rfl T.range (pa_cons (pv 3) pa_nil)) (pg_name (i := 9) nd rfl (Or.inl rfl))
        (pss_one (ps_par (i := 7) (j := 8) (by rfl) nd rfl rfl (by decide) rfl rfl (pa_cons (pe_op op_sub pe_int (pv 8)) (pa_cons (pv 7) pa_nil)) (by rfl))))
      (pss_cons (ps_if (pt_val (pv 4)) (pss_one (ps_set (i := 7) nd rfl (Or.inl rfl) (pe_op op_sub pe_int (pv 7)))) pss_nil)
      (pss_one (ps_ret (pe_tup (pa_cons (pv 5) (pa_cons (pv 6) (pa_cons (pv 7) (pa_cons (pv 8) pa_nil)))))))))))), ?_⟩
    refine ⟨_, rfl, p, _, rfl, SqT.of hp, rfl, _, _, rfl, _, _, rfl, _, _, rfl, _, _, rfl, rfl, ?_⟩
    refine ⟨_, rfl, _, rfl, _, rfl, _, _, rfl, rfl, cs1 _, _, rfl, _, rfl, _, _, rfl, rfl, ct1 _, _, _, rfl, rfl, _, _, rfl, rfl, cm2 _, _, _, rfl, rfl, ?_⟩
    refine ⟨_, rfl, _, rfl, _, rfl, _, _, rfl, rfl, cs1 _, _, rfl, _, rfl, _, _, rfl, rfl, ct1 _, _, _, rfl, rfl, _, _, rfl, rfl, css _, _, _, rfl, rfl, ?_⟩
    refine ⟨_, rfl, _, rfl, _, rfl, _, _, rfl, rfl, cs1 _, _, _, rfl, rfl, ?_⟩
    refine ⟨_, rfl, _, rfl, _, rfl, _, _, rfl, rfl, ct1 _, _, _, rfl, rfl, ?_⟩
    refine ⟨_, rfl, _, rfl, by omega, by omega, for_range (lo := 0) (n := n) (fun i σ H' => ∃ (u : Cir) (v9 : Option V), u = K45.turnN (shifted c ms mt) i ∧ σ = [some (.ref p), some (.int ms), some (.int mt), some (.int (n : Nat)), some (.bl m), some (.int u.b), some (.int u.c), some (.int u.x), some (.int u.y), v9] ∧ H' = H)
      ⟨_, _, rfl, rfl, rfl⟩ ?_ ?_⟩
    · rintro i σ H' hi ⟨u, v9, eu, rfl, rfl⟩
      refine ⟨_, rfl, _, _, rfl, rfl, _, rfl, _, _, rfl, ?_⟩
      refine ⟨K45.turn1 u, _, ?_, rfl, rfl⟩
      rw [eu]
      rfl
    · rintro σ H' ⟨u, v9, eu, rfl, rfl⟩
      have l4 : 4 ≤ sizeLine := by decide
      cases m with
      | false =>
        refine ⟨_, rfl, false, rfl, iteF ⟨_, rfl, _, rfl, _, rfl, _, rfl, l4, fun tt nt => q _ _ (same_upd nt) ⟨tt, rfl, ?_⟩⟩⟩
        rw [upd_same, eu]
        rfl
      | true =>
        refine ⟨_, rfl, true, rfl, iteT ⟨_, rfl, _, _, rfl, rfl, _, rfl, _, rfl, _, rfl, _, rfl, l4, fun tt nt => q _ _ (same_upd nt) ⟨tt, rfl, ?_⟩⟩⟩
        rw [upd_same, eu]
        rfl
/-! ### _law_double -/
abbrev sLD : Stmt := top 35
theorem scLD : FnScope ["_law_one", "_law_other"] ["_law_one", "_law_other"] (defScope sLD) := ⟨rfl, rfl, rfl, by decide +kernel, rfl, by decide +kernel, by decide +kernel⟩
theorem ok_LD (T : Txt K mg C aN) (S : Stands K mg "_law_double" sLD ["_law_one", "_law_other"]) : Can P w K mg base 1 "_law_double" ["_law_one", "_law_other"] spDbl := by
  obtain ⟨f, fd, F, m, b⟩ := S
  refine ⟨f, fd, F.ok scLD (fun vs H Q E h => ?_) (fun cdv A outer s H vs Q E hr h => ?_), m, F.kp, b⟩
  · obtain ⟨v, u, c, d, rfl, _⟩ := h
    rfl
  · obtain ⟨v, u, c, d, rfl, ⟨p, rfl, hp⟩, ⟨r, rfl, hq⟩, oc, od, k⟩ := h
    refine ⟨_, pss_one (ps_ret (pe_op op_sub (pe_op op_mul pe_int (pe_op op_add (pe_op op_mul (pe_ix ix_tup (pv 0) pe_int (fun _ _ => rfl)) (pe_ix ix_tup (pv 1) pe_int (fun _ _ => rfl))) (pe_op op_mul (pe_ix ix_tup (pv 0) pe_int (fun _ _ => rfl)) (pe_ix ix_tup (pv 1) pe_int (fun _ _ => rfl)))))
      (pe_op op_add (pe_op op_mul (pe_ix ix_tup (pv 0) pe_int (fun _ _ => rfl)) (pe_ix ix_tup (pv 1) pe_int (fun _ _ => rfl))) (pe_op op_mul (pe_ix ix_tup (pv 0) pe_int (fun _ _ => rfl)) (pe_ix ix_tup (pv 1) pe_int (fun _ _ => rfl)))))), ?_⟩
    refine ⟨_, rfl, p, _, _, _, rfl, rfl, SqT.of hp, at_of (j := 2) rfl rfl, _, rfl, r, _, _, _, rfl, rfl, SqT.of hq, at_of (j := 2) rfl rfl, _, _, rfl, rfl, oc.mx _, ?_⟩
    refine ⟨_, rfl, p, _, _, _, rfl, rfl, SqT.of hp, at_of (j := 3) rfl rfl, _, rfl, r, _, _, _, rfl, rfl, SqT.of hq, at_of (j := 3) rfl rfl, _, _, rfl, rfl, oc.my _, _, _, rfl, rfl, _, _, rfl, rfl, cm2 _, ?_⟩
    refine ⟨_, rfl, p, _, _, _, rfl, rfl, SqT.of hp, at_of (j := 0) rfl rfl, _, rfl, r, _, _, _, rfl, rfl, SqT.of hq, at_of (j := 1) rfl rfl, _, _, rfl, rfl, oc.mb _, ?_⟩
    refine ⟨_, rfl, p, _, _, _, rfl, rfl, SqT.of hp, at_of (j := 1) rfl rfl, _, rfl, r, _, _, _, rfl, rfl, SqT.of hq, at_of (j := 0) rfl rfl, _, _, rfl, rfl, oc.mc _, _, _, rfl, rfl, _, _, rfl, rfl, ?_⟩
    have e : 2 * (c.x * d.x + c.y * d.y) - (c.b * d.c + c.c * d.b) = dbl c d := by
      unfold dbl
      rw [Int.mul_comm d.b c.c]
    show Q (.int (2 * (c.x * d.x + c.y * d.y) - (c.b * d.c + c.c * d.b))) H
    rw [e]
    exact k
end
end K45W

set_option maxRecDepth 100000
set_option maxHeartbeats 4000000
namespace K45W
open PySem PySem.Spec PyProof.Rows L2 K45 K45R
theorem lof_get {R : RT} {H : Hp} {vs : List V} {cs : List Cir} (pr : Paired (R H) vs cs) {i : Nat} (h : i < cs.length) : ∃ v, vs[i]? = some v ∧ R H v (own cs i) := by
  obtain ⟨v, hv, r⟩ := pr_get' pr (own_get (cs := cs) (k := i) h)
  exact ⟨v, hv, r⟩
theorem pr_eq {α β : Type} {F : α → β → Prop} {xs ys : List α} {zs : List β} (h : xs = ys) (p : Paired F ys zs) : Paired F xs zs := by
  rw [h]
  exact p
section
variable {P : Program} {w : World} {K : PySem.W.Frag} {mg : Str → Option Value} {base : Heap} {C aN : Addr}
/-! ### _law_exchanged -/
abbrev sEx : Stmt := top 33
theorem scEx : FnScope ["_law_circles", "_law_place", "_law_others", "_law_new", "_law_k", "_law_j"] ["_law_circles", "_law_place"] (defScope sEx) := ⟨rfl, rfl, rfl, by decide +kernel, rfl, by decide +kernel, by decide +kernel⟩
def spEx : Sp := fun vs H Q _ => ∃ (a : Addr) (cs : List Cir) (k : Nat), vs = [.ref a, .int (k : Nat)] ∧ LOf RC H a cs ∧ cs.length = 4 ∧ k < 4 ∧ ∀ (l : Addr) (H' : Hp), Same H H' → H l = none → LOf RC H' l (exch cs k) → Q (.ref l) H'
theorem ok_ex (T : Txt K mg C aN) (S : Stands K mg "_law_exchanged" sEx ["_law_circles", "_law_place"]) : Can P w K mg base 1 "_law_exchanged" ["_law_circles", "_law_place"] spEx := by
  obtain ⟨f, fd, F, m, b⟩ := S
  refine ⟨f, fd, F.ok scEx (fun vs H Q E h => ?_) (fun cdv A outer s H vs Q E hr h => ?_), m, F.kp, b⟩
  · obtain ⟨a, cs, k, rfl, _⟩ := h
    rfl
  · obtain ⟨a, cs, k, rfl, ⟨vs, ha, pr⟩, hl, hk, q⟩ := h
    have nd := scEx.nd
    refine ⟨_, pss_cons (ps_set (i := 2) nd rfl (Or.inr rfl) (pe_lc (own := [("_law_k", 4)]) (g := gName 4) (by rfl) nd (pi_range1 rfl T.range (pa_cons pe_int pa_nil))
        (blkOk_by (own := [("_law_k", 4)]) (N := ["_law_circles", "_law_place", "_law_others", "_law_new", "_law_k", "_law_j"]) (sc := defScope sEx) (by decide +kernel))
        (fun _ _ _ _ _ => pg_name (i := 4) nd rfl (Or.inl rfl)) (fun _ _ _ _ _ => pts_one (pt_cmpR op_ne (pv 4) (pv 1) (nomark _))) (fun _ _ _ _ _ => pe_ix (r := rIxL K) ix_list (pv 0) (pv 4) (fun _ _ => rfl))))
      (pss_cons (ps_set (i := 3) nd rfl (Or.inl rfl) (pe_callTy call_tuple_of (by rfl) T.tuple (by decide +kernel) (pa_cons (pe_lc (own := [("_law_j", 5)]) (g := gName 5) (tt := tYes) (by rfl) nd (pi_range1 rfl T.range (pa_cons pe_int pa_nil))
        (blkOk_by (own := [("_law_j", 5)]) (N := ["_law_circles", "_law_place", "_law_others", "_law_new", "_law_k", "_law_j"]) (sc := defScope sEx) (by decide +kernel))
        (fun _ _ _ _ _ => pg_name (i := 5) nd rfl (Or.inl rfl)) (fun _ _ _ _ _ => pts_nil)
        (fun _ _ _ _ _ => pe_op op_sub (pe_op op_mul pe_int (pe_op op_add (pe_op op_add (pe_ix (r := rIxT K) ix_tup (pe_ix (r := rIxL K) ix_list (pv 2) pe_int (fun _ _ => rfl)) (pv 5) (fun _ _ => rfl)) (pe_ix (r := rIxT K) ix_tup (pe_ix (r := rIxL K) ix_list (pv 2) pe_int (fun _ _ => rfl)) (pv 5) (fun _ _ => rfl)))
          (pe_ix (r := rIxT K) ix_tup (pe_ix (r := rIxL K) ix_list (pv 2) pe_int (fun _ _ => rfl)) (pv 5) (fun _ _ => rfl)))) (pe_ix (r := rIxT K) ix_tup (pe_ix (r := rIxL K) ix_list (pv 0) (pv 1) (fun _ _ => rfl)) (pv 5) (fun _ _ => rfl)))) pa_nil)))
      (pss_one (ps_ret (pe_op op_cat (pe_op op_cat (pe_slice sl_list (pv 0) po_none (po_some (pv 1))) (pe_lst (pa_cons (pv 3) pa_nil))) (pe_slice sl_list (pv 0) (po_some (pe_op op_add (pv 1) pe_int)) po_none))))), ?_⟩
    have hvl : vs.length = 4 := by rw [pr_len pr, hl]
    -- the others
    refine ⟨4, rfl, by decide, by decide, fun D hD => ?_⟩
    refine lc_new (walk_range (lo := 0) (n := 4)) RC.mono RC.stab (othF cs k) hD (by decide) (fun _ _ => trivial) (fun i y H1 H2 hi s1 hy Yes No yes no => ?_) (fun H1 s1 hL => ?_)
    · obtain ⟨rfl, rfl⟩ := hy
      refine ⟨rfl, _, rfl, _, rfl, rfl, _, rfl, ?_⟩
      have e : (!decide (V.int (0 + ((i : Nat) : Int)) = V.int ((k : Nat) : Int))) = !decide (((i : Nat) : Int) = (k : Nat)) := by rw [dec_int, beq_dec, Int.zero_add]
      rw [e]
      by_cases hc : ((i : Nat) : Int) = (k : Nat)
      · rw [decide_eq_true hc]
        refine iteF (no _ ?_ (Same.refl _))
        unfold othF
        rw [if_pos hc]
      · rw [decide_eq_false hc]
        obtain ⟨v, hv, r⟩ := lof_get (R := RC) pr (i := i) (by omega)
        refine iteT ⟨_, rfl, _, rfl, a, _, _, v, rfl, rfl, SqL.of (s1 _ _ ha), at_of (j := i) (by omega) hv, yes _ _ (own cs i) ?_ (Same.refl _) (RC.mono _ _ _ _ s1 r)⟩
        unfold othF
        rw [if_neg hc]
    · rw [othF_all hl hk] at hL
      obtain ⟨us, hus, prU⟩ := hL
      obtain ⟨v1, v2, v3, c1, c2, c3, rfl, ec, ⟨p1, rfl, h1⟩, ⟨p2, rfl, h2⟩, ⟨p3, rfl, h3⟩⟩ := three_of (R := RC) prU (by rw [erase_oth hl hk]; rfl)
      rw [erase_oth hl hk] at ec
      simp only [List.cons.injEq, and_true] at ec
      obtain ⟨e1, e2, e3⟩ := ec
      obtain ⟨v4, hv4, p4, rfl, h4⟩ := lof_get (R := RC) pr (i := k) (by omega)
      have h4' := s1 _ _ h4
      have ha1 := s1 _ _ ha
      -- the new one
      refine ⟨4, rfl, by decide, by decide, fun D2 hD2 => ?_⟩
      refine lc_new (walk_range (lo := 0) (n := 4)) RI.mono RI.stab (fun j => some (exAt c1 c2 c3 (own cs k) j)) hD2 (by decide) (fun _ _ => trivial) (fun j y H2 H3 hj s2 hy Yes No yes no => ?_) (fun H2 s2 hL2 => ?_)
      · obtain ⟨rfl, rfl⟩ := hy
        have ej : (0 : Int) + ((j : Nat) : Int) = (j : Nat) := by omega
        have hus' := s2 _ _ hus
        refine ⟨rfl, ?_⟩
        refine ⟨_, rfl, D, _, _, _, rfl, rfl, SqL.of hus', at_of (j := 0) rfl rfl, _, rfl, p1, _, _, _, rfl, rfl, SqT.of (s2 _ _ h1), at_of (j := j) ej (cV_ix c1 hj), ?_⟩
        refine ⟨_, rfl, D, _, _, _, rfl, rfl, SqL.of hus', at_of (j := 1) rfl rfl, _, rfl, p2, _, _, _, rfl, rfl, SqT.of (s2 _ _ h2), at_of (j := j) ej (cV_ix c2 hj), _, _, rfl, rfl, ?_⟩
        refine ⟨_, rfl, D, _, _, _, rfl, rfl, SqL.of hus', at_of (j := 2) rfl rfl, _, rfl, p3, _, _, _, rfl, rfl, SqT.of (s2 _ _ h3), at_of (j := j) ej (cV_ix c3 hj), _, _, rfl, rfl, _, _, rfl, rfl, cm2 _, ?_⟩
        exact ⟨_, rfl, _, rfl, a, _, _, _, rfl, rfl, SqL.of (s2 _ _ ha1), at_of (j := k) rfl hv4, _, rfl, p4, _, _, _, rfl, rfl, SqT.of (s2 _ _ h4'), at_of (j := j) ej (cV_ix (own cs k) hj), _, _, rfl, rfl, yes _ _ _ rfl (Same.refl _) rfl⟩
      · obtain ⟨is, his, prI⟩ := hL2
        rw [ints_of prI] at his
        have s12 := s1.trans s2
        refine ⟨D2, _, rfl, .inl ⟨SqL.of his, fun t nt => ?_⟩⟩
        have et : (((List.range 4).filterMap fun j => some (exAt c1 c2 c3 (own cs k) j)).map V.int) = cV (exc c1 c2 c3 (own cs k)) := rfl
        rw [et]
        have s3 := s12.trans (same_upd (o := HO.tup (cV (exc c1 c2 c3 (own cs k)))) nt)
        have ht : upd H2 t (.tup (cV (exc c1 c2 c3 (own cs k)))) t = some (.tup (cV (exc c1 c2 c3 (own cs k)))) := upd_same
        generalize upd H2 t (.tup (cV (exc c1 c2 c3 (own cs k)))) = H3 at s3 ht ⊢
        -- the new list
        refine ⟨_, rfl, _, rfl, (k : Nat), rfl, a, _, rfl, SqL.of (s3 _ _ ha), fun S1 nS1 => ?_⟩
        have z1 := same_upd (o := HO.lst (cutV vs none (some ((k : Nat) : Int)))) nS1
        refine ⟨_, rfl, (by show 1 ≤ sizeLine; decide), fun S2 nS2 => ?_⟩
        have z2 := same_upd (o := HO.lst [V.ref t]) nS2
        have lvs1 : (cutV vs none (some ((k : Nat) : Int))).length = k := by rw [cut_head (by omega), List.length_take]; omega
        refine ⟨S1, S2, _, _, rfl, rfl, z2 _ _ upd_same, upd_same, small_line' (by rw [lvs1]; simp only [List.length_cons, List.length_nil]; omega), fun S3 nS3 => ?_⟩
        have z3 := same_upd (o := HO.lst (cutV vs none (some ((k : Nat) : Int)) ++ [V.ref t])) nS3
        have s6 := ((s3.trans z1).trans z2).trans z3
        refine ⟨_, rfl, _, rfl, _, _, rfl, rfl, _, rfl, a, _, rfl, SqL.of (s6 _ _ ha), fun S4 nS4 => ?_⟩
        have ek : ((k : Nat) : Int) + 1 = ((k + 1 : Nat) : Int) := by omega
        have z4 := same_upd (o := HO.lst (cutV vs (some (((k : Nat) : Int) + 1)) none)) nS4
        have lvs2 : (cutV vs (some (((k : Nat) : Int) + 1)) none).length ≤ 4 := by rw [← hvl]; exact cutV_length _ _ _
        refine ⟨S3, S4, _, _, rfl, rfl, z4 _ _ upd_same, upd_same, small_line' (by rw [List.length_append, lvs1]; simp only [List.length_cons, List.length_nil]; omega), fun l nl => ?_⟩
        have z5 := same_upd (o := HO.lst (cutV vs none (some ((k : Nat) : Int)) ++ [V.ref t] ++ cutV vs (some (((k : Nat) : Int) + 1)) none)) nl
        refine q l _ ((s6.trans z4).trans z5) ((s6.trans z4).free nl) ⟨_, upd_same, ?_⟩
        have ec1 : cutV vs none (some ((k : Nat) : Int)) = vs.take k := cut_head (by omega)
        have ec2 : cutV vs (some (((k : Nat) : Int) + 1)) none = vs.drop (k + 1) := by rw [ek, cut_tail (by omega)]
        rw [exch_eq hl hk, e1, e2, e3]
        have all : ∀ v c, RC H v c → RC _ v c := fun v c r => RC.mono _ _ _ _ ((s6.trans z4).trans z5) r
        have prA := Paired.mapP pr all
        exact pr_append (pr_append (pr_eq ec1 (pr_take k prA)) (.cons ⟨t, rfl, z5 _ _ (z4 _ _ (z3 _ _ (z2 _ _ (z1 _ _ ht))))⟩ .nil)) (pr_eq ec2 (pr_drop (k + 1) prA))
end
end K45W

set_option maxRecDepth 100000
set_option maxHeartbeats 4000000
namespace K45W
open PySem PySem.Spec PyProof.Rows L2 K45 K45R
def nAt (ns : List Int) (j : Nat) : Int := ns.getD j 0
theorem n_ix {ns : List Int} (h : ns.length = 20) {j : Nat} (hj : j < 20) : (ns.map V.int)[j]? = some (.int (nAt ns j)) := by
  rw [List.getElem?_map]
  unfold nAt
  simp [List.getD_eq_getElem?_getD, List.getElem?_eq_getElem (show j < ns.length by omega)]
theorem mod_nat (x : Int) {m : Int} (hm : 0 < m) : ∃ k : Nat, x % m = (k : Nat) ∧ ((k : Nat) : Int) < m := by
  have h1 := Int.emod_nonneg x (show m ≠ 0 by omega)
  have h2 := Int.emod_lt_of_pos x hm
  exact ⟨(x % m).toNat, by omega, by omega⟩
theorem swap_two {cs : List Cir} (h : cs.length = 4) : swapC cs = [own cs 1, own cs 0] ++ cs.drop 2 := by
  match cs, h with
  | [a, b, c, d], _ => rfl
theorem swap_mem {cs : List Cir} {c : Cir} (h : c ∈ swapC cs) : c ∈ cs := by
  match cs with
  | [] => exact h
  | [a] => exact h
  | a :: b :: r =>
    simp only [swapC, List.mem_cons] at h ⊢
    rcases h with h | h | h
    · exact .inr (.inl h)
    · exact .inl h
    · exact .inr (.inr h)
def rInt1 : List V → Hp → VK → Prop := fun xs H Q => (∃ i, xs = [.int i] ∧ Q (.int i) H) ∨ ∃ k, xs = [.bl k] ∧ Q (.int (if k then 1 else 0)) H
section
variable {P : Program} {w : World} {K : PySem.W.Frag} {mg : Str → Option Value} {base : Heap} {C aN : Addr}
abbrev sFour : Stmt := top 34
theorem scFour : FnScope ["_law_numbers_here", "_law_at", "_law_kind", "_law_circles", "_law_s", "_law_t", "_law_turn", "_law_k", "_law_circle"] ["_law_numbers_here", "_law_at"] (defScope sFour) := ⟨rfl, rfl, rfl, by decide +kernel, rfl, by decide +kernel, by decide +kernel⟩
def spFour : Sp := fun vs H Q _ => ∃ (a : Addr) (ns : List Int), vs = [.ref a, .int 0] ∧ H a = some (.lst (ns.map V.int)) ∧ ns.length = 20 ∧ ∀ (l : Addr) (cs : List Cir) (H' : Hp), Same H H' → H l = none → LOf RC H' l cs → G cs → BdL 16807000 cs → Q (.ref l) H'
theorem ok_four (T : Txt K mg C aN) (S : Stands K mg "_law_four" sFour ["_law_numbers_here", "_law_at"]) (GB : Can P w K mg base 1 "_law_base" ["_law_kind", "_law_n"] spBase)
    (GM : Can P w K mg base 1 "_law_moved" ["_law_circle", "_law_s", "_law_t", "_law_turns", "_law_mirror"] spMov) (GE : Can P w K mg base 1 "_law_exchanged" ["_law_circles", "_law_place"] spEx) : Can P w K mg base 2 "_law_four" ["_law_numbers_here", "_law_at"] spFour := by
  obtain ⟨f, fd, F, m, b⟩ := S
  obtain ⟨fB, fdB, GB, mB, kB, bB⟩ := GB
  obtain ⟨fM, fdM, GM, mM, kM, bM⟩ := GM
  obtain ⟨fE, fdE, GE, mE, kE, bE⟩ := GE
  refine ⟨f, fd, F.ok scFour (fun vs H Q E h => ?_) (fun cdv A outer s H vs Q E hr h => ?_), m, F.kp, b⟩
  · obtain ⟨a, ns, rfl, _⟩ := h
    rfl
  · obtain ⟨a, ns, rfl, ha, hn, q⟩ := h
    have nd := scFour.nd
    refine ⟨_, pss_cons (ps_set (i := 2) nd rfl (Or.inl rfl) (pe_op op_mod (pe_callTy call_int1 (by rfl) T.int (by decide +kernel) (pa_cons (pe_ix ix_list (pv 0) (pv 1) (fun _ _ => rfl)) pa_nil)) pe_int))
      (pss_cons (ps_set (i := 3) nd rfl (Or.inl rfl) (pe_call GB hr rfl mB kB bB .nil pass0 (pa_cons (pv 2) (pa_cons (pe_op op_add pe_int (pe_op op_mod (pe_callTy call_int1 (by rfl) T.int (by decide +kernel) (pa_cons (pe_ix ix_list (pv 0) (pe_op op_add (pv 1) pe_int) (fun _ _ => rfl)) pa_nil)) pe_int)) pa_nil))))
      (pss_cons (ps_set (i := 4) nd rfl (Or.inr rfl) (pe_op op_sub (pe_op op_mod (pe_callTy call_int1 (by rfl) T.int (by decide +kernel) (pa_cons (pe_ix ix_list (pv 0) (pe_op op_add (pv 1) pe_int) (fun _ _ => rfl)) pa_nil)) pe_int) pe_int))
      (pss_cons (ps_set (i := 5) nd rfl (Or.inr rfl) (pe_op op_sub (pe_op op_mod (pe_callTy call_int1 (by rfl) T.int (by decide +kernel) (pa_cons (pe_ix ix_list (pv 0) (pe_op op_add (pv 1) pe_int) (fun _ _ => rfl)) pa_nil)) pe_int) pe_int))
      (pss_cons (ps_setLc (i := 3) (own := [("_law_circle", 8)]) (g := gName 8) (tt := tYes) (by rfl) nd rfl rfl (sw_true rfl rfl rfl (by decide +kernel)) (pi_list (pv 3))
        (blkOk_by (own := [("_law_circle", 8)]) (N := ["_law_numbers_here", "_law_at", "_law_kind", "_law_circles", "_law_s", "_law_t", "_law_turn", "_law_k", "_law_circle"]) (sc := defScope sFour) (by decide +kernel))
        (fun _ _ _ _ _ => pg_name (i := 8) nd rfl (Or.inl rfl)) (fun _ _ _ _ _ => pts_nil)
        (fun _ _ _ _ _ => pe_call GM hr rfl mM kM bM .nil pass0 (pa_cons (pv 8) (pa_cons (pv 4) (pa_cons (pv 5)
          (pa_cons (pe_op op_mod (pe_callTy (T := "int") (r := rInt1) call_int1 (by rfl) T.int (by decide +kernel) (pa_cons (pe_ix (r := rIxL K) ix_list (pv 0) (pe_op op_add (pv 1) pe_int) (fun _ _ => rfl)) pa_nil)) pe_int)
          (pa_cons (pe_cmpR op_eq (pe_op op_mod (pe_callTy (T := "int") (r := rInt1) call_int1 (by rfl) T.int (by decide +kernel) (pa_cons (pe_ix (r := rIxL K) ix_list (pv 0) (pe_op op_add (pv 1) pe_int) (fun _ _ => rfl)) pa_nil)) pe_int) pe_int (nomark _)) pa_nil)))))))
      (pss_cons (ps_set (i := 6) nd rfl (Or.inl rfl) (pe_op op_mod (pe_callTy call_int1 (by rfl) T.int (by decide +kernel) (pa_cons (pe_ix ix_list (pv 0) (pe_op op_add (pv 1) pe_int) (fun _ _ => rfl)) pa_nil)) pe_int))
      (pss_cons (ps_set (i := 3) nd rfl (Or.inl rfl) (pe_op op_cat (pe_slice sl_list (pv 3) (po_some (pv 6)) po_none) (pe_slice sl_list (pv 3) po_none (po_some (pv 6)))))
      (pss_mid (ps_if (pt_cmpR op_eq (pe_op op_mod (pe_callTy call_int1 (by rfl) T.int (by decide +kernel) (pa_cons (pe_ix ix_list (pv 0) (pe_op op_add (pv 1) pe_int) (fun _ _ => rfl)) pa_nil)) pe_int) pe_int (nomark _))
        (pss_one (ps_set (i := 3) nd rfl (Or.inl rfl) (pe_op op_cat (pe_lst (pa_cons (pe_ix ix_list (pv 3) pe_int (fun _ _ => rfl)) (pa_cons (pe_ix ix_list (pv 3) pe_int (fun _ _ => rfl)) pa_nil))) (pe_slice sl_list (pv 3) (po_some pe_int) po_none)))) pss_nil)
      (pss_cons (ps_for PassesOwn.never rfl (pi_range1 rfl T.range (pa_cons (pe_op op_mod (pe_callTy call_int1 (by rfl) T.int (by decide +kernel) (pa_cons (pe_ix ix_list (pv 0) (pe_op op_add (pv 1) pe_int) (fun _ _ => rfl)) pa_nil)) pe_int) pa_nil)) (pg_name (i := 7) nd rfl (Or.inl rfl))
        (pss_one (ps_set (i := 3) nd rfl (Or.inl rfl) (pe_call GE hr rfl mE kE bE .nil pass0 (pa_cons (pv 3) (pa_cons (pe_op op_mod (pe_callTy call_int1 (by rfl) T.int (by decide +kernel) (pa_cons (pe_ix ix_list (pv 0) (pe_op op_add (pe_op op_add (pv 1) pe_int) (pv 7)) (fun _ _ => rfl)) pa_nil)) pe_int) pa_nil))))))
      (pss_one (ps_ret (pv 3))))))))))), ?_⟩
    -- kind, circles
    refine ⟨_, rfl, _, rfl, a, _, _, _, rfl, rfl, SqL.of ha, at_of (j := 0) rfl (n_ix hn (by decide)), .inl ⟨_, rfl, _, _, rfl, rfl, (by show (0 : Int) < 7; decide), ?_⟩⟩
    refine ⟨_, rfl, _, rfl, _, rfl, _, _, rfl, rfl, a, _, _, _, rfl, rfl, SqL.of ha, at_of (j := 1) rfl (n_ix hn (by decide)), .inl ⟨_, rfl, _, _, rfl, rfl, (by show (0 : Int) < 4; decide), _, _, rfl, rfl, ?_⟩⟩
    have b1 := Int.emod_nonneg (nAt ns 1) (show (4 : Int) ≠ 0 by decide)
    have b2 := Int.emod_lt_of_pos (nAt ns 1) (show (0 : Int) < 4 by decide)
    refine ⟨nAt ns 0 % 7, 1 + nAt ns 1 % 4, rfl, by omega, by omega, fun l0 H0 s0 n0 L0 => ?_⟩
    have g0 : G (K45.base (nAt ns 0 % 7) (1 + nAt ns 1 % 4)) := G.base (by omega) (by omega)
    have bd0 : BdL 21 (K45.base (nAt ns 0 % 7) (1 + nAt ns 1 % 4)) := BdL.base (by omega) (by omega)
    generalize K45.base (nAt ns 0 % 7) (1 + nAt ns 1 % 4) = cs0 at L0 g0 bd0
    have ha0 := s0 _ _ ha
    -- s, t
    refine ⟨_, rfl, _, rfl, _, _, rfl, rfl, a, _, _, _, rfl, rfl, SqL.of ha0, at_of (j := 2) rfl (n_ix hn (by decide)), .inl ⟨_, rfl, _, _, rfl, rfl, (by show (0 : Int) < 7; decide), _, _, rfl, rfl, ?_⟩⟩
    refine ⟨_, rfl, _, rfl, _, _, rfl, rfl, a, _, _, _, rfl, rfl, SqL.of ha0, at_of (j := 3) rfl (n_ix hn (by decide)), .inl ⟨_, rfl, _, _, rfl, rfl, (by show (0 : Int) < 7; decide), _, _, rfl, rfl, ?_⟩⟩
    have hs : -3 ≤ nAt ns 2 % 7 - 3 ∧ nAt ns 2 % 7 - 3 ≤ 3 := by omega
    have ht : -3 ≤ nAt ns 3 % 7 - 3 ∧ nAt ns 3 % 7 - 3 ≤ 3 := by omega
    obtain ⟨k4, e4, l4⟩ := mod_nat (nAt ns 4) (show (0 : Int) < 4 by decide)
    obtain ⟨vs0, hv0, pr0⟩ := L0
    have lv0 : vs0.length = 4 := by rw [pr_len pr0, g0.len]
    refine ⟨_, rfl, l0, rfl, ⟨_, SqL.of hv0⟩, fun D nD => ?_⟩
    refine lc_new walk_list RC.mono RC.stab (fun i => (cs0[i]?).map (movedC (nAt ns 2 % 7 - 3) (nAt ns 3 % 7 - 3) k4 (decide (V.int (nAt ns 5 % 2) = V.int 1)))) nD (by omega) (fun H' s' => SqL.of (s' _ _ hv0)) (fun i y H1 H2 hi s1 hy Yes No yes no => ?_) (fun H1 s1 hL => ?_)
    · obtain ⟨rfl, hy⟩ := hy
      obtain ⟨c, hc, r⟩ := pr_get pr0 hy
      have ha1 := s1 _ _ ha0
      refine ⟨rfl, _, rfl, _, rfl, _, rfl, ?_⟩
      refine ⟨_, rfl, _, rfl, _, _, rfl, rfl, a, _, _, _, rfl, rfl, SqL.of ha1, at_of (j := 4) rfl (n_ix hn (by decide)), .inl ⟨_, rfl, _, _, rfl, rfl, (by show (0 : Int) < 4; decide), ?_⟩⟩
      refine ⟨_, rfl, _, rfl, _, _, rfl, rfl, a, _, _, _, rfl, rfl, SqL.of ha1, at_of (j := 5) rfl (n_ix hn (by decide)), .inl ⟨_, rfl, _, _, rfl, rfl, (by show (0 : Int) < 2; decide), rfl, ?_⟩⟩
      refine ⟨y, c, _, _, k4, _, ?_, RC.mono _ _ _ _ s1 r, hs, ht, by omega, fun v' H' s' r' => yes v' H' _ (by rw [hc]; rfl) s' r'⟩
      rw [← e4]
      rfl
    · rw [pr_len pr0, fm_all] at hL
      have g1 : G (cs0.map (movedC (nAt ns 2 % 7 - 3) (nAt ns 3 % 7 - 3) k4 (decide (V.int (nAt ns 5 % 2) = V.int 1)))) := g0.map (Iso.moved _ _ _ _)
      have bd1 : BdL 1000 (cs0.map (movedC (nAt ns 2 % 7 - 3) (nAt ns 3 % 7 - 3) k4 (decide (V.int (nAt ns 5 % 2) = V.int 1)))) := bd0.moved hs ht _ _
      generalize cs0.map (movedC (nAt ns 2 % 7 - 3) (nAt ns 3 % 7 - 3) k4 (decide (V.int (nAt ns 5 % 2) = V.int 1))) = cs1 at hL g1 bd1
      obtain ⟨vs1, hv1, pr1⟩ := hL
      have lv1 : vs1.length = 4 := by rw [pr_len pr1, g1.len]
      have sH1 := s0.trans s1
      have ha1 := sH1 _ _ ha
      -- the turn of the list
      obtain ⟨k6, e6, l6⟩ := mod_nat (nAt ns 6) (show (0 : Int) < 4 by decide)
      refine ⟨_, rfl, _, rfl, _, _, rfl, rfl, a, _, _, _, rfl, rfl, SqL.of ha1, at_of (j := 6) rfl (n_ix hn (by decide)), .inl ⟨_, rfl, _, _, rfl, rfl, (by show (0 : Int) < 4; decide), ?_⟩⟩
      rw [show (fun i j : Int => V.int (i % j)) (nAt ns 6) 4 = V.int ((k6 : Nat) : Int) from congrArg V.int e6]
      refine ⟨_, rfl, _, rfl, (k6 : Nat), rfl, D, _, rfl, SqL.of hv1, fun S1 nS1 => ?_⟩
      have z1 := same_upd (o := HO.lst (cutV vs1 (some ((k6 : Nat) : Int)) none)) nS1
      refine ⟨_, rfl, _, rfl, (k6 : Nat), rfl, D, _, rfl, SqL.of (z1 _ _ hv1), fun S2 nS2 => ?_⟩
      have z2 := same_upd (o := HO.lst (cutV vs1 none (some ((k6 : Nat) : Int)))) nS2
      have lc1 := cutV_length vs1 (some ((k6 : Nat) : Int)) none
      have lc2 := cutV_length vs1 none (some ((k6 : Nat) : Int))
      refine ⟨S1, S2, _, _, rfl, rfl, z2 _ _ upd_same, upd_same, small_line' (by omega), fun S3 nS3 => ?_⟩
      have z3 := same_upd (o := HO.lst (cutV vs1 (some ((k6 : Nat) : Int)) none ++ cutV vs1 none (some ((k6 : Nat) : Int)))) nS3
      have s2 := (z1.trans z2).trans z3
      have L2 : LOf RC _ S3 (cs1.drop k6 ++ cs1.take k6) := ⟨_, upd_same, pr_append (pr_eq (cut_tail (by omega)) (pr_drop k6 (Paired.mapP pr1 fun v c r => RC.mono _ _ _ _ s2 r))) (pr_eq (cut_head (by omega)) (pr_take k6 (Paired.mapP pr1 fun v c r => RC.mono _ _ _ _ s2 r)))⟩
      have g2 : G (cs1.drop k6 ++ cs1.take k6) := g1.cut (by omega)
      have bd2 : BdL 1000 (cs1.drop k6 ++ cs1.take k6) := bd1.sub fun c hc => (List.mem_append.mp hc).elim List.mem_of_mem_drop List.mem_of_mem_take
      have n3 : H S3 = none := (sH1.trans (z1.trans z2)).free nS3
      have sH2 := sH1.trans s2
      generalize cs1.drop k6 ++ cs1.take k6 = cs2 at L2 g2 bd2
      generalize upd (upd (upd H1 S1 (.lst (cutV vs1 (some ((k6 : Nat) : Int)) none))) S2 (.lst (cutV vs1 none (some ((k6 : Nat) : Int))))) S3 (.lst (cutV vs1 (some ((k6 : Nat) : Int)) none ++ cutV vs1 none (some ((k6 : Nat) : Int)))) = H2 at L2 sH2 ⊢
      have ha2 := sH2 _ _ ha
      -- the exchange of the first two
      refine ⟨fun σ' H' => ∃ (l : Addr) (cs : List Cir), σ' = [some (.ref a), some (.int 0), some (.int (nAt ns 0 % 7)), some (.ref l), some (.int (nAt ns 2 % 7 - 3)), some (.int (nAt ns 3 % 7 - 3)), some (.int (k6 : Nat)), none, none] ∧
        Same H H' ∧ H l = none ∧ LOf RC H' l cs ∧ G cs ∧ BdL 1000 cs, ?_, ?_⟩
      · refine ⟨_, rfl, _, rfl, _, _, rfl, rfl, a, _, _, _, rfl, rfl, SqL.of ha2, at_of (j := 7) rfl (n_ix hn (by decide)), .inl ⟨_, rfl, _, _, rfl, rfl, (by show (0 : Int) < 2; decide), rfl, _, rfl, ?_⟩⟩
        refine ite2 (fun _ => ?_) (fun _ => ⟨S3, cs2, rfl, sH2, n3, L2, g2, bd2⟩)
        obtain ⟨vs2, hv2, pr2⟩ := L2
        have lv2 : vs2.length = 4 := by rw [pr_len pr2, g2.len]
        obtain ⟨v1, hv1', r1⟩ := lof_get (R := RC) pr2 (i := 1) (by rw [g2.len]; decide)
        obtain ⟨v0, hv0', r0⟩ := lof_get (R := RC) pr2 (i := 0) (by rw [g2.len]; decide)
        refine ⟨_, rfl, S3, _, _, v1, rfl, rfl, SqL.of hv2, at_of (j := 1) rfl hv1', _, rfl, S3, _, _, v0, rfl, rfl, SqL.of hv2, at_of (j := 0) rfl hv0', (by show 2 ≤ sizeLine; decide), fun S4 nS4 => ?_⟩
        have z4 := same_upd (o := HO.lst [v1, v0]) nS4
        refine ⟨_, rfl, 2, rfl, S3, _, rfl, SqL.of (z4 _ _ hv2), fun S5 nS5 => ?_⟩
        have z5 := same_upd (o := HO.lst (cutV vs2 (some 2) none)) nS5
        have lc3 := cutV_length vs2 (some 2) none
        refine ⟨S4, S5, _, _, rfl, rfl, z5 _ _ upd_same, upd_same, small_line' (by simp only [List.length_cons, List.length_nil]; omega), fun S6 nS6 => ?_⟩
        have z6 := same_upd (o := HO.lst ([v1, v0] ++ cutV vs2 (some 2) none)) nS6
        have s6 := (z4.trans z5).trans z6
        refine ⟨S6, swapC cs2, rfl, sH2.trans s6, (sH2.trans (z4.trans z5)).free nS6, ⟨_, upd_same, ?_⟩, g2.swapC, bd2.sub fun c hc => swap_mem hc⟩
        rw [swap_two g2.len]
        have ec : cutV vs2 (some 2) none = vs2.drop 2 := cut_tail (k := 2) (by omega)
        exact pr_append (.cons (RC.mono _ _ _ _ s6 r1) (.cons (RC.mono _ _ _ _ s6 r0) .nil)) (pr_eq ec (pr_drop 2 (Paired.mapP pr2 fun v c r => RC.mono _ _ _ _ s6 r)))
      · rintro σ' H3 ⟨l3, cs3, rfl, sH3, n3', L3, g3, bd3⟩
        have ha3 := sH3 _ _ ha
        obtain ⟨k8, e8, l8⟩ := mod_nat (nAt ns 8) (show (0 : Int) < 6 by decide)
        refine ⟨_, rfl, _, rfl, _, _, rfl, rfl, a, _, _, _, rfl, rfl, SqL.of ha3, at_of (j := 8) rfl (n_ix hn (by decide)), .inl ⟨_, rfl, _, _, rfl, rfl, (by show (0 : Int) < 6; decide), nAt ns 8 % 6, rfl, by omega, by omega, ?_⟩⟩
        rw [e8]
        refine for_range (lo := 0) (n := k8) (fun i σ H' => ∃ (l : Addr) (cs : List Cir) (v7 : Option V), σ = [some (.ref a), some (.int 0), some (.int (nAt ns 0 % 7)), some (.ref l), some (.int (nAt ns 2 % 7 - 3)), some (.int (nAt ns 3 % 7 - 3)), some (.int (k6 : Nat)), v7, none] ∧
          Same H H' ∧ H l = none ∧ LOf RC H' l cs ∧ G cs ∧ BdL (7 ^ i * 1000) cs) ⟨l3, cs3, none, rfl, sH3, n3', L3, g3, bd3.mono (by decide)⟩ ?_ ?_
        · rintro i σ H4 hi ⟨l4, cs4, v7, rfl, sH4, n4, L4, g4, bd4⟩
          have ha4 := sH4 _ _ ha
          obtain ⟨k9, e9, l9⟩ := mod_nat (nAt ns (9 + i)) (show (0 : Int) < 4 by decide)
          refine ⟨_, rfl, _, rfl, _, rfl, _, _, rfl, rfl, _, rfl, _, _, rfl, rfl, a, _, _, _, rfl, rfl, SqL.of ha4, at_of (j := 9 + i) (by omega) (n_ix hn (by omega)), .inl ⟨_, rfl, _, _, rfl, rfl, (by show (0 : Int) < 4; decide), ?_⟩⟩
          refine ⟨l4, cs4, k9, ?_, L4, g4.len, by omega, fun l5 H5 s5 n5 L5 => ⟨l5, exch cs4 k9, _, rfl, sH4.trans s5, sH4.free n5, L5, g4.exch k9, ?_⟩⟩
          · rw [← e9]
            rfl
          · have e7 : (7 : Int) ^ (i + 1) * 1000 = 7 * (7 ^ i * 1000) := by rw [Int.pow_succ]; omega
            rw [e7]
            exact bd4.exch (Int.mul_nonneg (Int.pow_nonneg (by decide)) (by decide)) g4 k9
        · rintro σ H4 ⟨l4, cs4, v7, rfl, sH4, n4, L4, g4, bd4⟩
          refine ⟨_, rfl, q l4 cs4 H4 sH4 n4 L4 g4 (bd4.mono ?_)⟩
          have : k8 = 0 ∨ k8 = 1 ∨ k8 = 2 ∨ k8 = 3 ∨ k8 = 4 ∨ k8 = 5 := by omega
          rcases this with rfl | rfl | rfl | rfl | rfl | rfl <;> decide
end
end K45W

set_option maxRecDepth 100000
set_option maxHeartbeats 4000000
namespace K45W
open PySem PySem.Spec PyProof.Rows L2 K45 K45R
/-- a list of circles that stands apart from the list at D -/
def RF (D : Addr) : Hp → V → List Cir → Prop := fun H v cs => ∃ a, v = .ref a ∧ a ≠ D ∧ LOf RC H a cs
theorem RF.mono {D : Addr} {H H' : Hp} {v : V} {cs : List Cir} (s : Same H H') (h : RF D H v cs) : RF D H' v cs :=
  let ⟨a, e, n, l⟩ := h
  ⟨a, e, n, l.mono RC.mono s⟩
/-- .. and from that at L, too -/
def RF2 (D L : Addr) : Hp → V → List Cir → Prop := fun H v cs => ∃ a, v = .ref a ∧ a ≠ D ∧ a ≠ L ∧ LOf RC H a cs
theorem RF2.mono {D L : Addr} {H H' : Hp} {v : V} {cs : List Cir} (s : Same H H') (h : RF2 D L H v cs) : RF2 D L H' v cs :=
  let ⟨a, e, n, n', l⟩ := h
  ⟨a, e, n, n', l.mono RC.mono s⟩
theorem longer_snoc (fs : List (List Cir)) (f : List Cir) : longer (fs ++ [f]) = longer fs ++ [exch f 0, exch f 1, exch f 2, exch f 3] := by
  unfold longer
  rw [List.flatMap_append]
  rfl
theorem take_snoc {α : Type} {xs : List α} {i : Nat} {x : α} (h : xs[i]? = some x) : xs.take (i + 1) = xs.take i ++ [x] := by
  rw [List.take_succ, h]
  rfl
theorem growC_snoc (fd : List Cir) (fs : List (List Cir)) (f : List Cir) : growC fd (fs ++ [f]) = f.foldl addC (growC fd fs) := by
  unfold growC
  rw [List.foldl_append]
  rfl
theorem any_mem (found : List Cir) (c : Cir) : ((found.map cD).any fun z => PyData.eqv z (cD c)) = decide (c ∈ found) := by
  rw [List.any_map]
  have e : ((fun z => PyData.eqv z (cD c)) ∘ cD) = fun d => decide (d = c) := by
    funext d
    exact cD_eqv d c
  rw [e]
  induction found with
  | nil => rfl
  | cons d r ih =>
    rw [List.any_cons, ih]
    by_cases h : d = c
    · subst h
      simp
    · rw [decide_eq_false h, Bool.false_or]
      refine decide_eq_decide.mpr ?_
      simp only [List.mem_cons]
      exact ⟨.inr, fun z => z.elim (fun q => absurd q.symm h) id⟩
theorem dpAll_c {K : PySem.W.Frag} {H : Hp} : ∀ {vs : List V} {cs : List Cir}, Paired (RC H) vs cs → DpAll K H vs (cs.map cD)
  | _, _, .nil => .nil
  | _, _, .cons r t => .cons (cD_dp r) (dpAll_c t)
theorem lay_c : ∀ cs : List Cir, PyData.canLayAll0 (cs.map cD) = true
  | [] => by simp [PyData.canLayAll0]
  | c :: cs => by simp [PyData.canLayAll0, cD_lay c, lay_c cs]
theorem depth_c : ∀ cs : List Cir, PyData.depthAll (cs.map cD) ≤ 1
  | [] => by simp [PyData.depthAll]
  | c :: cs => by
    have h1 := depth_c cs
    have h2 := cD_depth c
    simp only [List.map_cons, PyData.depthAll]
    omega
theorem sh_c (cs : List Cir) : SeqAt.shaped (.list (cs.map cD)) = true := by
  refine shaped_of ?_ ?_
  · simp only [PyData.canLay0]
    exact lay_c cs
  · have := depth_c cs
    simp only [PyData.depth]
    omega
section
variable {P : Program} {w : World} {K : PySem.W.Frag} {mg : Str → Option Value} {base : Heap} {C aN : Addr}
abbrev sMd : Stmt := top 36
theorem scMd : FnScope ["_law_circles", "_law_fours", "_law_found", "_law_turn", "_law_longer", "_law_four_here", "_law_place", "_law_circle"] ["_law_circles"] (defScope sMd) := ⟨rfl, rfl, rfl, by decide +kernel, rfl, by decide +kernel, by decide +kernel⟩
def spMd : Sp := fun vs H Q _ => ∃ (a : Addr) (cs : List Cir), vs = [.ref a] ∧ LOf RC H a cs ∧ G cs ∧ ∀ (l : Addr) (H' : Hp), Same H H' → H l = none → LOf RC H' l (fnd cs 3) → Q (.ref l) H'
theorem ok_md (T : Txt K mg C aN) (S : Stands K mg "_law_made" sMd ["_law_circles"]) (GE : Can P w K mg base 1 "_law_exchanged" ["_law_circles", "_law_place"] spEx) : Can P w K mg base 2 "_law_made" ["_law_circles"] spMd := by
  obtain ⟨f, fd, F, m, b⟩ := S
  obtain ⟨fE, fdE, GE, mE, kE, bE⟩ := GE
  refine ⟨f, fd, F.ok scMd (fun vs H Q E h => ?_) (fun cdv A outer s H vs Q E hr h => ?_), m, F.kp, b⟩
  · obtain ⟨a, cs, rfl, _⟩ := h
    rfl
  · obtain ⟨a, cs, rfl, La, hg, q⟩ := h
    obtain ⟨vs, ha, pr⟩ := id La
    have nd := scMd.nd
    have hu : (A.deeper (envOfC "_law_made" (defScope sMd) s.heap.objs.size f cdv)).units + 65 < cLine := by have := hr.un; omega
    refine ⟨_, pss_cons (ps_set (i := 1) nd rfl (Or.inl rfl) (pe_lst (pa_cons (pv 0) pa_nil)))
      (pss_cons (ps_set (i := 2) nd rfl (Or.inl rfl) (pe_callTy call_list_of (by rfl) T.list (by decide +kernel) (pa_cons (pv 0) pa_nil)))
      (pss_cons (ps_for PassesOwn.never rfl (pi_range1 rfl T.range (pa_cons pe_int pa_nil)) (pg_name (i := 3) nd rfl (Or.inl rfl))
        (pss_cons (ps_set (i := 4) nd rfl (Or.inl rfl) (pe_lst pa_nil))
        (pss_cons (ps_for PassesOwn.never rfl (pi_list (pv 1)) (pg_name (i := 5) nd rfl (Or.inl rfl))
          (pss_one (ps_for PassesOwn.never rfl (pi_range1 rfl T.range (pa_cons pe_int pa_nil)) (pg_name (i := 6) nd rfl (Or.inl rfl))
            (pss_one (ps_expr (pe_bm PySem.F.plainAttrs_list PySem.F.slot_list_append PySem.F.type_list_append mt_append (pv 4) (pa_cons (pe_call GE hr rfl mE kE bE .nil pass0 (pa_cons (pv 5) (pa_cons (pv 6) pa_nil))) pa_nil)))))))
        (pss_cons (ps_for PassesOwn.never rfl (pi_list (pv 4)) (pg_name (i := 5) nd rfl (Or.inl rfl))
          (pss_one (ps_for PassesOwn.never rfl (pi_list (pv 5)) (pg_name (i := 7) nd rfl (Or.inl rfl))
            (pss_one (ps_if (pt_cmpR (op_notInD hu) (pv 7) (pv 2) rfl) (pss_one (ps_expr (pe_bm PySem.F.plainAttrs_list PySem.F.slot_list_append PySem.F.type_list_append mt_append (pv 2) (pa_cons (pv 7) pa_nil)))) pss_nil)))))
        (pss_one (ps_set (i := 1) nd rfl (Or.inl rfl) (pv 4)))))))
      (pss_one (ps_ret (pv 2))))), ?_⟩
    refine ⟨_, rfl, (by show 1 ≤ sizeLine; decide), fun F0 nF0 => ?_⟩
    have z0 := same_upd (o := HO.lst [V.ref a]) nF0
    refine ⟨_, rfl, a, _, rfl, .inl (SqL.of (z0 _ _ ha)), fun FD nFD => ?_⟩
    have z1 := same_upd (o := HO.lst vs) nFD
    have nFD0 : H FD = none := z0.free nFD
    have s1 := z0.trans z1
    have aF : a ≠ FD := ne_of_none ha nFD0
    have eF0 : upd (upd H F0 (.lst [.ref a])) FD (.lst vs) F0 = some (.lst [.ref a]) := z1 _ _ upd_same
    have eFD : upd (upd H F0 (.lst [.ref a])) FD (.lst vs) FD = some (.lst vs) := upd_same
    have F0F : F0 ≠ FD := ne_of_none (show upd H F0 (.lst [.ref a]) F0 = some _ from upd_same) nFD
    generalize upd (upd H F0 (.lst [.ref a])) FD (.lst vs) = H1 at s1 eF0 eFD ⊢
    refine ⟨3, rfl, by decide, by decide, for_range (lo := 0) (n := 3) (fun t σ H' => ∃ (F : Addr) (ws fv : List V) (v3 v4 v5 v6 v7 : Option V), σ = [some (.ref a), some (.ref F), some (.ref FD), v3, v4, v5, v6, v7] ∧ Same H H' ∧ F ≠ FD ∧
      H' F = some (.lst ws) ∧ Paired (RF FD H') ws (lv cs t) ∧ H' FD = some (.lst fv) ∧ Paired (RC H') fv (fnd cs t))
      ⟨F0, _, _, _, _, _, _, _, rfl, s1, F0F, eF0, .cons ⟨a, rfl, aF, La.mono RC.mono s1⟩ .nil, eFD, Paired.mapP pr fun v c r => RC.mono _ _ _ _ s1 r⟩ ?_ ?_⟩
    · rintro t σ H' ht ⟨F, ws, fv, v3, v4, v5, v6, v7, rfl, sH, FF, eF, prF, eD, prD⟩
      -- longer = []
      refine ⟨Nat.zero_le _, fun LD nL => ?_⟩
      have zL := same_upd (o := HO.lst []) nL
      have FL : F ≠ LD := ne_of_none eF nL
      have DL : FD ≠ LD := ne_of_none eD nL
      -- all exchanges
      refine ⟨_, rfl, F, rfl, ⟨_, SqL.of (zL _ _ eF)⟩, for_list (K := K) (a := F) (xs := ws) (fun i σ H2 => ∃ (acc : List V) (u3 u5 u6 u7 : Option V), σ = [some (.ref a), some (.ref F), some (.ref FD), u3, some (.ref LD), u5, u6, u7] ∧ Same H' H2 ∧
        H2 LD = some (.lst acc) ∧ Paired (RF2 FD LD H2) acc (longer ((lv cs t).take i))) ⟨[], _, _, _, _, rfl, zL, upd_same, .nil⟩ (fun i σ H2 _ ⟨_, _, _, _, _, _, s', _⟩ => SqL.of (s' _ _ eF)) ?_ ?_⟩
      · rintro i y σ H2 hi ⟨acc, u3, u5, u6, u7, rfl, s2, eL, prL⟩
        obtain ⟨g, hgi, ag, rfl, agD, Lg⟩ := pr_get prF hi
        have gG : G g := lv_G hg t g (List.mem_of_getElem? hgi)
        have ltw : ((lv cs t).take i).length ≤ 64 := by
          have h1 := lv_len cs t
          have h2 : (lv cs t).length ≤ 64 := by
            rw [h1]
            have : t = 0 ∨ t = 1 ∨ t = 2 := by omega
            rcases this with rfl | rfl | rfl <;> decide
          exact Nat.le_trans (by rw [List.length_take]; omega) h2
        have ll : (longer ((lv cs t).take i)).length ≤ 256 := by
          rw [longer_len]
          omega
        refine ⟨4, rfl, by decide, by decide, for_range (lo := 0) (n := 4) (fun j σ H3 => ∃ (acc : List V) (u6 u7 : Option V), σ = [some (.ref a), some (.ref F), some (.ref FD), u3, some (.ref LD), some (.ref ag), u6, u7] ∧ Same H' H3 ∧
          H3 LD = some (.lst acc) ∧ Paired (RF2 FD LD H3) acc (longer ((lv cs t).take i) ++ (List.range j).map (exch g))) ⟨acc, _, _, rfl, s2, eL, by simpa using prL⟩ ?_ ?_⟩
        · rintro j σ H3 hj ⟨acc, u6, u7, rfl, s3, eL3, prL3⟩
          refine ⟨_, rfl, .inl ⟨rfl, _, SqL.of eL3⟩, _, rfl, _, rfl, ag, g, j, ?_, Lg.mono RC.mono s3, gG.len, hj, fun l H4 s4 nl Ll => ?_⟩
          · rw [Int.zero_add]
            rfl
          have la : acc.length ≤ 300 := by
            rw [pr_len prL3, List.length_append, List.length_map, List.length_range]
            omega
          have lD : l ≠ FD := (ne_of_none (s3 _ _ eD) nl).symm
          have lL : l ≠ LD := (ne_of_none eL3 nl).symm
          have eL4 := s4 _ _ eL3
          refine ⟨LD, _, _, rfl, rfl, eL4, small_line (by omega), acc ++ [.ref l], _, _, rfl, same_upd' (s3.trans s4) nL, upd_same, ?_⟩
          rw [List.range_succ, List.map_append, ← List.append_assoc]
          refine pr_append (Paired.mapP prL3 fun v c r => ?_) (.cons ⟨l, rfl, lD, lL, Ll.upd RC.stab lL eL4⟩ .nil)
          obtain ⟨a', e', n1, n2, L'⟩ := r
          exact ⟨a', e', n1, n2, (L'.mono RC.mono s4).upd RC.stab n2 eL4⟩
        · rintro σ H3 ⟨acc, u6, u7, rfl, s3, eL3, prL3⟩
          refine ⟨acc, _, _, _, _, rfl, s3, eL3, ?_⟩
          rw [take_snoc hgi, longer_snoc]
          exact prL3
      · rintro σ H2 ⟨acc, u3, u5, u6, u7, rfl, s2, eL, prL⟩
        rw [show ws.length = (lv cs t).length from pr_len prF, List.take_length] at prL
        replace prL : Paired (RF2 FD LD H2) acc (lv cs (t + 1)) := prL
        have eD2 := s2 _ _ eD
        have prD2 : Paired (RC H2) fv (fnd cs t) := Paired.mapP prD fun v c r => RC.mono _ _ _ _ s2 r
        have l0 : (fnd cs t).length ≤ 84 := by
          have h1 := fnd_len hg t (by omega)
          have : t = 0 ∨ t = 1 ∨ t = 2 := by omega
          rcases this with rfl | rfl | rfl
          · exact Nat.le_trans h1 (by decide)
          · exact Nat.le_trans h1 (by decide)
          · exact Nat.le_trans h1 (by decide)
        have l1 : ∀ p, (growC (fnd cs t) ((lv cs (t + 1)).take p)).length ≤ 84 + 4 * 64 := fun p => by
          have h1 := growC_len (M := 4) ((lv cs (t + 1)).take p) (fnd cs t) fun f hf => by rw [(lv_G hg _ f (List.mem_of_mem_take hf)).len]; exact Nat.le_refl _
          have h2 : ((lv cs (t + 1)).take p).length ≤ 64 := by
            have h3 := lv_len cs (t + 1)
            have h4 : (lv cs (t + 1)).length ≤ 64 := by
              rw [h3]
              have : t = 0 ∨ t = 1 ∨ t = 2 := by omega
              rcases this with rfl | rfl | rfl <;> decide
            exact Nat.le_trans (by rw [List.length_take]; omega) h4
          omega
        -- what is found
        refine ⟨_, rfl, LD, rfl, ⟨_, SqL.of eL⟩, for_list (K := K) (a := LD) (xs := acc) (fun p σ H3 => ∃ (fa : List V) (u5 u7 : Option V), σ = [some (.ref a), some (.ref F), some (.ref FD), u3, some (.ref LD), u5, u6, u7] ∧ (∀ b, b ≠ FD → H3 b = H2 b) ∧
          H3 FD = some (.lst fa) ∧ Paired (RC H2) fa (growC (fnd cs t) ((lv cs (t + 1)).take p))) ⟨fv, _, _, rfl, fun _ _ => rfl, eD2, prD2⟩ (fun p σ H3 _ ⟨_, _, _, _, k3, _⟩ => SqL.of (by rw [k3 _ DL.symm]; exact eL)) ?_ ?_⟩
        · rintro p y σ H3 hp ⟨fa, u5, u7, rfl, k3, e3, pr3⟩
          obtain ⟨g, hgp, ag, rfl, agD, agL, gv, hgv, prg⟩ := pr_get prL hp
          have gG : G g := lv_G hg (t + 1) g (List.mem_of_getElem? hgp)
          refine ⟨_, rfl, ag, rfl, ⟨_, SqL.of (by rw [k3 _ agD]; exact hgv)⟩, for_list (K := K) (a := ag) (xs := gv) (fun r σ H4 => ∃ (fa : List V) (u7 : Option V), σ = [some (.ref a), some (.ref F), some (.ref FD), u3, some (.ref LD), some (.ref ag), u6, u7] ∧ (∀ b, b ≠ FD → H4 b = H2 b) ∧
            H4 FD = some (.lst fa) ∧ Paired (RC H2) fa ((g.take r).foldl addC (growC (fnd cs t) ((lv cs (t + 1)).take p)))) ⟨fa, _, rfl, k3, e3, pr3⟩ (fun r σ H4 _ ⟨_, _, _, k4, _⟩ => SqL.of (by rw [k4 _ agD]; exact hgv)) ?_ ?_⟩
          · rintro r y σ H4 hr4 ⟨fa, u7, rfl, k4, e4, pr4⟩
            obtain ⟨c, hc, rc⟩ := pr_get prg hr4
            have up : ∀ v c, RC H2 v c → RC H4 v c := fun v c ⟨pp, e, h⟩ => ⟨pp, e, by rw [k4 _ (ne_of h eD2 (fun z => nomatch z))]; exact h⟩
            have lf : fa.length ≤ 400 := by
              rw [pr_len pr4]
              have h1 := addAll_len (g.take r) (growC (fnd cs t) ((lv cs (t + 1)).take p))
              have h2 := l1 p
              have h3 : (g.take r).length ≤ 4 := Nat.le_trans (by rw [List.length_take]; omega) (Nat.le_of_eq gG.len)
              omega
            rw [take_snoc hc, List.foldl_append]
            generalize (g.take r).foldl addC (growC (fnd cs t) ((lv cs (t + 1)).take p)) = found at pr4 ⊢
            refine ⟨_, rfl, _, rfl, cD c, found.map cD, cD_dp (up _ _ rc), .lst (SqL.of e4) (dpAll_c (Paired.mapP pr4 up)), cD_sh c, sh_c found, _, rfl, ?_⟩
            rw [any_mem]
            show if (!decide (c ∈ found)) = true then _ else _
            by_cases hm : c ∈ found
            · rw [decide_eq_true hm]
              refine iteF ⟨fa, _, rfl, k4, e4, ?_⟩
              show Paired (RC H2) fa (addC found c)
              unfold addC
              rw [if_pos hm]
              exact pr4
            · rw [decide_eq_false hm]
              refine iteT ⟨_, rfl, .inl ⟨rfl, _, SqL.of e4⟩, _, rfl, FD, _, _, rfl, rfl, e4, small_line (by omega), fa ++ [y], _, rfl, fun b hb => by rw [upd_ne hb]; exact k4 b hb, upd_same, ?_⟩
              show Paired (RC H2) (fa ++ [y]) (addC found c)
              unfold addC
              rw [if_neg hm]
              exact pr_append pr4 (.cons rc .nil)
          · rintro σ H4 ⟨fa, u7, rfl, k4, e4, pr4⟩
            refine ⟨fa, _, _, rfl, k4, e4, ?_⟩
            rw [show gv.length = g.length from pr_len prg, List.take_length] at pr4
            rw [take_snoc hgp, growC_snoc]
            exact pr4
        · rintro σ H3 ⟨fa, u5, u7, rfl, k3, e3, pr3⟩
          rw [show acc.length = (lv cs (t + 1)).length from pr_len prL, List.take_length] at pr3
          replace pr3 : Paired (RC H2) fa (fnd cs (t + 1)) := pr3
          have up : ∀ v c, RC H2 v c → RC H3 v c := fun v c ⟨pp, e, h⟩ => ⟨pp, e, by rw [k3 _ (ne_of h eD2 (fun z => nomatch z))]; exact h⟩
          refine ⟨_, rfl, LD, acc, fa, _, _, _, _, _, rfl, ?_, DL.symm, by rw [k3 _ DL.symm]; exact eL, ?_, e3, Paired.mapP pr3 up⟩
          · intro b o e
            rw [k3 _ (ne_of_none e nFD0)]
            exact s2 _ _ (sH _ _ e)
          · refine Paired.mapP prL fun v g r => ?_
            obtain ⟨a', e', n1, n2, gv, hgv, prg⟩ := r
            exact ⟨a', e', n1, gv, by rw [k3 _ n1]; exact hgv, Paired.mapP prg up⟩
    · rintro σ H' ⟨F, ws, fv, v3, v4, v5, v6, v7, rfl, sH, FF, eF, prF, eD, prD⟩
      exact ⟨_, rfl, q FD H' sH nFD0 ⟨fv, eD, prD⟩⟩
end
end K45W

set_option maxRecDepth 100000
set_option maxHeartbeats 4000000
namespace K45W
open PySem PySem.Spec PyProof.Rows L2 K45 K45R
/-- all stays but what lies at D and at E -/
def Kp (D E : Addr) (H H' : Hp) : Prop := ∀ b o, H b = some o → b ≠ D → b ≠ E → H' b = some o
theorem Kp.refl {D E : Addr} {H : Hp} : Kp D E H H := fun _ _ h _ _ => h
theorem Kp.same {D E : Addr} {H H' H'' : Hp} (h : Kp D E H H') (s : Same H' H'') : Kp D E H H'' := fun b o e n m => s _ _ (h b o e n m)
theorem Kp.updD {D E : Addr} {H H' : Hp} {o : HO} (h : Kp D E H H') : Kp D E H (upd H' D o) := fun b u e n m => by
  rw [upd_ne n]
  exact h b u e n m
theorem Kp.updE {D E : Addr} {H H' : Hp} {o : HO} (h : Kp D E H H') : Kp D E H (upd H' E o) := fun b u e n m => by
  rw [upd_ne m]
  exact h b u e n m
theorem RC.kp {D E : Addr} {H H' : Hp} {xs ys : List V} (hD : H D = some (.lst xs)) (hE : H E = some (.lst ys)) (h : Kp D E H H') {v : V} {c : Cir} (r : RC H v c) : RC H' v c := by
  obtain ⟨p, e, hp⟩ := r
  exact ⟨p, e, h _ _ hp (ne_of hp hD (fun z => nomatch z)) (ne_of hp hE (fun z => nomatch z))⟩
theorem FourAt.kp {D E C : Addr} {H H' : Hp} {xs ys : List V} (hD : H D = some (.lst xs)) (hE : H E = some (.lst ys)) (h : Kp D E H H') {x T : Addr} {cs : List Cir} (r : FourAt C H x T cs) : FourAt C H' x T cs := by
  obtain ⟨dx, vs, h1, h2, pr⟩ := r
  exact ⟨dx, vs, h _ _ h1 (ne_of h1 hD (fun z => nomatch z)) (ne_of h1 hE (fun z => nomatch z)), h _ _ h2 (ne_of h2 hD (fun z => nomatch z)) (ne_of h2 hE (fun z => nomatch z)), Paired.mapP pr fun v c r => r.kp hD hE h⟩
theorem any_memP (found : List (Int × Int)) (c : Int × Int) : ((found.map pD).any fun z => PyData.eqv z (pD c)) = decide (c ∈ found) := by
  rw [List.any_map]
  have e : ((fun z => PyData.eqv z (pD c)) ∘ pD) = fun d => decide (d = c) := by
    funext d
    exact pD_eqv d c
  rw [e]
  induction found with
  | nil => rfl
  | cons d r ih =>
    rw [List.any_cons, ih]
    by_cases h : d = c
    · subst h
      simp
    · rw [decide_eq_false h, Bool.false_or]
      refine decide_eq_decide.mpr ?_
      simp only [List.mem_cons]
      exact ⟨.inr, fun z => z.elim (fun q => absurd q.symm h) id⟩
theorem dpAll_p {K : PySem.W.Frag} {H : Hp} : ∀ {vs : List V} {cs : List (Int × Int)}, Paired (RP H) vs cs → DpAll K H vs (cs.map pD)
  | _, _, .nil => .nil
  | _, _, .cons r t => .cons (pD_dp r) (dpAll_p t)
theorem lay_p : ∀ cs : List (Int × Int), PyData.canLayAll0 (cs.map pD) = true
  | [] => by simp [PyData.canLayAll0]
  | c :: cs => by simp [PyData.canLayAll0, pD_lay c, lay_p cs]
theorem depth_p : ∀ cs : List (Int × Int), PyData.depthAll (cs.map pD) ≤ 1
  | [] => by simp [PyData.depthAll]
  | c :: cs => by
    have h1 := depth_p cs
    have h2 := pD_depth c
    simp only [List.map_cons, PyData.depthAll]
    omega
theorem sh_p (cs : List (Int × Int)) : SeqAt.shaped (.list (cs.map pD)) = true := by
  refine shaped_of ?_ ?_
  · simp only [PyData.canLay0]
    exact lay_p cs
  · have := depth_p cs
    simp only [PyData.depth]
    omega
theorem tolds_snoc (f : Cir → Option (Int × Int)) {fs : List Cir} {i : Nat} {c : Cir} (h : fs[i]? = some c) : tolds f (fs.take (i + 1)) = tolds f (fs.take i) ++ ((f c).map fun p => (p, c)).toList := by
  rw [take_snoc h]
  unfold tolds
  rw [List.filterMap_append]
  rw [List.filterMap_cons]
  cases e : f c with
  | none => rfl
  | some p => rfl
theorem tolds_mem {f : Cir → Option (Int × Int)} {fs : List Cir} {a : (Int × Int) × Cir} (h : a ∈ tolds f fs) : a.2 ∈ fs ∧ f a.2 = some a.1 := by
  unfold tolds at h
  obtain ⟨c, hc, e⟩ := List.mem_filterMap.mp h
  cases e' : f c with
  | none => rw [e'] at e; cases e
  | some p =>
    rw [e'] at e
    cases e
    exact ⟨hc, e'⟩
theorem tolds_new {f : Cir → Option (Int × Int)} {fs : List Cir} {i : Nat} {c : Cir} {p : Int × Int} {R : (Int × Int) × Cir → (Int × Int) × Cir → Prop} (h : (tolds f fs).Pairwise R) (hn : ∀ a b, R a b → a.1 ≠ b.1) (hc : fs[i]? = some c) (hp : f c = some p) :
    p ∉ (tolds f (fs.take i)).map Prod.fst := by
  have hd : fs.drop i = c :: fs.drop (i + 1) := by
    obtain ⟨hi, e⟩ := List.getElem?_eq_some_iff.mp hc
    rw [← e]
    exact List.drop_eq_getElem_cons hi
  have e : tolds f fs = tolds f (fs.take i) ++ ((p, c) :: tolds f (fs.drop (i + 1))) := by
    have e1 : tolds f fs = tolds f (fs.take i ++ fs.drop i) := by rw [List.take_append_drop]
    rw [e1]
    unfold tolds
    rw [List.filterMap_append, hd, List.filterMap_cons, hp]
    rfl
  rw [e, List.pairwise_append] at h
  intro hm
  obtain ⟨a, ha, rfl⟩ := List.mem_map.mp hm
  exact hn _ _ (h.2.2 a ha (a.1, c) (List.mem_cons_self ..)) rfl
theorem tolds_len (f : Cir → Option (Int × Int)) (fs : List Cir) : (tolds f fs).length ≤ fs.length := List.length_filterMap_le _ _
/-- what holds of two in their order -/
theorem pw_at {α : Type} {R : α → α → Prop} {l : List α} (h : l.Pairwise R) {i j : Nat} (hij : i < j) {a b : α} (ha : l[i]? = some a) (hb : l[j]? = some b) : R a b := by
  obtain ⟨h1, rfl⟩ := List.getElem?_eq_some_iff.mp ha
  obtain ⟨h2, rfl⟩ := List.getElem?_eq_some_iff.mp hb
  exact List.pairwise_iff_getElem.mp h i j h1 h2 hij
theorem pr_ix {α β : Type} {F : α → β → Prop} {xs : List α} {ys : List β} (h : Paired F xs ys) {i : Nat} (hi : i < ys.length) : ∃ x y, xs[i]? = some x ∧ ys[i]? = some y ∧ F x y := by
  have e : ys[i]? = some ys[i] := List.getElem?_eq_getElem hi
  obtain ⟨x, hx, r⟩ := pr_get' h e
  exact ⟨x, _, hx, e, r⟩
theorem fst_ix {α β : Type} {l : List (α × β)} {i : Nat} {p : α} {c : β} (h1 : (l.map Prod.fst)[i]? = some p) (h2 : (l.map Prod.snd)[i]? = some c) : l[i]? = some (p, c) := by
  rw [List.getElem?_map] at h1 h2
  cases e : l[i]? with
  | none => rw [e] at h1; cases h1
  | some a =>
    rw [e] at h1 h2
    obtain ⟨x, y⟩ := a
    cases h1
    cases h2
    rfl
theorem ne_bl (a b : Bool) : (!decide (V.bl a = V.bl b)) = !(a == b) := by
  cases a <;> cases b <;> rfl
section
variable {P : Program} {w : World} {K : PySem.W.Frag} {mg : Str → Option Value} {base : Heap} {C aN : Addr}
abbrev sLaw : Stmt := top 37
theorem scLaw : FnScope ["_law_script", "_law_numbers_here", "_law_circles", "_law_place", "_law_four_here", "_law_pairs", "_law_told", "_law_circle", "_law_pair", "_law_k", "_law_j"] ["_law_script"] (defScope sLaw) := ⟨rfl, rfl, rfl, by decide +kernel, rfl, by decide +kernel, by decide +kernel⟩
def spLaw (K : PySem.W.Frag) : Sp := fun vs H Q _ => ∃ (a : Addr) (ns : List Int), vs = [.ref a] ∧ SqL K H a (ns.map V.int) ∧ ns.length ≤ 63 ∧ ∀ H', Q (.bl true) H'
theorem ok_law {f : Addr} {fd : FuncData} {fI : Addr} {fdI : FuncData} (T : Txt K mg C aN) (F : Fun K "law" "law" sLaw f fd) (GN : Can P w K mg base 2 "_law_numbers" ["_law_script", "_law_many"] (spNums K)) (GF : Can P w K mg base 2 "_law_four" ["_law_numbers_here", "_law_at"] spFour)
    (M : Mk K C fI) (GI : FnOk P w K mg base CX0 5 fI fdI ["self", "circles"] (spInit C)) (bI : Binds K fdI ["self", "circles"] [])
    (GM : Can P w K mg base 2 "_law_made" ["_law_circles"] spMd) (GP : Can P w K mg base 5 "pair_of" ["four", "number", "circle"] (spPair C)) (GD : Can P w K mg base 1 "_law_double" ["_law_one", "_law_other"] spDbl)
    (GB : Can P w K mg base 4 "circle_by" ["four", "number", "pair"] (spBy C)) (GA : Can P w K mg base 3 "are_neighbours" ["one", "other"] spNb) : FnOk P w K mg base CX0 7 f fd ["_law_script"] (spLaw K) := by
  obtain ⟨fN, fdN, GN, mN, kN, bN⟩ := GN
  obtain ⟨fF, fdF, GF, mF, kF, bF⟩ := GF
  obtain ⟨fM, fdM, GM, mM, kM, bM⟩ := GM
  obtain ⟨fP, fdP, GP, mP, kP, bP⟩ := GP
  obtain ⟨fD, fdD, GD, mD, kD, bD⟩ := GD
  obtain ⟨fB, fdB, GB, mB, kB, bB⟩ := GB
  obtain ⟨fA, fdA, GA, mA, kA, bA⟩ := GA
  refine F.ok scLaw (fun vs H Q E h => ?_) (fun cdv A outer s H vs Q E hr h => ?_)
  · obtain ⟨a, ns, rfl, _⟩ := h
    rfl
  · obtain ⟨a, ns, rfl, hS, hn, q⟩ := h
    have nd := scLaw.nd
    have hu : (A.deeper (envOfC "law" (defScope sLaw) s.heap.objs.size f cdv)).units + 65 < cLine := by have := hr.un; omega
    have hu' : (A.deeper (envOfC "law" (defScope sLaw) s.heap.objs.size f cdv)).units + 64 < cLine := by omega
    refine ⟨_, pss_cons (ps_set (i := 1) nd rfl (Or.inl rfl) (pe_call GN (hr.mono (by decide)) rfl mN kN bN .nil pass0 (pa_cons (pv 0) (pa_cons pe_int pa_nil))))
      (pss_cons (ps_set (i := 2) nd rfl (Or.inl rfl) (pe_call GF (hr.mono (by decide)) rfl mF kF bF .nil pass0 (pa_cons (pv 1) (pa_cons pe_int pa_nil))))
      (pss_cons (ps_set (i := 3) nd rfl (Or.inl rfl) (pe_op op_mod (pe_callTy call_int1 (by rfl) T.int (by decide +kernel) (pa_cons (pe_ix ix_list (pv 1) pe_int (fun _ _ => rfl)) pa_nil)) pe_int))
      (pss_cons (ps_set (i := 4) nd rfl (Or.inl rfl) (pe_make M GI (hr.mono (by decide)) rfl T.mgC bI .nil pass0 (pa_cons (pv 2) pa_nil)))
      (pss_cons (ps_set (i := 5) nd rfl (Or.inl rfl) (pe_lst pa_nil))
      (pss_cons (ps_set (i := 6) nd rfl (Or.inl rfl) (pe_lst pa_nil))
      (pss_cons (ps_for PassesOwn.never rfl (pi_list (pe_call GM (hr.mono (by decide)) rfl mM kM bM .nil pass0 (pa_cons (pv 2) pa_nil))) (pg_name (i := 7) nd rfl (Or.inl rfl))
        (pss_cons (ps_set (i := 8) nd rfl (Or.inl rfl) (pe_call GP (hr.mono (by decide)) rfl mP kP bP .nil pass0 (pa_cons (pv 4) (pa_cons (pe_op op_add (pv 3) pe_int) (pa_cons (pv 7) pa_nil)))))
        (pss_cons (ps_if (pt_cmpR op_ne (pe_cmpR op_notN (pv 8) pe_non (nomark _)) (pe_cmpR op_eq (pe_call GD (hr.mono (by decide)) rfl mD kD bD .nil pass0 (pa_cons (pv 7) (pa_cons (pe_ix ix_list (pv 2) (pv 3) (fun _ _ => rfl)) pa_nil))) (pe_un un_neg pe_int) (nomark _)) (nomark _)) (pss_one (ps_ret pe_bl)) pss_nil)
        (pss_one (ps_if (pt_cmpR op_notN (pv 8) pe_non (nomark _))
          (pss_cons (ps_if (PW.pt (pw_or (pt_cmpR (op_neD hu') (pe_call GB (hr.mono (by decide)) rfl mB kB bB .nil pass0 (pa_cons (pv 4) (pa_cons (pe_op op_add (pv 3) pe_int) (pa_cons (pv 8) pa_nil)))) (pv 7) (nomark _)) (pw_or1 (pt_cmpR (op_inD hu) (pv 8) (pv 5) rfl)))) (pss_one (ps_ret pe_bl)) pss_nil)
          (pss_cons (ps_expr (pe_bm PySem.F.plainAttrs_list PySem.F.slot_list_append PySem.F.type_list_append mt_append (pv 5) (pa_cons (pv 8) pa_nil)))
          (pss_one (ps_expr (pe_bm PySem.F.plainAttrs_list PySem.F.slot_list_append PySem.F.type_list_append mt_append (pv 6) (pa_cons (pv 7) pa_nil)))))) pss_nil)))))
      (pss_cons (ps_for PassesOwn.never rfl (pi_range1 rfl T.range (pa_cons (pe_callB call_len_seq (by rfl) T.len PySem.boot_len (pa_cons (pv 5) pa_nil)) pa_nil)) (pg_name (i := 9) nd rfl (Or.inl rfl))
        (pss_one (ps_for PassesOwn.never rfl (pi_range1 rfl T.range (pa_cons (pv 9) pa_nil)) (pg_name (i := 10) nd rfl (Or.inl rfl))
          (pss_one (ps_if (pt_cmpR op_ne (pe_call GA (hr.mono (by decide)) rfl mA kA bA .nil pass0 (pa_cons (pe_ix ix_list (pv 5) (pv 9) (fun _ _ => rfl)) (pa_cons (pe_ix ix_list (pv 5) (pv 10) (fun _ _ => rfl)) pa_nil)))
            (pe_cmpR op_eq (pe_call GD (hr.mono (by decide)) rfl mD kD bD .nil pass0 (pa_cons (pe_ix ix_list (pv 6) (pv 9) (fun _ _ => rfl)) (pa_cons (pe_ix ix_list (pv 6) (pv 10) (fun _ _ => rfl)) pa_nil))) (pe_un un_neg pe_int) (nomark _)) (nomark _)) (pss_one (ps_ret pe_bl)) pss_nil)))))
      (pss_one (ps_ret pe_bl))))))))), ?_⟩
    -- numbers, four circles
    refine ⟨_, rfl, a, ns, rfl, hS, hn, fun l1 ms H1 s1 n1 h1 hm _ => ?_⟩
    refine ⟨_, rfl, l1, ms, rfl, h1, hm, fun l2 cs H2 s2 n2 L2 hg hb => ?_⟩
    have h12 := s2 _ _ h1
    -- place
    obtain ⟨k, ek, lk⟩ := mod_nat (nAt ms 16) (show (0 : Int) < 4 by decide)
    have hk : k < 4 := by omega
    refine ⟨_, rfl, l1, _, _, _, rfl, rfl, SqL.of h12, at_of (j := 16) rfl (n_ix hm (by decide)), .inl ⟨_, rfl, _, _, rfl, rfl, (by show (0 : Int) < 4; decide), ?_⟩⟩
    rw [show (fun i j : Int => V.int (i % j)) (nAt ms 16) 4 = V.int ((k : Nat) : Int) from congrArg V.int ek]
    have hlen : cs.length = 4 := hg.len
    have oks : ∀ d ∈ cs, OkC d := fun d hd => ⟨hg.mem hd, (hb d hd).mono (by decide)⟩
    have okf : ∀ d ∈ fnd cs 3, OkC d := fun d hd => by
      obtain ⟨e1, e2⟩ := fnd_good (show (0 : Int) ≤ 16807000 by decide) hg hb hd
      exact ⟨e1, e2.mono (by decide)⟩
    have R := res_ok hg hk
    -- the four
    refine ⟨_, rfl, fun x dx nx ndx nex => ?_⟩
    refine ⟨x, l2, dx, cs, rfl, upd_same, L2.mono RC.mono (fun b o e => by rw [upd_ne (ne_of_none e nx), upd_ne (ne_of_none e ndx)]; exact e), hg, oks, fun Tt H3 F3 k3 => ⟨rfl, ?_⟩⟩
    have s3 : Same H2 H3 := Same.made nx ndx k3
    have L3 := L2.mono RC.mono s3
    -- pairs, told
    refine ⟨Nat.zero_le _, fun PD nP => ?_⟩
    refine ⟨Nat.zero_le _, fun TD nT => ?_⟩
    have s4 : Same H3 (upd (upd H3 PD (.lst [])) TD (.lst [])) := (same_upd nP).trans (same_upd nT)
    have PT : PD ≠ TD := ne_of_none (show upd H3 PD (.lst []) PD = some _ from upd_same) nT
    have eP : upd (upd H3 PD (.lst [])) TD (.lst []) PD = some (.lst []) := by rw [upd_ne PT, upd_same]
    have eT : upd (upd H3 PD (.lst [])) TD (.lst []) TD = some (.lst []) := upd_same
    have L4 := L3.mono RC.mono s4
    have F4 := F3.mono s4
    generalize upd (upd H3 PD (.lst [])) TD (.lst []) = H4 at eP eT L4 F4 ⊢
    -- all that is made
    refine ⟨_, rfl, l2, cs, rfl, L4, hg, fun FA H5 s5 nF L5 => ?_⟩
    have eP5 := s5 _ _ eP
    have eT5 := s5 _ _ eT
    have F5 := F4.mono s5
    have PF : FA ≠ PD := (ne_of_none eP nF).symm
    have TF : FA ≠ TD := (ne_of_none eT nF).symm
    obtain ⟨cv, hcv, prC⟩ := L4.mono RC.mono s5
    obtain ⟨fv, hfv, prF⟩ := L5
    have cP : l2 ≠ PD := fun e => by
      rw [e, eP5] at hcv
      cases hcv
      have := pr_len prC
      rw [hlen] at this
      exact absurd this (by decide)
    have cT : l2 ≠ TD := fun e => by
      rw [e, eT5] at hcv
      cases hcv
      have := pr_len prC
      rw [hlen] at this
      exact absurd this (by decide)
    have lenF : (fnd cs 3).length ≤ 340 := fnd_len hg 3 (by decide)
    have loopT : ∀ i, (tolds (pairOf cs k) ((fnd cs 3).take i)).length ≤ 340 := fun i => Nat.le_trans (tolds_len _ _) (Nat.le_trans (by rw [List.length_take]; omega) lenF)
    refine ⟨FA, rfl, ⟨_, SqL.of hfv⟩, for_list (K := K) (a := FA) (xs := fv) (fun i σ H' => ∃ (pv tv : List V) (v7 v8 : Option V), σ = [some (.ref a), some (.ref l1), some (.ref l2), some (.int (k : Nat)), some (.ref x), some (.ref PD), some (.ref TD), v7, v8, none, none] ∧ Kp PD TD H5 H' ∧
      H' PD = some (.lst pv) ∧ H' TD = some (.lst tv) ∧ Paired (RP H') pv ((tolds (pairOf cs k) ((fnd cs 3).take i)).map Prod.fst) ∧ Paired (RC H') tv ((tolds (pairOf cs k) ((fnd cs 3).take i)).map Prod.snd))
      ⟨[], [], none, none, rfl, Kp.refl, eP5, eT5, .nil, .nil⟩ (fun i σ H' _ ⟨_, _, _, _, _, k', _⟩ => SqL.of (k' _ _ hfv PF TF)) ?_ ?_⟩
    · rintro i y σ H' hi ⟨pv, tv, v7, v8, rfl, kp, hP, hT, prP, prT⟩
      obtain ⟨c, hc, rc5⟩ := pr_get prF hi
      have hcm := List.mem_of_getElem? hc
      have rc := RC.kp eP5 eT5 kp rc5
      obtain ⟨ci, cj, cl, cm, ecr, z1, z2, z3, z4⟩ := R.sm c hcm
      refine ⟨_, rfl, _, rfl, _, _, rfl, rfl, _, rfl, x, Tt, cs, k, y, c, ci, cj, cl, cm, rfl, F5.kp eP5 eT5 kp, hlen, hk, rc, okf c hcm, oks, ecr, z1, z2, z3, z4, fun v H6 s6 ro => ?_⟩
      have kp6 := kp.same s6
      have rc6 := RC.mono _ _ _ _ s6 rc
      obtain ⟨vo, hvo, ro5⟩ := lof_get (R := RC) prC (i := k) (by omega)
      have ro6 := RC.kp eP5 eT5 kp6 ro5
      have hcv6 := kp6 _ _ hcv cP cT
      have hP6 := s6 _ _ hP
      have hT6 := s6 _ _ hT
      have prP6 := Paired.mapP prP fun v' p' r' => RP.mono _ _ _ _ s6 r'
      have prT6 := Paired.mapP prT fun v' p' r' => RC.mono _ _ _ _ s6 r'
      have em := R.mem c hcm
      rw [tolds_snoc _ hc]
      -- the first test
      refine ⟨_, rfl, rfl, _, rfl, _, rfl, _, rfl, l2, _, _, vo, rfl, rfl, SqL.of hcv6, at_of (j := k) rfl hvo, y, vo, c, own cs k, rfl, rc6, ro6, okf c hcm, oks _ (List.mem_of_getElem? (own_get (cs := cs) (k := k) (by omega))), _, rfl, rfl, rfl, _, rfl, ?_⟩
      rw [ne_bl]
      cases ep : pairOf cs k c with
      | none =>
        rw [ep] at ro em
        replace em : decide (dbl c (own cs k) = -2) = false := em.symm
        obtain rfl : v = .non := ro
        rw [dec_int, beq_dec, em]
        refine iteF ⟨_, rfl, rfl, _, rfl, iteF ⟨pv, tv, _, _, rfl, kp6, hP6, hT6, ?_, ?_⟩⟩
        · simpa using prP6
        · simpa using prT6
      | some p =>
        rw [ep] at ro em
        replace em : decide (dbl c (own cs k) = -2) = true := em.symm
        obtain ⟨ap, rfl, hap⟩ : RP H6 v p := ro
        obtain ⟨fitp, eby⟩ := R.ok c hcm p ep
        have rp6 : RP H6 (.ref ap) p := ⟨ap, rfl, hap⟩
        have nn : decide (V.ref ap = V.non) = false := decide_eq_false (fun z => nomatch z)
        rw [dec_int, beq_dec, em, nn]
        refine iteF ⟨_, rfl, rfl, _, rfl, ?_⟩
        rw [nn]
        refine iteT ?_
        -- circle_by
        refine ⟨_, rfl, _, rfl, _, _, rfl, rfl, _, rfl, x, Tt, cs, k, _, p, rfl, F5.kp eP5 eT5 kp6, hlen, hk, rp6, fit_of fitp, fun v' H7 s7 r7 => ?_⟩
        rw [eby] at r7
        have kp7 := kp6.same s7
        have rc7 := RC.mono _ _ _ _ s7 rc6
        have rp7 := RP.mono _ _ _ _ s7 rp6
        have hP7 := s7 _ _ hP6
        have hT7 := s7 _ _ hT6
        have prP7 := Paired.mapP prP6 fun v' p' r' => RP.mono _ _ _ _ s7 r'
        have prT7 := Paired.mapP prT6 fun v' p' r' => RC.mono _ _ _ _ s7 r'
        have newp : p ∉ (tolds (pairOf cs k) ((fnd cs 3).take i)).map Prod.fst := tolds_new R.pw (fun _ _ z => z.1) hc ep
        have lP : pv.length ≤ 340 := by rw [pr_len prP7, List.length_map]; exact loopT i
        have lT : tv.length ≤ 340 := by rw [pr_len prT7, List.length_map]; exact loopT i
        generalize tolds (pairOf cs k) ((fnd cs 3).take i) = L at prP7 prT7 newp ⊢
        refine ⟨_, rfl, cD c, cD c, cD_dp r7, cD_dp rc7, cD_sh c, cD_sh c, _, rfl, ?_⟩
        rw [cD_eqv, decide_eq_true rfl]
        refine iteF ⟨_, rfl, _, rfl, pD p, (L.map Prod.fst).map pD, pD_dp rp7, .lst (SqL.of hP7) (dpAll_p prP7), pD_sh p, sh_p _, _, rfl, ?_⟩
        rw [any_memP, decide_eq_false newp]
        refine iteF ?_
        -- the two appends
        refine ⟨_, rfl, .inl ⟨rfl, _, SqL.of hP7⟩, _, rfl, PD, _, _, rfl, rfl, hP7, small_line (by omega), ?_⟩
        have hT8 : upd H7 PD (.lst (pv ++ [.ref ap])) TD = some (.lst tv) := by rw [upd_ne PT.symm]; exact hT7
        refine ⟨_, rfl, .inl ⟨rfl, _, SqL.of hT8⟩, _, rfl, TD, _, _, rfl, rfl, hT8, small_line (by omega), ?_⟩
        refine ⟨pv ++ [.ref ap], tv ++ [y], _, _, rfl, kp7.updD.updE, by rw [upd_ne PT]; exact upd_same, upd_same, ?_, ?_⟩
        · rw [List.map_append]
          exact pr_append (Paired.mapP prP7 fun v' p' r' => RP.stab _ _ _ _ _ _ hT8 (RP.stab _ _ _ _ _ _ hP7 r')) (.cons (RP.stab _ _ _ _ _ _ hT8 (RP.stab _ _ _ _ _ _ hP7 rp7)) .nil)
        · rw [List.map_append]
          exact pr_append (Paired.mapP prT7 fun v' p' r' => RC.stab _ _ _ _ _ _ hT8 (RC.stab _ _ _ _ _ _ hP7 r')) (.cons (RC.stab _ _ _ _ _ _ hT8 (RC.stab _ _ _ _ _ _ hP7 rc7)) .nil)
    · rintro σ H' ⟨pv, tv, v7, v8, rfl, kp, hP, hT, prP, prT⟩
      rw [show fv.length = (fnd cs 3).length from pr_len prF, List.take_length] at prP prT
      have lenT : (tolds (pairOf cs k) (fnd cs 3)).length ≤ 340 := Nat.le_trans (tolds_len _ _) lenF
      have memT : ∀ a ∈ tolds (pairOf cs k) (fnd cs 3), FitP a.1 ∧ OkC a.2 := fun a ha => by
        obtain ⟨h1, h2⟩ := tolds_mem ha
        exact ⟨fit_of (R.ok _ h1 _ h2).1, okf _ h1⟩
      have pw := R.pw
      generalize tolds (pairOf cs k) (fnd cs 3) = L at prP prT lenT memT pw
      have lP : pv.length = L.length := by rw [pr_len prP, List.length_map]
      refine ⟨_, rfl, PD, _, rfl, .inl (SqL.of hP), _, rfl, by omega, by omega, for_range (lo := 0) (n := pv.length) (fun t σ H2 => ∃ v9 v10 : Option V, σ = [some (.ref a), some (.ref l1), some (.ref l2), some (.int (k : Nat)), some (.ref x), some (.ref PD), some (.ref TD), v7, v8, v9, v10] ∧ Same H' H2)
        ⟨none, none, rfl, Same.refl _⟩ ?_ ?_⟩
      · rintro t σ H2 ht ⟨v9, v10, rfl, s2'⟩
        refine ⟨_, rfl, _, rfl, by omega, by omega, ?_⟩
        rw [show (0 : Int) + ((t : Nat) : Int) = ((t : Nat) : Int) from Int.zero_add _]
        refine for_range (lo := 0) (n := t) (fun j σ H3 => ∃ v10 : Option V, σ = [some (.ref a), some (.ref l1), some (.ref l2), some (.int (k : Nat)), some (.ref x), some (.ref PD), some (.ref TD), v7, v8, some (.int ((t : Nat) : Int)), v10] ∧ Same H' H3) ⟨_, rfl, s2'⟩ ?_ ?_
        · rintro j σ H3 hj ⟨v10, rfl, s3'⟩
          rw [show (0 : Int) + ((j : Nat) : Int) = ((j : Nat) : Int) from Int.zero_add _]
          obtain ⟨p1, q1, hp1, hq1, r1⟩ := pr_ix prP (i := t) (by rw [List.length_map]; omega)
          obtain ⟨p2, q2, hp2, hq2, r2⟩ := pr_ix prP (i := j) (by rw [List.length_map]; omega)
          obtain ⟨c1, d1, hc1, hd1, u1⟩ := pr_ix prT (i := t) (by rw [List.length_map]; omega)
          obtain ⟨c2, d2, hc2, hd2, u2⟩ := pr_ix prT (i := j) (by rw [List.length_map]; omega)
          have e1 := fst_ix hq1 hd1
          have e2 := fst_ix hq2 hd2
          obtain ⟨f1, o1⟩ := memT _ (List.mem_of_getElem? e1)
          obtain ⟨f2, o2⟩ := memT _ (List.mem_of_getElem? e2)
          have hpw := (pw_at pw hj e2 e1).2
          have hP3 := s3' _ _ hP
          refine ⟨_, rfl, _, rfl, PD, _, _, p1, rfl, rfl, SqL.of hP3, at_of (j := t) rfl hp1, _, rfl, _, rfl, PD, _, _, p2, rfl, rfl, SqL.of hP3, at_of (j := j) rfl hp2, p1, p2, q1, q2, rfl, RP.mono _ _ _ _ s3' r1, RP.mono _ _ _ _ s3' r2, f1, f2, fun H4' s4' => ?_⟩
          have s34 := s3'.trans s4'
          have hT4 := s34 _ _ hT
          refine ⟨_, rfl, _, rfl, TD, _, _, c1, rfl, rfl, SqL.of hT4, at_of (j := t) rfl hc1, _, rfl, _, rfl, TD, _, _, c2, rfl, rfl, SqL.of hT4, at_of (j := j) rfl hc2, c1, c2, d1, d2, rfl, RC.mono _ _ _ _ s34 u1, RC.mono _ _ _ _ s34 u2, o1, o2, _, rfl, rfl, rfl, _, rfl, ?_⟩
          rw [ne_bl, dec_int, beq_dec, hpw]
          exact iteF ⟨_, rfl, s34⟩
        · rintro σ H3 ⟨v10, rfl, s3'⟩
          exact ⟨_, _, rfl, s3'⟩
      · rintro σ H2 ⟨v9, v10, rfl, s2'⟩
        exact q H2
end
end K45W

set_option maxRecDepth 100000
set_option maxHeartbeats 4000000
namespace K45W
open PySem PySem.Spec PyProof.Rows L2 K45 K45R
section
variable {w : World} {K : PySem.W.Frag} {h : Heap} {mg : Str → Option Value} {C aN : Addr}
/-! ### each def as it stands -/
theorem st8 (X : K.In h) (N : h.Ns mainGlobals mg) {f : Addr} {od an : Option Addr} {sl : Array (Option Value)} {oc kV dc pm cd ct : Value} (a : PySem.W.nsIn K mainGlobals "is_circle" = some (some (.ref f)))
    (l : K.lookup f = some ⟨oc, od, .func (PySem.W.fnOf "is_circle" "is_circle" (defArgs (top 8)) (defBody (top 8)) (defScope (top 8)) .none kV dc pm an cd ct), sl⟩) (c : PySem.W.codeIn K cd "is_circle" = true) (k : PySem.W.keepIn K (.ref f) = true) : Stands K mg "is_circle" (top 8) ["circle"] := by
  have F := fun_mk (st := top 8) l c k
  exact ⟨f, _, F, PySem.W.mg_of X N a, F.binds (ps := ["circle"]) fun _ _ _ _ _ _ us hl => match us, hl with | [_], _ => rfl⟩
theorem st9 (X : K.In h) (N : h.Ns mainGlobals mg) {f : Addr} {od an : Option Addr} {sl : Array (Option Value)} {oc kV dc pm cd ct : Value} (a : PySem.W.nsIn K mainGlobals "check_circle" = some (some (.ref f)))
    (l : K.lookup f = some ⟨oc, od, .func (PySem.W.fnOf "check_circle" "check_circle" (defArgs (top 9)) (defBody (top 9)) (defScope (top 9)) .none kV dc pm an cd ct), sl⟩) (c : PySem.W.codeIn K cd "check_circle" = true) (k : PySem.W.keepIn K (.ref f) = true) : Stands K mg "check_circle" (top 9) ["circle"] := by
  have F := fun_mk (st := top 9) l c k
  exact ⟨f, _, F, PySem.W.mg_of X N a, F.binds (ps := ["circle"]) fun _ _ _ _ _ _ us hl => match us, hl with | [_], _ => rfl⟩
theorem st10 (X : K.In h) (N : h.Ns mainGlobals mg) {f : Addr} {od an : Option Addr} {sl : Array (Option Value)} {oc kV dc pm cd ct : Value} (a : PySem.W.nsIn K mainGlobals "double" = some (some (.ref f)))
    (l : K.lookup f = some ⟨oc, od, .func (PySem.W.fnOf "double" "double" (defArgs (top 10)) (defBody (top 10)) (defScope (top 10)) .none kV dc pm an cd ct), sl⟩) (c : PySem.W.codeIn K cd "double" = true) (k : PySem.W.keepIn K (.ref f) = true) : Stands K mg "double" (top 10) ["one", "other"] := by
  have F := fun_mk (st := top 10) l c k
  exact ⟨f, _, F, PySem.W.mg_of X N a, F.binds (ps := ["one", "other"]) fun _ _ _ _ _ _ us hl => match us, hl with | [_, _], _ => rfl⟩
theorem st11 (X : K.In h) (N : h.Ns mainGlobals mg) {f : Addr} {od an : Option Addr} {sl : Array (Option Value)} {oc kV dc pm cd ct : Value} (a : PySem.W.nsIn K mainGlobals "are_outward" = some (some (.ref f)))
    (l : K.lookup f = some ⟨oc, od, .func (PySem.W.fnOf "are_outward" "are_outward" (defArgs (top 11)) (defBody (top 11)) (defScope (top 11)) .none kV dc pm an cd ct), sl⟩) (c : PySem.W.codeIn K cd "are_outward" = true) (k : PySem.W.keepIn K (.ref f) = true) : Stands K mg "are_outward" (top 11) ["one", "other"] := by
  have F := fun_mk (st := top 11) l c k
  exact ⟨f, _, F, PySem.W.mg_of X N a, F.binds (ps := ["one", "other"]) fun _ _ _ _ _ _ us hl => match us, hl with | [_, _], _ => rfl⟩
theorem st12 (X : K.In h) (N : h.Ns mainGlobals mg) {f : Addr} {od an : Option Addr} {sl : Array (Option Value)} {oc kV dc pm cd ct : Value} (a : PySem.W.nsIn K mainGlobals "touch" = some (some (.ref f)))
    (l : K.lookup f = some ⟨oc, od, .func (PySem.W.fnOf "touch" "touch" (defArgs (top 12)) (defBody (top 12)) (defScope (top 12)) .none kV dc pm an cd ct), sl⟩) (c : PySem.W.codeIn K cd "touch" = true) (k : PySem.W.keepIn K (.ref f) = true) : Stands K mg "touch" (top 12) ["one", "other"] := by
  have F := fun_mk (st := top 12) l c k
  exact ⟨f, _, F, PySem.W.mg_of X N a, F.binds (ps := ["one", "other"]) fun _ _ _ _ _ _ us hl => match us, hl with | [_, _], _ => rfl⟩
theorem st15 (X : K.In h) (N : h.Ns mainGlobals mg) {f : Addr} {od an : Option Addr} {sl : Array (Option Value)} {oc kV dc pm cd ct : Value} (a : PySem.W.nsIn K mainGlobals "check_number" = some (some (.ref f)))
    (l : K.lookup f = some ⟨oc, od, .func (PySem.W.fnOf "check_number" "check_number" (defArgs (top 15)) (defBody (top 15)) (defScope (top 15)) .none kV dc pm an cd ct), sl⟩) (c : PySem.W.codeIn K cd "check_number" = true) (k : PySem.W.keepIn K (.ref f) = true) : Stands K mg "check_number" (top 15) ["number"] := by
  have F := fun_mk (st := top 15) l c k
  exact ⟨f, _, F, PySem.W.mg_of X N a, F.binds (ps := ["number"]) fun _ _ _ _ _ _ us hl => match us, hl with | [_], _ => rfl⟩
theorem st19 (X : K.In h) (N : h.Ns mainGlobals mg) {f : Addr} {od an : Option Addr} {sl : Array (Option Value)} {oc kV dc pm cd ct : Value} (a : PySem.W.nsIn K mainGlobals "normal" = some (some (.ref f)))
    (l : K.lookup f = some ⟨oc, od, .func (PySem.W.fnOf "normal" "normal" (defArgs (top 19)) (defBody (top 19)) (defScope (top 19)) .none kV dc pm an cd ct), sl⟩) (c : PySem.W.codeIn K cd "normal" = true) (k : PySem.W.keepIn K (.ref f) = true) : Stands K mg "normal" (top 19) ["pair"] := by
  have F := fun_mk (st := top 19) l c k
  exact ⟨f, _, F, PySem.W.mg_of X N a, F.binds (ps := ["pair"]) fun _ _ _ _ _ _ us hl => match us, hl with | [_], _ => rfl⟩
theorem st20 (X : K.In h) (N : h.Ns mainGlobals mg) {f : Addr} {od an : Option Addr} {sl : Array (Option Value)} {oc kV dc pm cd ct : Value} (a : PySem.W.nsIn K mainGlobals "told" = some (some (.ref f)))
    (l : K.lookup f = some ⟨oc, od, .func (PySem.W.fnOf "told" "told" (defArgs (top 20)) (defBody (top 20)) (defScope (top 20)) .none kV dc pm an cd ct), sl⟩) (c : PySem.W.codeIn K cd "told" = true) (k : PySem.W.keepIn K (.ref f) = true) : Stands K mg "told" (top 20) ["pair"] := by
  have F := fun_mk (st := top 20) l c k
  exact ⟨f, _, F, PySem.W.mg_of X N a, F.binds (ps := ["pair"]) fun _ _ _ _ _ _ us hl => match us, hl with | [_], _ => rfl⟩
theorem st21 (X : K.In h) (N : h.Ns mainGlobals mg) {f : Addr} {od an : Option Addr} {sl : Array (Option Value)} {oc kV dc pm cd ct : Value} (a : PySem.W.nsIn K mainGlobals "parted" = some (some (.ref f)))
    (l : K.lookup f = some ⟨oc, od, .func (PySem.W.fnOf "parted" "parted" (defArgs (top 21)) (defBody (top 21)) (defScope (top 21)) .none kV dc pm an cd ct), sl⟩) (c : PySem.W.codeIn K cd "parted" = true) (k : PySem.W.keepIn K (.ref f) = true) : Stands K mg "parted" (top 21) ["four", "number"] := by
  have F := fun_mk (st := top 21) l c k
  exact ⟨f, _, F, PySem.W.mg_of X N a, F.binds (ps := ["four", "number"]) fun _ _ _ _ _ _ us hl => match us, hl with | [_, _], _ => rfl⟩
theorem st22 (X : K.In h) (N : h.Ns mainGlobals mg) {f : Addr} {od an : Option Addr} {sl : Array (Option Value)} {oc kV dc pm cd ct : Value} (a : PySem.W.nsIn K mainGlobals "circle_by" = some (some (.ref f)))
    (l : K.lookup f = some ⟨oc, od, .func (PySem.W.fnOf "circle_by" "circle_by" (defArgs (top 22)) (defBody (top 22)) (defScope (top 22)) .none kV dc pm an cd ct), sl⟩) (c : PySem.W.codeIn K cd "circle_by" = true) (k : PySem.W.keepIn K (.ref f) = true) : Stands K mg "circle_by" (top 22) ["four", "number", "pair"] := by
  have F := fun_mk (st := top 22) l c k
  exact ⟨f, _, F, PySem.W.mg_of X N a, F.binds (ps := ["four", "number", "pair"]) fun _ _ _ _ _ _ us hl => match us, hl with | [_, _, _], _ => rfl⟩
theorem st23 (X : K.In h) (N : h.Ns mainGlobals mg) {f : Addr} {od an : Option Addr} {sl : Array (Option Value)} {oc kV dc pm cd ct : Value} (a : PySem.W.nsIn K mainGlobals "made" = some (some (.ref f)))
    (l : K.lookup f = some ⟨oc, od, .func (PySem.W.fnOf "made" "made" (defArgs (top 23)) (defBody (top 23)) (defScope (top 23)) .none kV dc pm an cd ct), sl⟩) (c : PySem.W.codeIn K cd "made" = true) (k : PySem.W.keepIn K (.ref f) = true) : Stands K mg "made" (top 23) ["own", "others", "pair"] := by
  have F := fun_mk (st := top 23) l c k
  exact ⟨f, _, F, PySem.W.mg_of X N a, F.binds (ps := ["own", "others", "pair"]) fun _ _ _ _ _ _ us hl => match us, hl with | [_, _, _], _ => rfl⟩
theorem st24 (X : K.In h) (N : h.Ns mainGlobals mg) {f : Addr} {od an : Option Addr} {sl : Array (Option Value)} {oc kV dc pm cd ct : Value} (a : PySem.W.nsIn K mainGlobals "coordinates_of" = some (some (.ref f)))
    (l : K.lookup f = some ⟨oc, od, .func (PySem.W.fnOf "coordinates_of" "coordinates_of" (defArgs (top 24)) (defBody (top 24)) (defScope (top 24)) .none kV dc pm an cd ct), sl⟩) (c : PySem.W.codeIn K cd "coordinates_of" = true) (k : PySem.W.keepIn K (.ref f) = true) : Stands K mg "coordinates_of" (top 24) ["four", "circle"] := by
  have F := fun_mk (st := top 24) l c k
  exact ⟨f, _, F, PySem.W.mg_of X N a, F.binds (ps := ["four", "circle"]) fun _ _ _ _ _ _ us hl => match us, hl with | [_, _], _ => rfl⟩
theorem st25 (X : K.In h) (N : h.Ns mainGlobals mg) {f : Addr} {od an : Option Addr} {sl : Array (Option Value)} {oc kV dc pm cd ct : Value} (a : PySem.W.nsIn K mainGlobals "pair_of" = some (some (.ref f)))
    (l : K.lookup f = some ⟨oc, od, .func (PySem.W.fnOf "pair_of" "pair_of" (defArgs (top 25)) (defBody (top 25)) (defScope (top 25)) .none kV dc pm an cd ct), sl⟩) (c : PySem.W.codeIn K cd "pair_of" = true) (k : PySem.W.keepIn K (.ref f) = true) : Stands K mg "pair_of" (top 25) ["four", "number", "circle"] := by
  have F := fun_mk (st := top 25) l c k
  exact ⟨f, _, F, PySem.W.mg_of X N a, F.binds (ps := ["four", "number", "circle"]) fun _ _ _ _ _ _ us hl => match us, hl with | [_, _, _], _ => rfl⟩
theorem st26 (X : K.In h) (N : h.Ns mainGlobals mg) {f : Addr} {od an : Option Addr} {sl : Array (Option Value)} {oc kV dc pm cd ct : Value} (a : PySem.W.nsIn K mainGlobals "crossed" = some (some (.ref f)))
    (l : K.lookup f = some ⟨oc, od, .func (PySem.W.fnOf "crossed" "crossed" (defArgs (top 26)) (defBody (top 26)) (defScope (top 26)) .none kV dc pm an cd ct), sl⟩) (c : PySem.W.codeIn K cd "crossed" = true) (k : PySem.W.keepIn K (.ref f) = true) : Stands K mg "crossed" (top 26) ["one", "other"] := by
  have F := fun_mk (st := top 26) l c k
  exact ⟨f, _, F, PySem.W.mg_of X N a, F.binds (ps := ["one", "other"]) fun _ _ _ _ _ _ us hl => match us, hl with | [_, _], _ => rfl⟩
theorem st27 (X : K.In h) (N : h.Ns mainGlobals mg) {f : Addr} {od an : Option Addr} {sl : Array (Option Value)} {oc kV dc pm cd ct : Value} (a : PySem.W.nsIn K mainGlobals "are_neighbours" = some (some (.ref f)))
    (l : K.lookup f = some ⟨oc, od, .func (PySem.W.fnOf "are_neighbours" "are_neighbours" (defArgs (top 27)) (defBody (top 27)) (defScope (top 27)) .none kV dc pm an cd ct), sl⟩) (c : PySem.W.codeIn K cd "are_neighbours" = true) (k : PySem.W.keepIn K (.ref f) = true) : Stands K mg "are_neighbours" (top 27) ["one", "other"] := by
  have F := fun_mk (st := top 27) l c k
  exact ⟨f, _, F, PySem.W.mg_of X N a, F.binds (ps := ["one", "other"]) fun _ _ _ _ _ _ us hl => match us, hl with | [_, _], _ => rfl⟩
theorem st29 (X : K.In h) (N : h.Ns mainGlobals mg) {f : Addr} {od an : Option Addr} {sl : Array (Option Value)} {oc kV dc pm cd ct : Value} (a : PySem.W.nsIn K mainGlobals "_law_row" = some (some (.ref f)))
    (l : K.lookup f = some ⟨oc, od, .func (PySem.W.fnOf "_law_row" "_law_row" (defArgs (top 29)) (defBody (top 29)) (defScope (top 29)) .none kV dc pm an cd ct), sl⟩) (c : PySem.W.codeIn K cd "_law_row" = true) (k : PySem.W.keepIn K (.ref f) = true) : Stands K mg "_law_row" (top 29) ["_law_cell", "_law_many"] := by
  have F := fun_mk (st := top 29) l c k
  exact ⟨f, _, F, PySem.W.mg_of X N a, F.binds (ps := ["_law_cell", "_law_many"]) fun _ _ _ _ _ _ us hl => match us, hl with | [_, _], _ => rfl⟩
theorem st30 (X : K.In h) (N : h.Ns mainGlobals mg) {f : Addr} {od an : Option Addr} {sl : Array (Option Value)} {oc kV dc pm cd ct : Value} (a : PySem.W.nsIn K mainGlobals "_law_numbers" = some (some (.ref f)))
    (l : K.lookup f = some ⟨oc, od, .func (PySem.W.fnOf "_law_numbers" "_law_numbers" (defArgs (top 30)) (defBody (top 30)) (defScope (top 30)) .none kV dc pm an cd ct), sl⟩) (c : PySem.W.codeIn K cd "_law_numbers" = true) (k : PySem.W.keepIn K (.ref f) = true) : Stands K mg "_law_numbers" (top 30) ["_law_script", "_law_many"] := by
  have F := fun_mk (st := top 30) l c k
  exact ⟨f, _, F, PySem.W.mg_of X N a, F.binds (ps := ["_law_script", "_law_many"]) fun _ _ _ _ _ _ us hl => match us, hl with | [_, _], _ => rfl⟩
theorem st31 (X : K.In h) (N : h.Ns mainGlobals mg) {f : Addr} {od an : Option Addr} {sl : Array (Option Value)} {oc kV dc pm cd ct : Value} (a : PySem.W.nsIn K mainGlobals "_law_base" = some (some (.ref f)))
    (l : K.lookup f = some ⟨oc, od, .func (PySem.W.fnOf "_law_base" "_law_base" (defArgs (top 31)) (defBody (top 31)) (defScope (top 31)) .none kV dc pm an cd ct), sl⟩) (c : PySem.W.codeIn K cd "_law_base" = true) (k : PySem.W.keepIn K (.ref f) = true) : Stands K mg "_law_base" (top 31) ["_law_kind", "_law_n"] := by
  have F := fun_mk (st := top 31) l c k
  exact ⟨f, _, F, PySem.W.mg_of X N a, F.binds (ps := ["_law_kind", "_law_n"]) fun _ _ _ _ _ _ us hl => match us, hl with | [_, _], _ => rfl⟩
theorem st32 (X : K.In h) (N : h.Ns mainGlobals mg) {f : Addr} {od an : Option Addr} {sl : Array (Option Value)} {oc kV dc pm cd ct : Value} (a : PySem.W.nsIn K mainGlobals "_law_moved" = some (some (.ref f)))
    (l : K.lookup f = some ⟨oc, od, .func (PySem.W.fnOf "_law_moved" "_law_moved" (defArgs (top 32)) (defBody (top 32)) (defScope (top 32)) .none kV dc pm an cd ct), sl⟩) (c : PySem.W.codeIn K cd "_law_moved" = true) (k : PySem.W.keepIn K (.ref f) = true) : Stands K mg "_law_moved" (top 32) ["_law_circle", "_law_s", "_law_t", "_law_turns", "_law_mirror"] := by
  have F := fun_mk (st := top 32) l c k
  exact ⟨f, _, F, PySem.W.mg_of X N a, F.binds (ps := ["_law_circle", "_law_s", "_law_t", "_law_turns", "_law_mirror"]) fun _ _ _ _ _ _ us hl => match us, hl with | [_, _, _, _, _], _ => rfl⟩
theorem st33 (X : K.In h) (N : h.Ns mainGlobals mg) {f : Addr} {od an : Option Addr} {sl : Array (Option Value)} {oc kV dc pm cd ct : Value} (a : PySem.W.nsIn K mainGlobals "_law_exchanged" = some (some (.ref f)))
    (l : K.lookup f = some ⟨oc, od, .func (PySem.W.fnOf "_law_exchanged" "_law_exchanged" (defArgs (top 33)) (defBody (top 33)) (defScope (top 33)) .none kV dc pm an cd ct), sl⟩) (c : PySem.W.codeIn K cd "_law_exchanged" = true) (k : PySem.W.keepIn K (.ref f) = true) : Stands K mg "_law_exchanged" (top 33) ["_law_circles", "_law_place"] := by
  have F := fun_mk (st := top 33) l c k
  exact ⟨f, _, F, PySem.W.mg_of X N a, F.binds (ps := ["_law_circles", "_law_place"]) fun _ _ _ _ _ _ us hl => match us, hl with | [_, _], _ => rfl⟩
theorem st34 (X : K.In h) (N : h.Ns mainGlobals mg) {f : Addr} {od an : Option Addr} {sl : Array (Option Value)} {oc kV dc pm cd ct : Value} (a : PySem.W.nsIn K mainGlobals "_law_four" = some (some (.ref f)))
    (l : K.lookup f = some ⟨oc, od, .func (PySem.W.fnOf "_law_four" "_law_four" (defArgs (top 34)) (defBody (top 34)) (defScope (top 34)) .none kV dc pm an cd ct), sl⟩) (c : PySem.W.codeIn K cd "_law_four" = true) (k : PySem.W.keepIn K (.ref f) = true) : Stands K mg "_law_four" (top 34) ["_law_numbers_here", "_law_at"] := by
  have F := fun_mk (st := top 34) l c k
  exact ⟨f, _, F, PySem.W.mg_of X N a, F.binds (ps := ["_law_numbers_here", "_law_at"]) fun _ _ _ _ _ _ us hl => match us, hl with | [_, _], _ => rfl⟩
theorem st35 (X : K.In h) (N : h.Ns mainGlobals mg) {f : Addr} {od an : Option Addr} {sl : Array (Option Value)} {oc kV dc pm cd ct : Value} (a : PySem.W.nsIn K mainGlobals "_law_double" = some (some (.ref f)))
    (l : K.lookup f = some ⟨oc, od, .func (PySem.W.fnOf "_law_double" "_law_double" (defArgs (top 35)) (defBody (top 35)) (defScope (top 35)) .none kV dc pm an cd ct), sl⟩) (c : PySem.W.codeIn K cd "_law_double" = true) (k : PySem.W.keepIn K (.ref f) = true) : Stands K mg "_law_double" (top 35) ["_law_one", "_law_other"] := by
  have F := fun_mk (st := top 35) l c k
  exact ⟨f, _, F, PySem.W.mg_of X N a, F.binds (ps := ["_law_one", "_law_other"]) fun _ _ _ _ _ _ us hl => match us, hl with | [_, _], _ => rfl⟩
theorem st36 (X : K.In h) (N : h.Ns mainGlobals mg) {f : Addr} {od an : Option Addr} {sl : Array (Option Value)} {oc kV dc pm cd ct : Value} (a : PySem.W.nsIn K mainGlobals "_law_made" = some (some (.ref f)))
    (l : K.lookup f = some ⟨oc, od, .func (PySem.W.fnOf "_law_made" "_law_made" (defArgs (top 36)) (defBody (top 36)) (defScope (top 36)) .none kV dc pm an cd ct), sl⟩) (c : PySem.W.codeIn K cd "_law_made" = true) (k : PySem.W.keepIn K (.ref f) = true) : Stands K mg "_law_made" (top 36) ["_law_circles"] := by
  have F := fun_mk (st := top 36) l c k
  exact ⟨f, _, F, PySem.W.mg_of X N a, F.binds (ps := ["_law_circles"]) fun _ _ _ _ _ _ us hl => match us, hl with | [_], _ => rfl⟩
theorem stM {f : Addr} {od an : Option Addr} {sl : Array (Option Value)} {oc kV dc pm cd ct : Value} (a : PySem.W.findIn K (.ref C) "circle" = some (some (.ref f))) (i : PySem.W.isFn K (.ref f) = true)
    (l : K.lookup f = some ⟨oc, od, .func (PySem.W.fnOf "circle" "Four.circle" (defArgs sFC) (defBody sFC) (defScope sFC) .none kV dc pm an cd ct), sl⟩) (c : PySem.W.codeIn K cd "Four.circle" = true) (k : PySem.W.keepIn K (.ref f) = true) : StandsM K C "circle" "Four.circle" sFC ["self", "number"] := by
  have F := fun_mk (st := sFC) l c k
  exact ⟨f, _, F, ⟨a, i, k⟩, F.binds (ps := ["self", "number"]) fun _ _ _ _ _ _ us hl => match us, hl with | [_, _], _ => rfl⟩
/-- the tuple of numbers -/
theorem num_of {od : Option Addr} {sl : Array (Option Value)} {m : Nat} {t1 t2 t3 t4} (l : K.lookup aN = some ⟨.type "tuple", od, .seq #[.int 1 t1, .int 2 t2, .int 3 t3, .int 4 t4] m, sl⟩) (H : Hp) : SqT K H aN [.int 1, .int 2, .int 3, .int 4] :=
  .inr ⟨_, _, m, l, rfl, rfl, (by show 4 ≤ sizeLine; decide), .cons ⟨_, rfl⟩ (.cons ⟨_, rfl⟩ (.cons ⟨_, rfl⟩ (.cons ⟨_, rfl⟩ .nil)))⟩
theorem txt_of (X : K.In h) (N : h.Ns mainGlobals mg) (aC : PySem.W.nsIn K mainGlobals "Four" = some (some (.ref C)))
    (pg : PySem.W.plainGet K C Str.empty = true) (hd : PySem.W.hasDictIn K C = true) (po : PySem.W.plainOver K C = true) (sa : PySem.W.findIn K (.ref C) "__setattr__" = some (some (.builtin "object.__setattr__")))
    (nCi : PySem.W.findIn K (.ref C) "circles" = some none) (aNu : PySem.W.nsIn K mainGlobals "NUMBERS" = some (some (.ref aN))) (num : ∀ H, SqT K H aN [.int 1, .int 2, .int 3, .int 4])
    {tM} (most : PySem.W.nsIn K mainGlobals "MOST" = some (some (.int 1000000000000000000000000000000 tM))) (gcd : PySem.W.nsIn K mainGlobals "gcd" = some (some (.builtin "math.gcd"))) (isqrt : PySem.W.nsIn K mainGlobals "isqrt" = some (some (.builtin "math.isqrt")))
    (zlen : PySem.W.nsIn K mainGlobals "len" = some none) (zsum : PySem.W.nsIn K mainGlobals "sum" = some none) (zall : PySem.W.nsIn K mainGlobals "all" = some none) (zany : PySem.W.nsIn K mainGlobals "any" = some none) (ztuple : PySem.W.nsIn K mainGlobals "tuple" = some none) (zlist : PySem.W.nsIn K mainGlobals "list" = some none) (zenum : PySem.W.nsIn K mainGlobals "enumerate" = some none) (zzip : PySem.W.nsIn K mainGlobals "zip" = some none) (zrange : PySem.W.nsIn K mainGlobals "range" = some none) (zmax : PySem.W.nsIn K mainGlobals "max" = some none) (zabs : PySem.W.nsIn K mainGlobals "abs" = some none) (zint : PySem.W.nsIn K mainGlobals "int" = some none) : Txt K mg C aN :=
  ⟨⟨pg, hd, po, sa⟩, nCi, PySem.W.mg_of X N aC, PySem.W.mg_of X N aNu, num, ⟨tM, PySem.W.mg_of X N most⟩, PySem.W.mg_of X N gcd, PySem.W.mg_of X N isqrt, PySem.W.mg_none_of X N zlen, PySem.W.mg_none_of X N zsum, PySem.W.mg_none_of X N zall, PySem.W.mg_none_of X N zany, PySem.W.mg_none_of X N ztuple, PySem.W.mg_none_of X N zlist, PySem.W.mg_none_of X N zenum, PySem.W.mg_none_of X N zzip, PySem.W.mg_none_of X N zrange, PySem.W.mg_none_of X N zmax, PySem.W.mg_none_of X N zabs, PySem.W.mg_none_of X N zint⟩
end
section
variable {P : Program} {w : World} {K : PySem.W.Frag} {h : Heap} {mg : Str → Option Value} {C aN : Addr}
theorem all_ok {base : Heap} {fI f : Addr} {fdI fd : FuncData} (T : Txt K mg C aN) (S8 : Stands K mg "is_circle" (top 8) ["circle"]) (S9 : Stands K mg "check_circle" (top 9) ["circle"]) (S10 : Stands K mg "double" (top 10) ["one", "other"]) (S11 : Stands K mg "are_outward" (top 11) ["one", "other"]) (S12 : Stands K mg "touch" (top 12) ["one", "other"]) (S15 : Stands K mg "check_number" (top 15) ["number"]) (S19 : Stands K mg "normal" (top 19) ["pair"]) (S20 : Stands K mg "told" (top 20) ["pair"]) (S21 : Stands K mg "parted" (top 21) ["four", "number"]) (S22 : Stands K mg "circle_by" (top 22) ["four", "number", "pair"]) (S23 : Stands K mg "made" (top 23) ["own", "others", "pair"]) (S24 : Stands K mg "coordinates_of" (top 24) ["four", "circle"]) (S25 : Stands K mg "pair_of" (top 25) ["four", "number", "circle"]) (S26 : Stands K mg "crossed" (top 26) ["one", "other"]) (S27 : Stands K mg "are_neighbours" (top 27) ["one", "other"]) (S29 : Stands K mg "_law_row" (top 29) ["_law_cell", "_law_many"]) (S30 : Stands K mg "_law_numbers" (top 30) ["_law_script", "_law_many"]) (S31 : Stands K mg "_law_base" (top 31) ["_law_kind", "_law_n"]) (S32 : Stands K mg "_law_moved" (top 32) ["_law_circle", "_law_s", "_law_t", "_law_turns", "_law_mirror"]) (S33 : Stands K mg "_law_exchanged" (top 33) ["_law_circles", "_law_place"]) (S34 : Stands K mg "_law_four" (top 34) ["_law_numbers_here", "_law_at"]) (S35 : Stands K mg "_law_double" (top 35) ["_law_one", "_law_other"]) (S36 : Stands K mg "_law_made" (top 36) ["_law_circles"])
    (SM : StandsM K C "circle" "Four.circle" sFC ["self", "number"]) (M : Mk K C fI) (FI : Fun K "__init__" "Four.__init__" sInit fI fdI) (bI : Binds K fdI ["self", "circles"] []) (F : Fun K "law" "law" sLaw f fd) :
    FnOk P w K mg base CX0 7 f fd ["_law_script"] (spLaw K) := by
  have isC : Can P w K mg base 1 "is_circle" ["circle"] spIsC := ok_isC T S8
  have chk := ok_chk T S9 isC
  have dbl := ok_dbl T S10 chk
  have out : Can P w K mg base 1 "are_outward" ["one", "other"] spOut := ok_out T S11
  have tch := ok_tch T S12 dbl out
  have num : Can P w K mg base 1 "check_number" ["number"] spNum := ok_num T S15
  have FC := ok_FC T SM num
  have tld : Can P w K mg base 1 "told" ["pair"] spTold := ok_told T S20
  have crs : Can P w K mg base 1 "crossed" ["one", "other"] spCrs := ok_crs T S26
  have nrm := ok_nrm T S19 tld
  have nb := ok_nb T S27 nrm crs
  have mad : Can P w K mg base 1 "made" ["own", "others", "pair"] spMade := ok_made T S23
  have part := ok_part T S21 FC
  have by' := ok_by T S22 part mad nrm
  have crd := ok_crd T S24 dbl
  have pair := ok_pair T S25 part crd mad tld
  have ini := ok_init T FI chk tch
  have row : Can P w K mg base 1 "_law_row" ["_law_cell", "_law_many"] spRow := ok_row T S29
  have nums := ok_nums T S30 row
  have bas : Can P w K mg base 1 "_law_base" ["_law_kind", "_law_n"] spBase := ok_base T S31
  have mov : Can P w K mg base 1 "_law_moved" ["_law_circle", "_law_s", "_law_t", "_law_turns", "_law_mirror"] spMov := ok_mov T S32
  have ex : Can P w K mg base 1 "_law_exchanged" ["_law_circles", "_law_place"] spEx := ok_ex T S33
  have LD : Can P w K mg base 1 "_law_double" ["_law_one", "_law_other"] spDbl := ok_LD T S35
  have fo := ok_four T S34 bas mov ex
  have md := ok_md T S36 ex
  exact ok_law T F nums fo M ini bI md pair LD by' nb
theorem all_mk {l : PySem.W.OpenLaw} {fa fI f : Addr} (X : K.In h) (N : h.Ns mainGlobals mg) (hfa : mg "law" = some (.ref fa)) (T : Txt K mg C aN) (S8 : Stands K mg "is_circle" (top 8) ["circle"]) (S9 : Stands K mg "check_circle" (top 9) ["circle"]) (S10 : Stands K mg "double" (top 10) ["one", "other"]) (S11 : Stands K mg "are_outward" (top 11) ["one", "other"]) (S12 : Stands K mg "touch" (top 12) ["one", "other"]) (S15 : Stands K mg "check_number" (top 15) ["number"]) (S19 : Stands K mg "normal" (top 19) ["pair"]) (S20 : Stands K mg "told" (top 20) ["pair"]) (S21 : Stands K mg "parted" (top 21) ["four", "number"]) (S22 : Stands K mg "circle_by" (top 22) ["four", "number", "pair"]) (S23 : Stands K mg "made" (top 23) ["own", "others", "pair"]) (S24 : Stands K mg "coordinates_of" (top 24) ["four", "circle"]) (S25 : Stands K mg "pair_of" (top 25) ["four", "number", "circle"]) (S26 : Stands K mg "crossed" (top 26) ["one", "other"]) (S27 : Stands K mg "are_neighbours" (top 27) ["one", "other"]) (S29 : Stands K mg "_law_row" (top 29) ["_law_cell", "_law_many"]) (S30 : Stands K mg "_law_numbers" (top 30) ["_law_script", "_law_many"]) (S31 : Stands K mg "_law_base" (top 31) ["_law_kind", "_law_n"]) (S32 : Stands K mg "_law_moved" (top 32) ["_law_circle", "_law_s", "_law_t", "_law_turns", "_law_mirror"]) (S33 : Stands K mg "_law_exchanged" (top 33) ["_law_circles", "_law_place"]) (S34 : Stands K mg "_law_four" (top 34) ["_law_numbers_here", "_law_at"]) (S35 : Stands K mg "_law_double" (top 35) ["_law_one", "_law_other"]) (S36 : Stands K mg "_law_made" (top 36) ["_law_circles"])
    (SM : StandsM K C "circle" "Four.circle" sFC ["self", "number"]) {odI anI odL anL : Option Addr} {slI slL : Array (Option Value)} {ocI kVI dcI pmI cdI ctI ocL kVL dcL pmL cdL ctL : Value}
    (mk : PySem.W.makesIn K C = true) (kc : PySem.W.keepIn K (.ref C) = true) (aI : PySem.W.findIn K (.ref C) "__init__" = some (some (.ref fI))) (iI : PySem.W.isFn K (.ref fI) = true)
    (lI : K.lookup fI = some ⟨ocI, odI, .func (PySem.W.fnOf "__init__" "Four.__init__" (defArgs sInit) (defBody sInit) (defScope sInit) .none kVI dcI pmI anI cdI ctI), slI⟩) (cI : PySem.W.codeIn K cdI "Four.__init__" = true) (kI : PySem.W.keepIn K (.ref fI) = true)
    (aL : PySem.W.nsIn K mainGlobals "law" = some (some (.ref f))) (lL : K.lookup f = some ⟨ocL, odL, .func (PySem.W.fnOf "law" "law" (defArgs sLaw) (defBody sLaw) (defScope sLaw) .none kVL dcL pmL anL cdL ctL), slL⟩) (cL : PySem.W.codeIn K cdL "law" = true) (kL : PySem.W.keepIn K (.ref f) = true) :
    ∃ fd : FuncData, (∀ (s : Shared) (v : Value), BindsTo s fd ⟨[v], []⟩ [("_law_script", v)]) ∧ ∀ base : Heap, K.In base → base.Ns mainGlobals mg → FnOk l.prog w K mg base CX0 7 fa fd ["_law_script"] (spLaw K) := by
  have e := hfa.symm.trans (PySem.W.mg_of X N aL)
  cases e
  have FI := fun_mk (st := sInit) lI cI kI
  have bI := FI.binds (ps := ["self", "circles"]) fun _ _ _ _ _ _ us hl => match us, hl with | [_, _], _ => rfl
  exact ⟨PySem.W.fnOf "law" "law" (defArgs sLaw) (defBody sLaw) (defScope sLaw) .none kVL dcL pmL anL cdL ctL, fun s v => .of_eq rfl, fun base _ _ => all_ok T S8 S9 S10 S11 S12 S15 S19 S20 S21 S22 S23 S24 S25 S26 S27 S29 S30 S31 S32 S33 S34 S35 S36 SM ⟨mk, aI, iI, kc⟩ FI bI (fun_mk (st := sLaw) lL cL kL)⟩
theorem walk {l : PySem.W.OpenLaw} {q : Program} {loose : List Str} {XP : (Str → Option Value) → Heap → Prop} {YP : World → Heap → Prop} {d : DefRec} {K : Params → PySem.W.Frag} (hn : l.most = some 63) (hdf : d.params.defaults = [])
    (hY : ∀ (w : World) (h : Heap), YP w h → (K w.params).In h)
    (F : ∀ (w : World) (mg : Str → Option Value) (fa : Addr) (h : Heap), (K w.params).In h → h.Ns mainGlobals mg → mg d.name = some (.ref fa) →
      ∃ fd : FuncData, (∀ (s : Shared) (u : Value), BindsTo s fd ⟨[u], []⟩ [("_law_script", u)]) ∧ ∀ base : Heap, (K w.params).In base → base.Ns mainGlobals mg → FnOk l.prog w (K w.params) mg base CX0 7 fa fd ["_law_script"] (spLaw (K w.params))) :
    PySem.W.WalkO q loose XP YP l.row.toRowW d [] (fun f vs => PySem.call f vs) :=
  L2.walk_of (n := 63) (k := 7) (x := "_law_script") (CX := fun _ => CX0) (sp := fun w => spLaw (K w.params)) hn (by decide) hdf ⟨rfl, by decide, by decide⟩ hY F (fun _ _ a ns hl _ hS => ⟨a, ns, rfl, hS, hl, fun _ => rfl⟩) fun _ _ _ _ _ z => z
end
end K45W

open PySem PySem.W PyProof.Rows
set_option maxRecDepth 100000 in
set_option maxHeartbeats 0 in
theorem PySem.Challenge.cw_fourtouch_k45_whole_circles_of_the_heap_holds : PySem.Challenge.rw_fourtouch_k45_whole_circles_of_the_heap.Holds := by
  w_on; o_law; k_head; (case hw => w_witness2)
  k_fill
  refine K45W.walk (l := PySem.Challenge.rw_fourtouch_k45_whole_circles_of_the_heap) rfl rfl (fun w h Y => PySem.W.kIn_of Y) ?F
  case F =>
    intro w mg fa h KX G hmg
    refine' K45W.all_mk KX G hmg (K45W.txt_of KX G ?aC ?pg ?hd ?po ?sa ?nCi ?aNu (K45W.num_of ?lNu) ?most ?gcd ?isqrt ?zlen ?zsum ?zall ?zany ?ztuple ?zlist ?zenum ?zzip ?zrange ?zmax ?zabs ?zint) (K45W.st8 KX G ?a8 ?l8 ?c8 ?k8) (K45W.st9 KX G ?a9 ?l9 ?c9 ?k9) (K45W.st10 KX G ?a10 ?l10 ?c10 ?k10) (K45W.st11 KX G ?a11 ?l11 ?c11 ?k11) (K45W.st12 KX G ?a12 ?l12 ?c12 ?k12) (K45W.st15 KX G ?a15 ?l15 ?c15 ?k15) (K45W.st19 KX G ?a19 ?l19 ?c19 ?k19) (K45W.st20 KX G ?a20 ?l20 ?c20 ?k20) (K45W.st21 KX G ?a21 ?l21 ?c21 ?k21) (K45W.st22 KX G ?a22 ?l22 ?c22 ?k22) (K45W.st23 KX G ?a23 ?l23 ?c23 ?k23) (K45W.st24 KX G ?a24 ?l24 ?c24 ?k24) (K45W.st25 KX G ?a25 ?l25 ?c25 ?k25) (K45W.st26 KX G ?a26 ?l26 ?c26 ?k26) (K45W.st27 KX G ?a27 ?l27 ?c27 ?k27) (K45W.st29 KX G ?a29 ?l29 ?c29 ?k29) (K45W.st30 KX G ?a30 ?l30 ?c30 ?k30) (K45W.st31 KX G ?a31 ?l31 ?c31 ?k31) (K45W.st32 KX G ?a32 ?l32 ?c32 ?k32) (K45W.st33 KX G ?a33 ?l33 ?c33 ?k33) (K45W.st34 KX G ?a34 ?l34 ?c34 ?k34) (K45W.st35 KX G ?a35 ?l35 ?c35 ?k35) (K45W.st36 KX G ?a36 ?l36 ?c36 ?k36) (K45W.stM ?aM ?iM ?lM ?cM ?kM) ?mk ?kc ?aI ?iI ?lI ?cI ?kI ?aL ?lL ?cL ?kL
    (case aC => k_is)
    (case pg => k_is)
    (case hd => k_is)
    (case po => k_is)
    (case sa => k_is)
    (case nCi => k_is)
    (case aNu => k_is)
    (case lNu => k_is)
    (case most => k_is)
    (case gcd => k_is)
    (case isqrt => k_is)
    (case zlen => k_is)
    (case zsum => k_is)
    (case zall => k_is)
    (case zany => k_is)
    (case ztuple => k_is)
    (case zlist => k_is)
    (case zenum => k_is)
    (case zzip => k_is)
    (case zrange => k_is)
    (case zmax => k_is)
    (case zabs => k_is)
    (case zint => k_is)
    (case a8 => k_is)
    (case l8 => k_is)
    (case c8 => k_is)
    (case k8 => k_is)
    (case a9 => k_is)
    (case l9 => k_is)
    (case c9 => k_is)
    (case k9 => k_is)
    (case a10 => k_is)
    (case l10 => k_is)
    (case c10 => k_is)
    (case k10 => k_is)
    (case a11 => k_is)
    (case l11 => k_is)
    (case c11 => k_is)
    (case k11 => k_is)
    (case a12 => k_is)
    (case l12 => k_is)
    (case c12 => k_is)
    (case k12 => k_is)
    (case a15 => k_is)
    (case l15 => k_is)
    (case c15 => k_is)
    (case k15 => k_is)
    (case a19 => k_is)
    (case l19 => k_is)
    (case c19 => k_is)
    (case k19 => k_is)
    (case a20 => k_is)
    (case l20 => k_is)
    (case c20 => k_is)
    (case k20 => k_is)
    (case a21 => k_is)
    (case l21 => k_is)
    (case c21 => k_is)
    (case k21 => k_is)
    (case a22 => k_is)
    (case l22 => k_is)
    (case c22 => k_is)
    (case k22 => k_is)
    (case a23 => k_is)
    (case l23 => k_is)
    (case c23 => k_is)
    (case k23 => k_is)
    (case a24 => k_is)
    (case l24 => k_is)
    (case c24 => k_is)
    (case k24 => k_is)
    (case a25 => k_is)
    (case l25 => k_is)
    (case c25 => k_is)
    (case k25 => k_is)
    (case a26 => k_is)
    (case l26 => k_is)
    (case c26 => k_is)
    (case k26 => k_is)
    (case a27 => k_is)
    (case l27 => k_is)
    (case c27 => k_is)
    (case k27 => k_is)
    (case a29 => k_is)
    (case l29 => k_is)
    (case c29 => k_is)
    (case k29 => k_is)
    (case a30 => k_is)
    (case l30 => k_is)
    (case c30 => k_is)
    (case k30 => k_is)
    (case a31 => k_is)
    (case l31 => k_is)
    (case c31 => k_is)
    (case k31 => k_is)
    (case a32 => k_is)
    (case l32 => k_is)
    (case c32 => k_is)
    (case k32 => k_is)
    (case a33 => k_is)
    (case l33 => k_is)
    (case c33 => k_is)
    (case k33 => k_is)
    (case a34 => k_is)
    (case l34 => k_is)
    (case c34 => k_is)
    (case k34 => k_is)
    (case a35 => k_is)
    (case l35 => k_is)
    (case c35 => k_is)
    (case k35 => k_is)
    (case a36 => k_is)
    (case l36 => k_is)
    (case c36 => k_is)
    (case k36 => k_is)
    (case aM => k_is)
    (case iM => k_is)
    (case lM => k_is)
    (case cM => k_is)
    (case kM => k_is)
    (case mk => k_is)
    (case kc => k_is)
    (case aI => k_is)
    (case iI => k_is)
    (case lI => k_is)
    (case cI => k_is)
    (case kI => k_is)
    (case aL => k_is)
    (case lL => k_is)
    (case cL => k_is)
    (case kL => k_is)
