import PyProof.Rows.All
import Wide.All
import OpenK.AllK
import Wide.FinOn
import KE.KStateDown
import HandS.ForMost
import HandS.More
import HandS.WordsExc
import HandS.Defaults
import HandS.Head0
import HandS.Head1
import HandS.Head2
import HandS.HeadEnd
import HandS.HeadHook1
import HandS.HeadHook2
import HandS.HeadHook3
import HandS.HeadHook4
import HandS.Star
import HandS.Codes
import PySem.Challenge.RW_wittspaces_k53_whole_spinor_norms
import HandS.OwnEq
import HandS.IsInst
import HandS.Zip
import HandS.Rev
import HandS.TupAny
import HandS.Walk
import HandS.Conv
import HandS.Flow
import KE.GoesEnum
import KE.GoesMore
import HandS.Strs
set_option Elab.async false
set_option linter.all false
set_option maxRecDepth 100000
set_option maxHeartbeats 0
namespace Wit
/-- which field: 3, 5, 7 or 9 numbers -/
inductive Kd where
  | k3 | k5 | k7 | k9
  deriving DecidableEq
def Kd.q : Kd → Nat
  | .k3 => 3
  | .k5 => 5
  | .k7 => 7
  | .k9 => 9
def Kd.p : Kd → Nat
  | .k3 => 3
  | .k5 => 5
  | .k7 => 7
  | .k9 => 3
theorem Kd.q_pos (k : Kd) : 0 < k.q := by cases k <;> decide
theorem Kd.q_le (k : Kd) : k.q ≤ 9 := by cases k <;> decide
/-- the numbers of the field -/
def El (k : Kd) : Type := Fin k.q
instance {k : Kd} : DecidableEq (El k) := inferInstanceAs (DecidableEq (Fin k.q))
def El.val {k : Kd} (a : El k) : Nat := Fin.val a
theorem El.lt {k : Kd} (a : El k) : a.val < k.q := Fin.isLt a
theorem El.ext {k : Kd} {a b : El k} (h : a.val = b.val) : a = b := Fin.ext h
def El.mk {k : Kd} (n : Nat) (h : n < k.q) : El k := (⟨n, h⟩ : Fin k.q)
theorem El.val_mk {k : Kd} (n : Nat) (h : n < k.q) : (El.mk (k := k) n h).val = n := rfl
/-- the number of a natural number below q, made so by the remainder -/
def El.of (k : Kd) (n : Nat) : El k := (⟨n % k.q, Nat.mod_lt _ k.q_pos⟩ : Fin k.q)
def nJoin (k : Kd) (low high : Nat) : Nat := if k.q = k.p then low % k.p else low % k.p + k.p * (high % k.p)
def nAdd (k : Kd) (a b : Nat) : Nat := nJoin k (a % k.p + b % k.p) (a / k.p + b / k.p)
def nNeg (k : Kd) (a : Nat) : Nat := nJoin k (k.p - a % k.p) (k.p - a / k.p % k.p)
def nMul (k : Kd) (a b : Nat) : Nat := if k.q = k.p then a * b % k.p else nJoin k ((a % k.p) * (b % k.p) + 2 * ((a / k.p) * (b / k.p))) ((a % k.p) * (b / k.p) + (a / k.p) * (b % k.p))
def El.add {k : Kd} (a b : El k) : El k := El.of k (nAdd k a.val b.val)
def El.neg {k : Kd} (a : El k) : El k := El.of k (nNeg k a.val)
def El.mul {k : Kd} (a b : El k) : El k := El.of k (nMul k a.val b.val)
def El.zero (k : Kd) : El k := El.of k 0
def El.one (k : Kd) : El k := El.of k 1
def El.pw {k : Kd} (a : El k) : Nat → El k
  | 0 => El.one k
  | n + 1 => El.mul (El.pw a n) a
def El.inv {k : Kd} (a : El k) : El k := El.pw a (k.q - 2)
def El.nat (k : Kd) : Nat → El k
  | 0 => El.zero k
  | n + 1 => El.add (El.nat k n) (El.one k)
instance decAll {k : Kd} {P : El k → Prop} [i : DecidablePred P] : Decidable (∀ a, P a) := @Nat.decidableForallFin k.q P i
theorem x_add_zero : ∀ (k : Kd) (a : El k), a.add (El.zero k) = a := by
  intro k; cases k <;> decide +kernel
theorem x_add_comm : ∀ (k : Kd) (a b : El k), a.add b = b.add a := by
  intro k; cases k <;> decide +kernel
theorem x_add_assoc : ∀ (k : Kd) (a b c : El k), (a.add b).add c = a.add (b.add c) := by
  intro k; cases k <;> decide +kernel
theorem x_mul_comm : ∀ (k : Kd) (a b : El k), a.mul b = b.mul a := by
  intro k; cases k <;> decide +kernel
theorem x_mul_assoc : ∀ (k : Kd) (a b c : El k), (a.mul b).mul c = a.mul (b.mul c) := by
  intro k; cases k <;> decide +kernel
theorem x_mul_one : ∀ (k : Kd) (a : El k), a.mul (El.one k) = a := by
  intro k; cases k <;> decide +kernel
theorem x_distrib : ∀ (k : Kd) (a b c : El k), a.mul (b.add c) = (a.mul b).add (a.mul c) := by
  intro k; cases k <;> decide +kernel
theorem x_zero_mul : ∀ (k : Kd) (a : El k), (El.zero k).mul a = El.zero k := by
  intro k; cases k <;> decide +kernel
theorem x_neg : ∀ (k : Kd) (a : El k), a.neg.add a = El.zero k := by
  intro k; cases k <;> decide +kernel
theorem x_inv : ∀ (k : Kd) (a : El k), a ≠ El.zero k → a.mul a.inv = El.one k := by
  intro k; cases k <;> decide +kernel
theorem x_inv_zero : ∀ (k : Kd), (El.zero k).inv = El.zero k := by
  intro k; cases k <;> decide +kernel
theorem x_ne : ∀ (k : Kd), El.zero k ≠ El.one k := by
  intro k; cases k <;> decide +kernel
theorem x_inv_inv : ∀ (k : Kd) (a : El k), a.inv.inv = a := by
  intro k; cases k <;> decide +kernel
theorem x_inv_one : ∀ (k : Kd), (El.one k).inv = El.one k := by
  intro k; cases k <;> decide +kernel
def El.zp {k : Kd} (a : El k) : Int → El k
  | .ofNat n => El.pw a n
  | .negSucc n => (El.pw a (n + 1)).inv
def El.ic (k : Kd) : Int → El k
  | .ofNat n => El.nat k n
  | .negSucc n => El.neg (El.nat k (n + 1))
theorem x_neg_neg : ∀ (k : Kd) (a : El k), a.neg.neg = a := by
  intro k; cases k <;> decide +kernel
theorem x_neg_zero : ∀ (k : Kd), (El.zero k).neg = El.zero k := by
  intro k; cases k <;> decide +kernel
theorem x_neg_mul : ∀ (k : Kd) (a b : El k), a.neg.mul b = (a.mul b).neg := by
  intro k; cases k <;> decide +kernel
theorem El.ic_neg (k : Kd) : ∀ i : Int, El.ic k (-i) = El.neg (El.ic k i)
  | .ofNat 0 => (x_neg_zero k).symm
  | .ofNat (n + 1) => rfl
  | .negSucc n => (x_neg_neg k _).symm
instance instRing (k : Kd) : Lean.Grind.CommRing (El k) where
  add := El.add
  mul := El.mul
  natCast := ⟨El.nat k⟩
  ofNat := fun n => ⟨El.nat k n⟩
  nsmul := ⟨fun n a => El.mul (El.nat k n) a⟩
  npow := ⟨fun a n => El.pw a n⟩
  neg := El.neg
  sub := fun a b => El.add a (El.neg b)
  intCast := ⟨El.ic k⟩
  zsmul := ⟨fun i a => El.mul (El.ic k i) a⟩
  add_zero := x_add_zero k
  add_comm := x_add_comm k
  add_assoc := x_add_assoc k
  mul_assoc := x_mul_assoc k
  mul_comm := x_mul_comm k
  one_mul := fun a => by
    show El.mul (El.add (El.zero k) (El.one k)) a = a
    rw [x_add_comm, x_add_zero, x_mul_comm]
    exact x_mul_one k a
  mul_zero := fun a => by
    show El.mul a (El.zero k) = El.zero k
    rw [x_mul_comm]
    exact x_zero_mul k a
  right_distrib := fun a b c => by
    show El.mul (El.add a b) c = El.add (El.mul a c) (El.mul b c)
    rw [x_mul_comm, x_distrib, x_mul_comm k c a, x_mul_comm k c b]
  mul_one := fun a => by
    show El.mul a (El.add (El.zero k) (El.one k)) = a
    rw [x_add_comm, x_add_zero]
    exact x_mul_one k a
  left_distrib := x_distrib k
  zero_mul := x_zero_mul k
  pow_zero := fun a => by
    show El.one k = El.add (El.zero k) (El.one k)
    rw [x_add_comm, x_add_zero]
  pow_succ := fun a n => rfl
  ofNat_succ := fun n => by
    show El.add (El.nat k n) (El.one k) = El.add (El.nat k n) (El.add (El.zero k) (El.one k))
    rw [x_add_comm k (El.zero k), x_add_zero]
  neg_add_cancel := x_neg k
  sub_eq_add_neg := fun a b => rfl
  neg_zsmul := fun i a => by
    show El.mul (El.ic k (-i)) a = El.neg (El.mul (El.ic k i) a)
    rw [El.ic_neg, x_neg_mul]
  zsmul_natCast_eq_nsmul := fun n a => rfl
  intCast_ofNat := fun n => rfl
  intCast_neg := El.ic_neg k
instance instField (k : Kd) : Lean.Grind.Field (El k) where
  inv := El.inv
  div := fun a b => El.mul a (El.inv b)
  zpow := ⟨El.zp⟩
  div_eq_mul_inv := fun a b => rfl
  zero_ne_one := fun e => by
    have e : El.zero k = El.add (El.zero k) (El.one k) := e
    rw [x_add_comm, x_add_zero] at e
    exact x_ne k e
  inv_zero := x_inv_zero k
  mul_inv_cancel := fun {a} h => by
    show El.mul a (El.inv a) = El.add (El.zero k) (El.one k)
    rw [x_add_comm, x_add_zero]
    exact x_inv k a h
  zpow_zero := fun a => by
    show El.one k = El.add (El.zero k) (El.one k)
    rw [x_add_comm, x_add_zero]
  zpow_succ := fun a n => rfl
  zpow_neg := fun a i => by
    show El.zp a (-i) = El.inv (El.zp a i)
    match i with
    | .ofNat 0 => exact (x_inv_one k).symm
    | .ofNat (n + 1) => rfl
    | .negSucc n => exact (x_inv_inv k _).symm
theorem two_ne (k : Kd) : (2 : El k) ≠ 0 := by
  cases k <;> decide +kernel
example (k : Kd) (a b c : El k) : (a + b) * c - c * a = b * c := by grind
example (k : Kd) (a b c : El k) (h : a ≠ 0) (e : a * b = a * c) : b = c := by grind
end Wit

namespace Wit
section
variable {F : Type} [Lean.Grind.Field F] {n : Nat}
/-- the sum of f 0, .., f (m - 1) -/
def sm (f : Nat → F) : Nat → F
  | 0 => 0
  | m + 1 => sm f m + f m
theorem sm_congr {f g : Nat → F} : ∀ {m : Nat}, (∀ i, i < m → f i = g i) → sm f m = sm g m
  | 0, _ => rfl
  | m + 1, h => by
    show sm f m + f m = sm g m + g m
    rw [sm_congr (m := m) fun i hi => h i (by omega), h m (by omega)]
theorem sm_zero {f : Nat → F} : ∀ {m : Nat}, (∀ i, i < m → f i = 0) → sm f m = 0
  | 0, _ => rfl
  | m + 1, h => by
    show sm f m + f m = 0
    rw [sm_zero (m := m) fun i hi => h i (by omega), h m (by omega)]
    grind
theorem sm_add (f g : Nat → F) : ∀ m, sm (fun i => f i + g i) m = sm f m + sm g m
  | 0 => by show (0 : F) = 0 + 0; grind
  | m + 1 => by
    show sm (fun i => f i + g i) m + (f m + g m) = (sm f m + f m) + (sm g m + g m)
    rw [sm_add f g m]; grind
theorem sm_mul (c : F) (f : Nat → F) : ∀ m, sm (fun i => c * f i) m = c * sm f m
  | 0 => by show (0 : F) = c * 0; grind
  | m + 1 => by
    show sm (fun i => c * f i) m + c * f m = c * (sm f m + f m)
    rw [sm_mul c f m]; grind
theorem sm_swap (f : Nat → Nat → F) (a : Nat) : ∀ b, sm (fun i => sm (fun j => f i j) b) a = sm (fun j => sm (fun i => f i j) a) b
  | 0 => sm_zero fun _ _ => rfl
  | b + 1 => by
    show sm (fun i => sm (fun j => f i j) b + f i b) a = sm (fun j => sm (fun i => f i j) a) b + sm (fun i => f i b) a
    rw [sm_add, sm_swap f a b]
theorem sm_one {f : Nat → F} {j : Nat} : ∀ {m : Nat}, j < m → (∀ i, i < m → i ≠ j → f i = 0) → sm f m = f j
  | 0, h, _ => by omega
  | m + 1, h, z => by
    show sm f m + f m = f j
    by_cases e : j = m
    · subst e
      rw [sm_zero fun i hi => z i (by omega) (by omega)]; grind
    · rw [sm_one (m := m) (by omega) fun i hi hn => z i (by omega) hn, z m (by omega) (by omega)]; grind
theorem sm_first (f : Nat → F) : ∀ m, sm f (m + 1) = f 0 + sm (fun i => f (i + 1)) m
  | 0 => by show (0 : F) + f 0 = f 0 + 0; grind
  | m + 1 => by
    show sm f (m + 1) + f (m + 1) = f 0 + (sm (fun i => f (i + 1)) m + f (m + 1))
    rw [sm_first f m]; grind

/-- a row of the length n: 0 beyond -/
structure Vc (F : Type) [Lean.Grind.Field F] (n : Nat) where
  f : Nat → F
  z : ∀ i, n ≤ i → f i = 0
theorem Vc.ext {x y : Vc F n} (h : ∀ i, i < n → x.f i = y.f i) : x = y := by
  obtain ⟨f, hf⟩ := x
  obtain ⟨g, hg⟩ := y
  have e : f = g := by
    funext i
    by_cases hi : i < n
    · exact h i hi
    · rw [hf i (by omega), hg i (by omega)]
  subst e
  rfl
/-- a row by its items -/
def Vc.of (n : Nat) (g : Nat → F) : Vc F n := ⟨fun i => if i < n then g i else 0, fun i h => if_neg (by omega)⟩
theorem Vc.of_f {g : Nat → F} {i : Nat} (h : i < n) : (Vc.of n g).f i = g i := if_pos h
instance : Add (Vc F n) := ⟨fun x y => ⟨fun i => x.f i + y.f i, fun i h => by rw [x.z i h, y.z i h]; grind⟩⟩
/-- the multiple -/
def Vc.sc (c : F) (x : Vc F n) : Vc F n := ⟨fun i => x.f i * c, fun i h => by rw [x.z i h]; grind⟩
def Vc.nul (F : Type) [Lean.Grind.Field F] (n : Nat) : Vc F n := ⟨fun _ => 0, fun _ _ => rfl⟩
theorem add_f (x y : Vc F n) (i : Nat) : (x + y).f i = x.f i + y.f i := rfl
theorem sc_f (c : F) (x : Vc F n) (i : Nat) : (x.sc c).f i = x.f i * c := rfl
theorem nul_f (i : Nat) : (Vc.nul F n).f i = 0 := rfl
/-- the unit row -/
def Vc.un (F : Type) [Lean.Grind.Field F] (n i : Nat) : Vc F n := Vc.of n fun j => if j = i then 1 else 0
theorem un_f {i j : Nat} (h : j < n) : (Vc.un F n i).f j = if j = i then 1 else 0 := Vc.of_f h
theorem un_self {i : Nat} (h : i < n) : (Vc.un F n i).f i = 1 := by rw [un_f h, if_pos rfl]
theorem un_other {i j : Nat} (h : j ≠ i) : (Vc.un F n i).f j = 0 := by
  by_cases hj : j < n
  · rw [un_f hj, if_neg h]
  · exact (Vc.un F n i).z j (by omega)
theorem v_add_nul (x : Vc F n) : x + Vc.nul F n = x := Vc.ext fun i _ => by rw [add_f, nul_f]; grind
theorem v_nul_add (x : Vc F n) : Vc.nul F n + x = x := Vc.ext fun i _ => by rw [add_f, nul_f]; grind
theorem v_add_comm (x y : Vc F n) : x + y = y + x := Vc.ext fun i _ => by rw [add_f, add_f]; grind
theorem v_add_assoc (x y w : Vc F n) : x + y + w = x + (y + w) := Vc.ext fun i _ => by simp only [add_f]; grind
theorem sc_add (c : F) (x y : Vc F n) : (x + y).sc c = x.sc c + y.sc c := Vc.ext fun i _ => by simp only [add_f, sc_f]; grind
theorem add_sc (c d : F) (x : Vc F n) : x.sc (c + d) = x.sc c + x.sc d := Vc.ext fun i _ => by simp only [add_f, sc_f]; grind
theorem sc_sc (c d : F) (x : Vc F n) : (x.sc c).sc d = x.sc (c * d) := Vc.ext fun i _ => by simp only [sc_f]; grind
theorem sc_one (x : Vc F n) : x.sc 1 = x := Vc.ext fun i _ => by simp only [sc_f]; grind
theorem sc_zero (x : Vc F n) : x.sc 0 = Vc.nul F n := Vc.ext fun i _ => by simp only [sc_f, nul_f]; grind
theorem sc_nul (c : F) : (Vc.nul F n).sc c = Vc.nul F n := Vc.ext fun i _ => by simp only [sc_f, nul_f]; grind

/-- the sum of the rows times numbers -/
def comb : List (Vc F n) → (Nat → F) → Vc F n
  | [], _ => Vc.nul F n
  | r :: rs, w => r.sc (w 0) + comb rs fun i => w (i + 1)
theorem comb_congr : ∀ {rs : List (Vc F n)} {w v : Nat → F}, (∀ i, i < rs.length → w i = v i) → comb rs w = comb rs v
  | [], _, _, _ => rfl
  | r :: rs, w, v, h => by
    show r.sc (w 0) + _ = r.sc (v 0) + _
    rw [h 0 (by simp), comb_congr (rs := rs) fun i hi => h (i + 1) (by simp; omega)]
theorem comb_add : ∀ (rs : List (Vc F n)) (w v : Nat → F), comb rs (fun i => w i + v i) = comb rs w + comb rs v
  | [], _, _ => (v_add_nul _).symm
  | r :: rs, w, v => by
    show r.sc (w 0 + v 0) + comb rs (fun i => w (i + 1) + v (i + 1)) = (r.sc (w 0) + comb rs _) + (r.sc (v 0) + comb rs _)
    rw [comb_add rs (fun i => w (i + 1)) fun i => v (i + 1), add_sc]
    exact Vc.ext fun i _ => by simp only [add_f]; grind
theorem comb_sc : ∀ (rs : List (Vc F n)) (c : F) (w : Nat → F), comb rs (fun i => w i * c) = (comb rs w).sc c
  | [], _, _ => (sc_nul _).symm
  | r :: rs, c, w => by
    show r.sc (w 0 * c) + comb rs (fun i => w (i + 1) * c) = (r.sc (w 0) + comb rs _).sc c
    rw [comb_sc rs c fun i => w (i + 1), sc_add, sc_sc]
theorem comb_f : ∀ (rs : List (Vc F n)) (w : Nat → F) (j : Nat), (comb rs w).f j = sm (fun i => (rs.getD i (Vc.nul F n)).f j * w i) rs.length
  | [], _, _ => rfl
  | r :: rs, w, j => by
    rw [List.length_cons, sm_first]
    show r.f j * w 0 + (comb rs fun i => w (i + 1)).f j = _
    rw [comb_f rs]
    rfl
theorem comb_zero : ∀ (rs : List (Vc F n)), comb rs (fun _ => 0) = Vc.nul F n
  | [] => rfl
  | r :: rs => by
    show r.sc 0 + comb rs (fun _ => 0) = _
    rw [comb_zero rs, sc_zero, v_add_nul]
/-- the unit rows -/
def ident (F : Type) [Lean.Grind.Field F] (n : Nat) : List (Vc F n) := (List.range n).map (Vc.un F n)
theorem ident_len : (ident F n).length = n := by simp [ident]
theorem ident_get {i : Nat} (h : i < n) : (ident F n).getD i (Vc.nul F n) = Vc.un F n i := by
  simp [ident, List.getD, h]
theorem comb_ident (w : Vc F n) : comb (ident F n) w.f = w := Vc.ext fun j hj => by
  rw [comb_f, ident_len, sm_congr (g := fun i => (Vc.un F n i).f j * w.f i) fun i hi => by rw [ident_get hi]]
  rw [sm_one hj fun i _ hn => by rw [un_other (Ne.symm hn)]; grind]
  rw [un_self hj]; grind
theorem comb_un (rs : List (Vc F n)) {m i : Nat} (h : i < rs.length) (hm : rs.length ≤ m) : comb rs (Vc.un F m i).f = rs.getD i (Vc.nul F n) := Vc.ext fun j _ => by
  rw [comb_f, sm_one h fun l hl hn => by rw [un_other hn]; grind]
  rw [un_self (by omega)]; grind

/-! ### spans -/
inductive Spn (R : Vc F n → Prop) : Vc F n → Prop
  | nul : Spn R (Vc.nul F n)
  | mem {v} : R v → Spn R v
  | add {v w} : Spn R v → Spn R w → Spn R (v + w)
  | sc {v} (c : F) : Spn R v → Spn R (v.sc c)
theorem Spn.le {R T : Vc F n → Prop} (h : ∀ v, R v → Spn T v) {v : Vc F n} (s : Spn R v) : Spn T v := by
  induction s with
  | nul => exact .nul
  | mem r => exact h _ r
  | add _ _ a b => exact .add a b
  | sc c _ a => exact .sc c a
abbrev Spl (rs : List (Vc F n)) : Vc F n → Prop := Spn (· ∈ rs)
theorem Spl.comb : ∀ (rs : List (Vc F n)) (w : Nat → F), Spl rs (comb rs w)
  | [], _ => .nul
  | r :: rs, w => .add (.sc _ (.mem List.mem_cons_self)) ((Spl.comb rs _).le fun _ h => .mem (List.mem_cons_of_mem _ h))
theorem Spl.out {rs : List (Vc F n)} {v : Vc F n} (s : Spl rs v) : ∃ w : Nat → F, v = Wit.comb rs w := by
  induction s with
  | nul => exact ⟨fun _ => 0, (comb_zero rs).symm⟩
  | @mem v h =>
    obtain ⟨i, hi, e⟩ := List.mem_iff_getElem.mp h
    refine ⟨(Vc.un F rs.length i).f, ?_⟩
    rw [comb_un rs hi (Nat.le_refl _)]
    simp [List.getD, hi, e]
  | add _ _ a b =>
    obtain ⟨w, rfl⟩ := a
    obtain ⟨u, rfl⟩ := b
    exact ⟨_, (comb_add rs w u).symm⟩
  | sc c _ a =>
    obtain ⟨w, rfl⟩ := a
    exact ⟨_, (comb_sc rs c w).symm⟩
/-- a linear condition passes to the span -/
theorem Spn.all {R : Vc F n → Prop} {P : Vc F n → Prop} (h0 : P (Vc.nul F n)) (ha : ∀ v w, P v → P w → P (v + w)) (hs : ∀ c v, P v → P (v.sc c)) (hm : ∀ v, R v → P v) {v : Vc F n} (s : Spn R v) : P v := by
  induction s with
  | nul => exact h0
  | mem r => exact hm _ r
  | add _ _ a b => exact ha _ _ a b
  | sc c _ a => exact hs _ _ a

/-! ### dot products -/
def dot (x y : Nat → F) (n : Nat) : F := sm (fun i => x i * y i) n
end
end Wit

namespace Wit
section
variable {F : Type} [Lean.Grind.Field F] [DecidableEq F] {n : Nat}
theorem dot_add (x : Nat → F) (v w : Vc F n) (m : Nat) : dot x (v + w).f m = dot x v.f m + dot x w.f m := by
  unfold dot
  rw [← sm_add]
  exact sm_congr fun i _ => by rw [add_f]; grind
theorem dot_sc (x : Nat → F) (c : F) (v : Vc F n) (m : Nat) : dot x (v.sc c).f m = dot x v.f m * c := by
  unfold dot
  have e : sm (fun i => x i * v.f i) m * c = c * sm (fun i => x i * v.f i) m := by grind
  rw [e, ← sm_mul]
  exact sm_congr fun i _ => by rw [sc_f]; grind
theorem dot_nul (x : Nat → F) (m : Nat) : dot x (Vc.nul F n).f m = 0 := sm_zero fun i _ => by rw [nul_f]; grind
theorem dot_comm (x y : Nat → F) (m : Nat) : dot x y m = dot y x m := sm_congr fun i _ => by grind
theorem dot_un (x : Nat → F) {i : Nat} (h : i < n) : dot x (Vc.un F n i).f n = x i := by
  unfold dot
  rw [sm_one h fun j _ hn => by rw [un_other hn]; grind]
  rw [un_self h]; grind

/-- a row with 0 at the place at which lead has 1 -/
def clr (lead : Vc F n) (at' : Nat) (row : Vc F n) : Vc F n := row + lead.sc (-(row.f at'))
theorem clr_at {lead row : Vc F n} {a : Nat} (h : lead.f a = 1) : (clr lead a row).f a = 0 := by
  show row.f a + lead.f a * -(row.f a) = 0
  rw [h]; grind
theorem clr_zero {lead row : Vc F n} {a b : Nat} (h : lead.f b = 0) : (clr lead a row).f b = row.f b := by
  show row.f b + lead.f b * -(row.f a) = row.f b
  rw [h]; grind
theorem clr_back (lead row : Vc F n) (a : Nat) : row = clr lead a row + lead.sc (row.f a) := Vc.ext fun i _ => by
  show row.f i = (row.f i + lead.f i * -(row.f a)) + lead.f i * row.f a
  grind
theorem clr_nul (lead : Vc F n) (a : Nat) : clr lead a (Vc.nul F n) = Vc.nul F n := Vc.ext fun i _ => by
  show (0 : F) + lead.f i * -0 = 0
  grind
theorem clr_add (lead x y : Vc F n) (a : Nat) : clr lead a (x + y) = clr lead a x + clr lead a y := Vc.ext fun i _ => by
  show (x.f i + y.f i) + lead.f i * -(x.f a + y.f a) = (x.f i + lead.f i * -(x.f a)) + (y.f i + lead.f i * -(y.f a))
  grind
theorem clr_sc (lead x : Vc F n) (c : F) (a : Nat) : clr lead a (x.sc c) = (clr lead a x).sc c := Vc.ext fun i _ => by
  show x.f i * c + lead.f i * -(x.f a * c) = (x.f i + lead.f i * -(x.f a)) * c
  grind
theorem clr_head {h : Vc F n} {a : Nat} (e : h.f a ≠ 0) : clr (h.sc (h.f a)⁻¹) a h = Vc.nul F n := Vc.ext fun i _ => by
  show h.f i + h.f i * (h.f a)⁻¹ * -(h.f a) = 0
  grind
theorem lead_at {h : Vc F n} {a : Nat} (e : h.f a ≠ 0) : (h.sc (h.f a)⁻¹).f a = 1 := by
  rw [sc_f]; grind

structure RS (F : Type) [Lean.Grind.Field F] (n : Nat) where
  left : List (Vc F n)
  table : List (Vc F n)
  piv : List Nat
def heads (l : List (Vc F n)) (a : Nat) : List (Vc F n) := l.filter fun r => decide (r.f a ≠ 0)
def rstep (s : RS F n) (a : Nat) : RS F n := match heads s.left a with
  | [] => s
  | h :: _ => ⟨s.left.map (clr (h.sc (h.f a)⁻¹) a), s.table.map (clr (h.sc (h.f a)⁻¹) a) ++ [h.sc (h.f a)⁻¹], s.piv ++ [a]⟩
def redTo (rows : List (Vc F n)) : Nat → RS F n
  | 0 => ⟨rows, [], []⟩
  | m + 1 => rstep (redTo rows m) m
theorem rstep_nil {s : RS F n} {a : Nat} (h : heads s.left a = []) : rstep s a = s := by unfold rstep; rw [h]
theorem rstep_cons {s : RS F n} {a : Nat} {h : Vc F n} {r : List (Vc F n)} (e : heads s.left a = h :: r) : rstep s a = ⟨s.left.map (clr (h.sc (h.f a)⁻¹) a), s.table.map (clr (h.sc (h.f a)⁻¹) a) ++ [h.sc (h.f a)⁻¹], s.piv ++ [a]⟩ := by unfold rstep; rw [e]
theorem heads_nil {l : List (Vc F n)} {a : Nat} (h : heads l a = []) : ∀ r ∈ l, r.f a = 0 := fun r hr => by
  have := (List.filter_eq_nil_iff.mp h) r hr
  simpa using this
theorem heads_cons {l : List (Vc F n)} {a : Nat} {h : Vc F n} {r : List (Vc F n)} (e : heads l a = h :: r) : h ∈ l ∧ h.f a ≠ 0 := by
  have : h ∈ heads l a := by rw [e]; exact List.mem_cons_self
  have q := List.mem_filter.mp this
  exact ⟨q.1, by simpa using q.2⟩

open Classical in
/-- how many rows are not zero -/
noncomputable def nz (l : List (Vc F n)) : Nat := (l.filter fun r => decide (r ≠ Vc.nul F n)).length
open Classical in
theorem nz_le (l : List (Vc F n)) : nz l ≤ l.length := List.length_filter_le _ _
open Classical in
theorem nz_map_le (g : Vc F n → Vc F n) (h : g (Vc.nul F n) = Vc.nul F n) : ∀ l : List (Vc F n), nz (l.map g) ≤ nz l
  | [] => Nat.le_refl _
  | x :: l => by
    have ih := nz_map_le g h l
    unfold nz at ih ⊢
    rw [List.map_cons, List.filter_cons, List.filter_cons]
    by_cases e : x = Vc.nul F n
    · subst e
      simp only [h, ne_eq, not_true_eq_false, decide_false, Bool.false_eq_true, if_false]
      exact ih
    · rw [if_pos (show decide (x ≠ Vc.nul F n) = true from decide_eq_true e)]
      split
      · simp only [List.length_cons]; omega
      · simp only [List.length_cons]; omega
open Classical in
theorem nz_map_lt (g : Vc F n → Vc F n) (h : g (Vc.nul F n) = Vc.nul F n) : ∀ l : List (Vc F n), (∃ x ∈ l, x ≠ Vc.nul F n ∧ g x = Vc.nul F n) → nz (l.map g) < nz l
  | [], ⟨_, q, _⟩ => nomatch q
  | x :: l, ⟨y, hy, ny, gy⟩ => by
    have le := nz_map_le g h l
    by_cases e : g x = Vc.nul F n ∧ x ≠ Vc.nul F n
    · unfold nz at le ⊢
      rw [List.map_cons, List.filter_cons, List.filter_cons, e.1]
      rw [if_pos (show decide (x ≠ Vc.nul F n) = true from decide_eq_true e.2), if_neg (by simp)]
      simp only [List.length_cons]; omega
    · have hy' : y ∈ l := by
        rcases List.mem_cons.mp hy with rfl | q
        · exact absurd ⟨gy, ny⟩ e
        · exact q
      have ih := nz_map_lt g h l ⟨y, hy', ny, gy⟩
      unfold nz at ih ⊢
      rw [List.map_cons, List.filter_cons, List.filter_cons]
      by_cases e2 : x = Vc.nul F n
      · subst e2
        simp only [h, ne_eq, not_true_eq_false, decide_false, Bool.false_eq_true, if_false]
        exact ih
      · rw [if_pos (show decide (x ≠ Vc.nul F n) = true from decide_eq_true e2)]
        split
        · simp only [List.length_cons]; omega
        · simp only [List.length_cons]; omega
open Classical in
theorem nz_zero {l : List (Vc F n)} (h : nz l = 0) : ∀ r ∈ l, r = Vc.nul F n := fun r hr => by
  have e : l.filter (fun r => decide (r ≠ Vc.nul F n)) = [] := List.length_eq_zero_iff.mp h
  have := (List.filter_eq_nil_iff.mp e) r hr
  simpa using this

/-- what holds ahead of the column m -/
structure RI (rows : List (Vc F n)) (m : Nat) (s : RS F n) : Prop where
  low : ∀ r ∈ s.left, ∀ i : Nat, i < m → r.f i = 0
  piv : ∀ i ∈ s.piv, i < m
  inc : s.piv.Pairwise (· < ·)
  len : s.table.length = s.piv.length
  del : ∀ (i j a : Nat), s.piv[j]? = some a → ∀ r : Vc F n, s.table[i]? = some r → r.f a = if i = j then 1 else 0
  to : ∀ v, Spl rows v → Spl (s.left ++ s.table) v
  from' : ∀ r ∈ s.left ++ s.table, Spl rows r
  cnt : s.table.length + nz s.left ≤ rows.length
  same : s.left.length = rows.length
theorem RI.zero (rows : List (Vc F n)) : RI rows 0 ⟨rows, [], []⟩ where
  low := fun _ _ _ h => by omega
  piv := fun _ h => nomatch h
  inc := .nil
  len := rfl
  del := fun i j a h => by simp at h
  to := fun v h => by simpa using h
  from' := fun r h => .mem (by simpa using h)
  cnt := by have := nz_le rows; simpa using this
  same := rfl
theorem RI.step {rows : List (Vc F n)} {m : Nat} {s : RS F n} (I : RI rows m s) : RI rows (m + 1) (rstep s m) := by
  cases e : heads s.left m with
  | nil =>
    rw [rstep_nil e]
    refine ⟨fun r hr i hi => ?_, fun i hi => Nat.lt_succ_of_lt (I.piv i hi), I.inc, I.len, I.del, I.to, I.from', I.cnt, I.same⟩
    by_cases h : i = m
    · subst h; exact heads_nil e r hr
    · exact I.low r hr i (by omega)
  | cons h r =>
    obtain ⟨hl, h0⟩ := heads_cons e
    rw [rstep_cons e]
    generalize hL : h.sc (h.f m)⁻¹ = lead
    have l1 : lead.f m = 1 := by rw [← hL]; exact lead_at h0
    have lz : ∀ i, i < m → lead.f i = 0 := fun i hi => by rw [← hL, sc_f, I.low h hl i hi]; grind
    refine ⟨fun r' hr' i hi => ?_, fun i hi => ?_, ?_, ?_, fun i j a hj r' hr' => ?_, fun v hv => ?_, fun r' hr' => ?_, ?_, ?_⟩
    · obtain ⟨x, hx, rfl⟩ := List.mem_map.mp hr'
      by_cases q : i = m
      · subst q; exact clr_at l1
      · rw [clr_zero (lz i (by omega))]; exact I.low x hx i (by omega)
    · rcases List.mem_append.mp hi with q | q
      · exact Nat.lt_succ_of_lt (I.piv i q)
      · simp at q; omega
    · rw [List.pairwise_append]
      exact ⟨I.inc, by simp, fun a ha b hb => by simp at hb; rw [hb]; exact I.piv a ha⟩
    · simp [I.len]
    · have hjl : j ≤ s.piv.length := by
        have := (List.getElem?_eq_some_iff.mp hj).1
        simp at this; omega
      have hil : i ≤ s.table.length := by
        have := (List.getElem?_eq_some_iff.mp hr').1
        simp at this; omega
      by_cases qj : j = s.piv.length
      · subst qj
        have ea : a = m := by simpa using hj.symm
        subst ea
        by_cases qi : i = s.table.length
        · subst qi
          have er : r' = lead := by
            rw [List.getElem?_append_right (by simp)] at hr'
            simpa using hr'.symm
          rw [er, l1, if_pos I.len]
        · rw [List.getElem?_append_left (by simp; omega), List.getElem?_map] at hr'
          cases ex : s.table[i]? with
          | none => rw [ex] at hr'; cases hr'
          | some x =>
            rw [ex] at hr'
            have : clr lead a x = r' := Option.some.inj hr'
            rw [← this, clr_at l1, if_neg (by rw [← I.len]; exact qi)]
      · have hj2 : s.piv[j]? = some a := by rw [List.getElem?_append_left (by omega)] at hj; exact hj
        have ha : a < m := I.piv a (List.mem_of_getElem? hj2)
        by_cases qi : i = s.table.length
        · subst qi
          have er : r' = lead := by
            rw [List.getElem?_append_right (by simp)] at hr'
            simpa using hr'.symm
          rw [er, lz a ha, if_neg (by rw [I.len]; exact Ne.symm qj)]
        · rw [List.getElem?_append_left (by simp; omega), List.getElem?_map] at hr'
          cases ex : s.table[i]? with
          | none => rw [ex] at hr'; cases hr'
          | some x =>
            rw [ex] at hr'
            have : clr lead m x = r' := Option.some.inj hr'
            rw [← this, clr_zero (lz a ha)]
            exact I.del i j a hj2 x ex
    · refine (I.to v hv).le fun x hx => ?_
      rw [clr_back lead x m]
      have hlead : Spl (s.left.map (clr lead m) ++ (s.table.map (clr lead m) ++ [lead])) lead := .mem (by simp)
      refine .add (.mem ?_) (.sc _ hlead)
      rcases List.mem_append.mp hx with q | q
      · exact List.mem_append_left _ (List.mem_map_of_mem q)
      · exact List.mem_append_right _ (List.mem_append_left _ (List.mem_map_of_mem q))
    · have hlead : Spl rows lead := by rw [← hL]; exact .sc _ (I.from' h (List.mem_append_left _ hl))
      rcases List.mem_append.mp hr' with q | q
      · obtain ⟨x, hx, rfl⟩ := List.mem_map.mp q
        exact .add (I.from' x (List.mem_append_left _ hx)) (.sc _ hlead)
      · rcases List.mem_append.mp q with q | q
        · obtain ⟨x, hx, rfl⟩ := List.mem_map.mp q
          exact .add (I.from' x (List.mem_append_right _ hx)) (.sc _ hlead)
        · have : r' = lead := by simpa using q
          rw [this]; exact hlead
    · have lt := nz_map_lt (clr lead m) (clr_nul lead m) s.left ⟨h, hl, fun z => h0 (by rw [z]; rfl), by rw [← hL]; exact clr_head h0⟩
      have := I.cnt
      simp only [List.length_append, List.length_map, List.length_cons, List.length_nil]
      omega
    · simp [I.same]
theorem redTo_inv (rows : List (Vc F n)) : ∀ m, RI rows m (redTo rows m)
  | 0 => RI.zero rows
  | m + 1 => (redTo_inv rows m).step
/-- the reduced table, its pivots -/
def redT (rows : List (Vc F n)) : List (Vc F n) := (redTo rows n).table
def redP (rows : List (Vc F n)) : List Nat := (redTo rows n).piv
theorem redTo_left (rows : List (Vc F n)) : ∀ r ∈ (redTo rows n).left, r = Vc.nul F n := fun r hr => Vc.ext fun i hi => (redTo_inv rows n).low r hr i hi
theorem redT_span {rows : List (Vc F n)} {v : Vc F n} : Spl (redT rows) v ↔ Spl rows v := by
  have I := redTo_inv rows n
  constructor
  · exact fun h => h.le fun r hr => I.from' r (List.mem_append_right _ hr)
  · refine fun h => (I.to v h).le fun r hr => ?_
    rcases List.mem_append.mp hr with q | q
    · rw [redTo_left rows r q]; exact .nul
    · exact .mem q

/-! ### rows that span all that is asked on the first m places -/
def Full (rows : List (Vc F n)) (a m : Nat) : Prop := ∀ t : Nat → F, ∃ v, Spl rows v ∧ ∀ i, a ≤ i → i < m → v.f i = t i
theorem Full.head {rows : List (Vc F n)} {a m : Nat} (h : Full rows a m) (ha : a < m) : ∃ x r, heads rows a = x :: r := by
  cases e : heads rows a with
  | cons x r => exact ⟨x, r, rfl⟩
  | nil =>
    obtain ⟨v, sv, hv⟩ := h fun _ => 1
    have h1 := hv a (Nat.le_refl _) ha
    have h0 : v.f a = 0 := Spn.all (P := fun v => v.f a = 0) rfl (fun x y hx hy => by rw [add_f, hx, hy]; grind) (fun c x hx => by rw [sc_f, hx]; grind) (heads_nil e) sv
    rw [h1] at h0
    exact absurd h0 (Ne.symm Lean.Grind.Field.zero_ne_one)
theorem Full.next {rows rows' : List (Vc F n)} {a m : Nat} {lead : Vc F n} (h : Full rows a m) (hr : ∀ x ∈ rows, Spl rows' (clr lead a x)) : Full rows' (a + 1) m := fun t => by
  by_cases ha : a < m
  · obtain ⟨v, sv, hv⟩ := h fun i => if i = a then 0 else t i
    have c : Spl rows' (clr lead a v) := Spn.all (P := fun v => Spl rows' (clr lead a v)) (by rw [clr_nul]; exact .nul) (fun x y hx hy => by rw [clr_add]; exact .add hx hy) (fun c x hx => by rw [clr_sc]; exact .sc c hx) hr sv
    refine ⟨_, c, fun i h1 h2 => ?_⟩
    have z : v.f a = 0 := by rw [hv a (Nat.le_refl _) ha, if_pos rfl]
    show v.f i + lead.f i * -(v.f a) = t i
    rw [z, hv i (by omega) h2, if_neg (by omega)]; grind
  · exact ⟨Vc.nul F n, .nul, fun i h1 h2 => by omega⟩
theorem redTo_full {rows : List (Vc F n)} {m : Nat} (h : Full rows 0 m) : ∀ a, a ≤ m → Full (redTo rows a).left a m ∧ (redTo rows a).piv = List.range a
  | 0, _ => ⟨h, rfl⟩
  | a + 1, ha => by
    obtain ⟨f, p⟩ := redTo_full h a (by omega)
    obtain ⟨x, r, e⟩ := f.head (by omega)
    show Full (rstep (redTo rows a) a).left (a + 1) m ∧ (rstep (redTo rows a) a).piv = List.range (a + 1)
    rw [rstep_cons e]
    exact ⟨f.next fun y hy => .mem (List.mem_map_of_mem hy), by rw [p, List.range_succ]⟩
/-- where all has been spanned on the first m places, m rows in all: the rest stays zero -/
theorem redTo_rest {rows : List (Vc F n)} {m : Nat} (h : Full rows 0 m) (hm : rows.length = m) : ∀ b, redTo rows (m + b) = redTo rows m
  | 0 => rfl
  | b + 1 => by
    have ih := redTo_rest h hm b
    show rstep (redTo rows (m + b)) (m + b) = _
    rw [ih]
    refine rstep_nil ?_
    have I := redTo_inv rows m
    have p := (redTo_full h m (Nat.le_refl _)).2
    have c := I.cnt
    rw [I.len, p, List.length_range] at c
    have z := nz_zero (l := (redTo rows m).left) (by omega)
    refine List.filter_eq_nil_iff.mpr fun r hr => ?_
    rw [z r hr]
    simp [nul_f]
theorem redP_full {rows : List (Vc F n)} (h : Full rows 0 n) : redP rows = List.range n := (redTo_full h n (Nat.le_refl _)).2

/-! ### the kernel -/
/-- 1 at the free place, at each pivot the negative of the line's item there -/
def kset (fr : Nat) : List (Vc F n × Nat) → (Nat → F) → Nat → F
  | [], g => g
  | (line, a) :: r, g => kset fr r fun i => if i = a then -(line.f fr) else g i
theorem kset_out (fr : Nat) : ∀ (l : List (Vc F n × Nat)) (g : Nat → F) (i : Nat), (∀ p ∈ l, p.2 ≠ i) → kset fr l g i = g i
  | [], _, _, _ => rfl
  | (line, a) :: r, g, i, h => by
    show kset fr r _ i = _
    rw [kset_out fr r _ i fun p hp => h p (List.mem_cons_of_mem _ hp), if_neg (Ne.symm (h _ List.mem_cons_self))]
theorem kset_in (fr : Nat) : ∀ (l : List (Vc F n × Nat)) (g : Nat → F) (j : Nat) (line : Vc F n) (a : Nat), (l.map (·.2)).Nodup → l[j]? = some (line, a) → kset fr l g a = -(line.f fr)
  | [], _, _, _, _, _, h => by simp at h
  | (x, b) :: r, g, 0, line, a, nd, h => by
    have e := Option.some.inj h
    obtain ⟨rfl, rfl⟩ := Prod.mk.inj e
    show kset fr r _ b = _
    rw [List.map_cons, List.nodup_cons] at nd
    rw [kset_out fr r _ b fun p hp q => nd.1 (List.mem_map.mpr ⟨p, hp, q⟩), if_pos rfl]
  | (x, b) :: r, g, j + 1, line, a, nd, h => by
    rw [List.map_cons, List.nodup_cons] at nd
    exact kset_in fr r _ j line a nd.2 h
def krow (rows : List (Vc F n)) (fr : Nat) : Vc F n := Vc.of n (kset fr ((redT rows).zip (redP rows)) (Vc.un F n fr).f)
def free (rows : List (Vc F n)) : List Nat := (List.range n).filter fun a => decide (a ∉ redP rows)
def found (rows : List (Vc F n)) : List (Vc F n) := (free rows).map (krow rows)
def ker (rows : List (Vc F n)) : List (Vc F n) := redT (found rows)
section
variable {rows : List (Vc F n)} {v : Vc F n}
theorem redP_nodup (rows : List (Vc F n)) : (redP rows).Nodup := (redTo_inv rows n).inc.imp fun h => Nat.ne_of_lt h
theorem zip_snd (rows : List (Vc F n)) : ((redT rows).zip (redP rows)).map (·.2) = redP rows := by
  rw [List.map_snd_zip]
  exact Nat.le_of_eq (redTo_inv rows n).len.symm
theorem krow_free {fr i : Nat} (hi : i < n) (h : i ∉ redP rows) : (krow rows fr).f i = (Vc.un F n fr).f i := by
  unfold krow
  rw [Vc.of_f hi, kset_out]
  intro p hp e
  apply h
  rw [← zip_snd rows, ← e]
  exact List.mem_map_of_mem hp
theorem krow_piv {fr j a : Nat} {line : Vc F n} (hj : (redP rows)[j]? = some a) (hl : (redT rows)[j]? = some line) : (krow rows fr).f a = -(line.f fr) := by
  unfold krow
  have ha : a < n := (redTo_inv rows n).piv a (List.mem_of_getElem? hj)
  rw [Vc.of_f ha]
  refine kset_in fr _ _ j line a (by rw [zip_snd]; exact redP_nodup rows) ?_
  rw [List.getElem?_zip_eq_some]
  exact ⟨hl, hj⟩
/-- a pivot's place in the list -/
theorem piv_at {a : Nat} (h : a ∈ redP rows) : ∃ (j : Nat) (line : Vc F n), (redP rows)[j]? = some a ∧ (redT rows)[j]? = some line := by
  obtain ⟨j, hj, e⟩ := List.mem_iff_getElem.mp h
  have hl : j < (redT rows).length := by
    have := (redTo_inv rows n).len
    show j < (redTo rows n).table.length
    rw [this]; exact hj
  exact ⟨j, (redT rows)[j], by rw [List.getElem?_eq_getElem hj, e], List.getElem?_eq_getElem hl⟩
theorem line_at {line : Vc F n} (h : line ∈ redT rows) : ∃ (j a : Nat), (redP rows)[j]? = some a ∧ (redT rows)[j]? = some line := by
  obtain ⟨j, hj, e⟩ := List.mem_iff_getElem.mp h
  have hl : j < (redP rows).length := by
    have := (redTo_inv rows n).len
    show j < (redTo rows n).piv.length
    rw [← this]; exact hj
  exact ⟨j, (redP rows)[j], List.getElem?_eq_getElem hl, by rw [List.getElem?_eq_getElem hj, e]⟩
/-- a line times a row that is 0 at the free places but fr -/
theorem dot_line {line w : Vc F n} {j a : Nat} (hj : (redP rows)[j]? = some a) (hl : (redT rows)[j]? = some line) (hw : ∀ i, i < n → i ∉ redP rows → w.f i = 0) : dot line.f w.f n = w.f a := by
  have I := redTo_inv rows n
  have ha : a < n := I.piv a (List.mem_of_getElem? hj)
  unfold dot
  rw [sm_one ha]
  · rw [I.del j j a hj line hl, if_pos rfl]; grind
  · intro i hi hn
    by_cases hp : i ∈ redP rows
    · obtain ⟨j', line', h1, h2⟩ := piv_at hp
      have : j ≠ j' := by
        rintro rfl
        rw [hj] at h1
        exact hn (Option.some.inj h1).symm
      rw [I.del j j' i h1 line hl, if_neg this]; grind
    · rw [hw i hi hp]; grind
theorem dot_krow {fr : Nat} (hf : fr < n) (hp : fr ∉ redP rows) {line : Vc F n} (h : line ∈ redT rows) : dot line.f (krow rows fr).f n = 0 := by
  obtain ⟨j, a, hj, hl⟩ := line_at h
  -- krow = un fr + (what is 0 at the free places)
  have e : krow rows fr = Vc.un F n fr + (krow rows fr + (Vc.un F n fr).sc (-1)) := Vc.ext fun i _ => by
    simp only [add_f, sc_f]; grind
  rw [e, dot_add, dot_un _ hf, dot_line hj hl fun i hi hn => by rw [add_f, sc_f, krow_free hi hn]; grind]
  rw [add_f, sc_f, krow_piv hj hl, un_other fun q => hp (by rw [← q]; exact List.mem_of_getElem? hj)]
  grind
theorem ker_found : Spl (ker rows) v ↔ Spl (found rows) v := redT_span
theorem found_zero (h : Spl (found rows) v) : ∀ r ∈ rows, dot r.f v.f n = 0 := fun r hr => by
  have hr' : Spl (redT rows) r := redT_span.mpr (.mem hr)
  have base : ∀ line ∈ redT rows, dot v.f line.f n = 0 := fun line hl => by
    rw [dot_comm]
    refine Spn.all (P := fun v => dot line.f v.f n = 0) (dot_nul _ _) (fun x y hx hy => by rw [dot_add, hx, hy]; grind) (fun c x hx => by rw [dot_sc, hx]; grind) (fun x hx => ?_) h
    obtain ⟨fr, hfr, rfl⟩ := List.mem_map.mp hx
    have q := List.mem_filter.mp hfr
    exact dot_krow (List.mem_range.mp q.1) (by simpa using q.2) hl
  rw [dot_comm]
  exact Spn.all (P := fun r => dot v.f r.f n = 0) (dot_nul _ _) (fun x y hx hy => by rw [dot_add, hx, hy]; grind) (fun c x hx => by rw [dot_sc, hx]; grind) base hr'
theorem found_all (h : ∀ r ∈ rows, dot r.f v.f n = 0) : Spl (found rows) v := by
  have main : ∀ m (v : Vc F n), (∀ line ∈ redT rows, dot line.f v.f n = 0) → (∀ i, m ≤ i → i < n → i ∉ redP rows → v.f i = 0) → Spl (found rows) v := by
    intro m
    induction m with
    | zero =>
      intro v hd hv
      have : v = Vc.nul F n := Vc.ext fun i hi => by
        rw [nul_f]
        by_cases hp : i ∈ redP rows
        · obtain ⟨j, line, h1, h2⟩ := piv_at hp
          rw [← dot_line h1 h2 fun i hi hn => hv i (Nat.zero_le _) hi hn]
          exact hd line (List.mem_of_getElem? h2)
        · exact hv i (Nat.zero_le _) hi hp
      rw [this]; exact .nul
    | succ m ih =>
      intro v hd hv
      by_cases hm : m < n ∧ m ∉ redP rows
      · have hk : Spl (found rows) (krow rows m) := .mem (List.mem_map_of_mem (List.mem_filter.mpr ⟨List.mem_range.mpr hm.1, by simpa using hm.2⟩))
        have e : v = (v + (krow rows m).sc (-(v.f m))) + (krow rows m).sc (v.f m) := Vc.ext fun i _ => by
          simp only [add_f, sc_f]; grind
        rw [e]
        refine .add (ih _ (fun line hl => ?_) fun i h1 h2 h3 => ?_) (.sc _ hk)
        · rw [dot_add, dot_sc, hd line hl, dot_krow hm.1 hm.2 hl]; grind
        · rw [add_f, sc_f, krow_free h2 h3]
          by_cases q : i = m
          · subst q; rw [un_self hm.1]; grind
          · rw [un_other q, hv i (by omega) h2 h3]; grind
      · refine ih v hd fun i h1 h2 h3 => ?_
        by_cases q : i = m
        · subst q; exact absurd ⟨h2, h3⟩ hm
        · exact hv i (by omega) h2 h3
  refine main n v (fun line hl => ?_) fun i h1 h2 => by omega
  have hr' : Spl rows line := redT_span.mp (.mem hl)
  rw [dot_comm]
  exact Spn.all (P := fun r => dot v.f r.f n = 0) (dot_nul _ _) (fun x y hx hy => by rw [dot_add, hx, hy]; grind) (fun c x hx => by rw [dot_sc, hx]; grind) (fun r hr => by rw [dot_comm]; exact h r hr) hr'
theorem ker_iff : Spl (ker rows) v ↔ ∀ r ∈ rows, dot r.f v.f n = 0 := ker_found.trans ⟨found_zero, found_all⟩
/-- all places are pivots: no kernel -/
theorem ker_full (h : Full rows 0 n) : ker rows = [] := by
  have e : free rows = [] := List.filter_eq_nil_iff.mpr fun a ha => by
    rw [redP_full h]
    simpa using ha
  have f0 : found rows = [] := by unfold found; rw [e]; rfl
  unfold ker
  rw [f0]
  have I := redTo_inv ([] : List (Vc F n)) n
  have c := I.cnt
  simp only [List.length_nil] at c
  exact List.length_eq_zero_iff.mp (by show (redTo [] n).table.length = 0; omega)
theorem ker_len (h : ∃ r ∈ rows, r ≠ Vc.nul F n) : (ker rows).length < n := by
  have I := redTo_inv (found rows) n
  have c : (ker rows).length ≤ (found rows).length := by
    have := I.cnt
    show (redTo (found rows) n).table.length ≤ _
    omega
  have e : (found rows).length = (free rows).length := List.length_map _
  have f : (free rows).length < (List.range n).length := by
    refine List.length_filter_lt_length_iff_exists.mpr ?_
    cases q : redP rows with
    | nil =>
      exfalso
      obtain ⟨r, hr, hn⟩ := h
      have t0 : redT rows = [] := List.length_eq_zero_iff.mp (by
        have := (redTo_inv rows n).len
        show (redTo rows n).table.length = 0
        rw [this]
        show (redP rows).length = 0
        rw [q]; rfl)
      have s : Spl (redT rows) r := redT_span.mpr (.mem hr)
      rw [t0] at s
      exact hn (Spn.all (P := fun v => v = Vc.nul F n) rfl (fun x y hx hy => by rw [hx, hy, v_add_nul]) (fun c x hx => by rw [hx, sc_nul]) (fun x hx => nomatch hx) s)
    | cons a l =>
      have ha : a ∈ redP rows := by rw [q]; exact List.mem_cons_self
      exact ⟨a, List.mem_range.mpr ((redTo_inv rows n).piv a ha), by simpa using ha⟩
  rw [List.length_range] at f
  omega
theorem getD_of {α : Type} {l : List α} {i : Nat} {x d : α} (h : l[i]? = some x) : l.getD i d = x := by simp [List.getD, h]
/-- independent rows -/
def Ind (rows : List (Vc F n)) : Prop := ∀ w : Nat → F, comb rows w = Vc.nul F n → ∀ i, i < rows.length → w i = 0
theorem redT_ind (rows : List (Vc F n)) : Ind (redT rows) := fun w h i hi => by
  have I := redTo_inv rows n
  have hp : i < (redTo rows n).piv.length := by rw [← I.len]; exact hi
  have hj : (redP rows)[i]? = some ((redTo rows n).piv[i]) := List.getElem?_eq_getElem hp
  generalize (redTo rows n).piv[i] = a at hj
  have e : (comb (redT rows) w).f a = 0 := by rw [h]; rfl
  have hd : ∀ l, l < (redT rows).length → ((redT rows).getD l (Vc.nul F n)).f a = if l = i then 1 else 0 := fun l hl => by
    have q : (redT rows)[l]? = some (redT rows)[l] := List.getElem?_eq_getElem hl
    rw [getD_of q]
    exact I.del l i a hj _ q
  rw [comb_f, sm_one hi fun l hl hn => by rw [hd l hl, if_neg hn]; grind] at e
  rw [hd i hi, if_pos rfl] at e
  grind
end
end
end Wit

namespace Wit
open Lean.Grind
/-- a ring by its axioms -/
@[reducible] def mkRing (C : Type) (add mul : C → C → C) (zero one : C) (neg : C → C) (add_zero : ∀ a, add a zero = a) (add_comm : ∀ a b, add a b = add b a) (add_assoc : ∀ a b c, add (add a b) c = add a (add b c))
    (mul_assoc : ∀ a b c, mul (mul a b) c = mul a (mul b c)) (mul_one : ∀ a, mul a one = a) (one_mul : ∀ a, mul one a = a) (ld : ∀ a b c, mul a (add b c) = add (mul a b) (mul a c)) (rd : ∀ a b c, mul (add a b) c = add (mul a c) (mul b c))
    (neg_add : ∀ a, add (neg a) a = zero) : Ring C := by
  have canc : ∀ a b c, add a b = add a c → b = c := fun a b c h => by
    have h2 : add (neg a) (add a b) = add (neg a) (add a c) := by rw [h]
    rw [← add_assoc, ← add_assoc, neg_add, add_comm zero, add_comm zero, add_zero, add_zero] at h2
    exact h2
  have zm : ∀ a, mul zero a = zero := fun a => canc (mul zero a) _ _ (by rw [← rd, add_zero, add_zero])
  have mz : ∀ a, mul a zero = zero := fun a => canc (mul a zero) _ _ (by rw [← ld, add_zero, add_zero])
  have nn : ∀ a, neg (neg a) = a := fun a => canc (neg a) _ _ (by rw [neg_add, add_comm, neg_add])
  have nz : neg zero = zero := by
    have := neg_add zero
    rw [add_zero] at this
    exact this
  have nm : ∀ a b, mul (neg a) b = neg (mul a b) := fun a b => canc (mul a b) _ _ (by rw [← rd, add_comm a, neg_add, zm, add_comm, neg_add])
  let nat : Nat → C := fun n => Nat.rec zero (fun _ x => add x one) n
  let ic : Int → C := fun i => match i with | .ofNat n => nat n | .negSucc n => neg (nat (n + 1))
  have icn : ∀ i : Int, ic (-i) = neg (ic i) := fun i => match i with
    | .ofNat 0 => nz.symm
    | .ofNat (n + 1) => rfl
    | .negSucc n => (nn _).symm
  have z1 : add zero one = one := by rw [add_comm, add_zero]
  exact {
    add := add
    mul := mul
    natCast := ⟨nat⟩
    ofNat := fun n => ⟨nat n⟩
    nsmul := ⟨fun n a => mul (nat n) a⟩
    npow := ⟨fun a n => Nat.rec one (fun _ x => mul x a) n⟩
    neg := neg
    sub := fun a b => add a (neg b)
    intCast := ⟨ic⟩
    zsmul := ⟨fun i a => mul (ic i) a⟩
    add_zero := add_zero
    add_comm := add_comm
    add_assoc := add_assoc
    mul_assoc := mul_assoc
    mul_one := fun a => by
      show mul a (add zero one) = a
      rw [z1, mul_one]
    one_mul := fun a => by
      show mul (add zero one) a = a
      rw [z1, one_mul]
    left_distrib := ld
    right_distrib := rd
    zero_mul := zm
    mul_zero := mz
    pow_zero := fun a => z1.symm
    pow_succ := fun a n => rfl
    ofNat_succ := fun n => by
      show add (nat n) one = add (nat n) (add zero one)
      rw [z1]
    ofNat_eq_natCast := fun n => rfl
    nsmul_eq_natCast_mul := fun n a => rfl
    neg_add_cancel := neg_add
    sub_eq_add_neg := fun a b => rfl
    neg_zsmul := fun i a => by
      show mul (ic (-i)) a = neg (mul (ic i) a)
      rw [icn, nm]
    zsmul_natCast_eq_nsmul := fun n a => rfl
    intCast_ofNat := fun n => rfl
    intCast_neg := icn }
/-- a ring over the numbers with the sign of the parts and the reversal -/
structure SR (F : Type) [Field F] where
  C : Type
  ring : Ring C
  em : F → C
  sg : C → C
  rv : C → C
  em_add : ∀ a b, em (a + b) = em a + em b
  em_mul : ∀ a b, em (a * b) = em a * em b
  em_one : em 1 = 1
  em_zero : em 0 = 0
  em_c : ∀ a x, x * em a = em a * x
  em_inj : ∀ a, em a = 0 → a = 0
  sg_add : ∀ x y, sg (x + y) = sg x + sg y
  sg_mul : ∀ x y, sg (x * y) = sg x * sg y
  sg_sg : ∀ x, sg (sg x) = x
  sg_em : ∀ a, sg (em a) = em a
  rv_add : ∀ x y, rv (x + y) = rv x + rv y
  rv_mul : ∀ x y, rv (x * y) = rv y * rv x
  rv_em : ∀ a, rv (em a) = em a
  rv_sg : ∀ x, rv (sg x) = sg (rv x)
section
variable {F : Type} [Field F]
instance (S : SR F) : Ring S.C := S.ring
theorem SR.sg_zero (S : SR F) : S.sg 0 = 0 := by rw [← S.em_zero, S.sg_em]
theorem SR.rv_zero (S : SR F) : S.rv 0 = 0 := by rw [← S.em_zero, S.rv_em]
theorem SR.sg_one (S : SR F) : S.sg 1 = 1 := by rw [← S.em_one, S.sg_em]
theorem SR.sg_neg (S : SR F) (x : S.C) : S.sg (-x) = -S.sg x := by
  have h : S.sg (-x) + S.sg x = 0 := by rw [← S.sg_add, Ring.neg_add_cancel, S.sg_zero]
  grind
theorem SR.rv_neg (S : SR F) (x : S.C) : S.rv (-x) = -S.rv x := by
  have h : S.rv (-x) + S.rv x = 0 := by rw [← S.rv_add, Ring.neg_add_cancel, S.rv_zero]
  grind
theorem SR.em_left (S : SR F) (a : F) (x y : S.C) : x * (S.em a * y) = S.em a * (x * y) := by
  rw [← Semiring.mul_assoc, S.em_c, Semiring.mul_assoc]
def SR.base (F : Type) [Field F] : SR F where
  C := F
  ring := inferInstance
  em := id
  sg := id
  rv := id
  em_add := fun _ _ => rfl
  em_mul := fun _ _ => rfl
  em_one := rfl
  em_zero := rfl
  em_c := fun a x => CommSemiring.mul_comm x a
  em_inj := fun _ h => h
  sg_add := fun _ _ => rfl
  sg_mul := fun _ _ => rfl
  sg_sg := fun _ => rfl
  sg_em := fun _ => rfl
  rv_add := fun _ _ => rfl
  rv_mul := fun x y => CommSemiring.mul_comm x y
  rv_em := fun _ => rfl
  rv_sg := fun _ => rfl
/-- x + e y with e e = a -/
def dAdd (S : SR F) (x y : S.C × S.C) : S.C × S.C := (x.1 + y.1, x.2 + y.2)
def dMul (S : SR F) (a : F) (x y : S.C × S.C) : S.C × S.C := (x.1 * y.1 + S.em a * (S.sg x.2 * y.2), S.sg x.1 * y.2 + x.2 * y.1)
theorem pr {α β : Type} {a c : α} {b d : β} (h : a = c) (h' : b = d) : (a, b) = (c, d) := by rw [h, h']
@[reducible] def dRing (S : SR F) (a : F) : Ring (S.C × S.C) := mkRing (S.C × S.C) (dAdd S) (dMul S a) (0, 0) (1, 0) (fun x => (-x.1, -x.2))
  (fun x => pr (Semiring.add_zero _) (Semiring.add_zero _)) (fun x y => pr (Semiring.add_comm _ _) (Semiring.add_comm _ _)) (fun x y z => pr (Semiring.add_assoc _ _ _) (Semiring.add_assoc _ _ _))
  (fun x y z => by
    refine pr ?_ ?_
    · show (x.1 * y.1 + S.em a * (S.sg x.2 * y.2)) * z.1 + S.em a * (S.sg (S.sg x.1 * y.2 + x.2 * y.1) * z.2) = x.1 * (y.1 * z.1 + S.em a * (S.sg y.2 * z.2)) + S.em a * (S.sg x.2 * (S.sg y.1 * z.2 + y.2 * z.1))
      simp only [S.sg_add, S.sg_mul, S.sg_sg, Semiring.left_distrib, Semiring.right_distrib, S.em_left, Semiring.mul_assoc]
      grind
    · show S.sg (x.1 * y.1 + S.em a * (S.sg x.2 * y.2)) * z.2 + (S.sg x.1 * y.2 + x.2 * y.1) * z.1 = S.sg x.1 * (S.sg y.1 * z.2 + y.2 * z.1) + x.2 * (y.1 * z.1 + S.em a * (S.sg y.2 * z.2))
      simp only [S.sg_add, S.sg_mul, S.sg_sg, S.sg_em, Semiring.left_distrib, Semiring.right_distrib, S.em_left, Semiring.mul_assoc]
      grind)
  (fun x => by
    refine pr ?_ ?_
    · show x.1 * 1 + S.em a * (S.sg x.2 * 0) = x.1
      grind
    · show S.sg x.1 * 0 + x.2 * 1 = x.2
      grind)
  (fun x => by
    refine pr ?_ ?_
    · show 1 * x.1 + S.em a * (S.sg 0 * x.2) = x.1
      rw [S.sg_zero]; grind
    · show S.sg 1 * x.2 + 0 * x.1 = x.2
      rw [S.sg_one]; grind)
  (fun x y z => by
    refine pr ?_ ?_
    · show x.1 * (y.1 + z.1) + S.em a * (S.sg x.2 * (y.2 + z.2)) = (x.1 * y.1 + S.em a * (S.sg x.2 * y.2)) + (x.1 * z.1 + S.em a * (S.sg x.2 * z.2))
      grind
    · show S.sg x.1 * (y.2 + z.2) + x.2 * (y.1 + z.1) = (S.sg x.1 * y.2 + x.2 * y.1) + (S.sg x.1 * z.2 + x.2 * z.1)
      grind)
  (fun x y z => by
    refine pr ?_ ?_
    · show (x.1 + y.1) * z.1 + S.em a * (S.sg (x.2 + y.2) * z.2) = (x.1 * z.1 + S.em a * (S.sg x.2 * z.2)) + (y.1 * z.1 + S.em a * (S.sg y.2 * z.2))
      rw [S.sg_add]; grind
    · show S.sg (x.1 + y.1) * z.2 + (x.2 + y.2) * z.1 = (S.sg x.1 * z.2 + x.2 * z.1) + (S.sg y.1 * z.2 + y.2 * z.1)
      rw [S.sg_add]; grind)
  (fun x => pr (Ring.neg_add_cancel _) (Ring.neg_add_cancel _))
section
variable (S : SR F) (a : F)
theorem d_mul (x y : S.C × S.C) : (dRing S a).mul x y = (x.1 * y.1 + S.em a * (S.sg x.2 * y.2), S.sg x.1 * y.2 + x.2 * y.1) := rfl
def SR.dbl : SR F where
  C := S.C × S.C
  ring := dRing S a
  em := fun c => (S.em c, 0)
  sg := fun x => (S.sg x.1, -S.sg x.2)
  rv := fun x => (S.rv x.1, S.sg (S.rv x.2))
  em_add := fun c d => by
    refine pr (S.em_add c d) ?_
    show (0 : S.C) = 0 + 0
    grind
  em_mul := fun c d => by
    refine pr ?_ ?_
    · show S.em (c * d) = S.em c * S.em d + S.em a * (S.sg 0 * 0)
      rw [S.em_mul]; grind
    · show (0 : S.C) = S.sg (S.em c) * 0 + 0 * S.em d
      grind
  em_one := by
    refine pr ?_ ?_
    · show S.em 1 = 0 + 1
      rw [S.em_one]; grind
    · show (0 : S.C) = 0 + 0
      grind
  em_zero := pr S.em_zero rfl
  em_c := fun c x => by
    refine pr ?_ ?_
    · show x.1 * S.em c + S.em a * (S.sg x.2 * 0) = S.em c * x.1 + S.em a * (S.sg 0 * x.2)
      rw [S.em_c, S.sg_zero]; grind
    · show S.sg x.1 * 0 + x.2 * S.em c = S.sg (S.em c) * x.2 + 0 * x.1
      rw [S.em_c, S.sg_em]; grind
  em_inj := fun c h => S.em_inj c (Prod.mk.inj h).1
  sg_add := fun x y => by
    refine pr (S.sg_add _ _) ?_
    show -S.sg (x.2 + y.2) = -S.sg x.2 + -S.sg y.2
    rw [S.sg_add]; grind
  sg_mul := fun x y => by
    refine pr ?_ ?_
    · show S.sg (x.1 * y.1 + S.em a * (S.sg x.2 * y.2)) = S.sg x.1 * S.sg y.1 + S.em a * (S.sg (-S.sg x.2) * -S.sg y.2)
      rw [S.sg_add, S.sg_mul, S.sg_mul, S.sg_mul, S.sg_em, S.sg_neg]; grind
    · show -S.sg (S.sg x.1 * y.2 + x.2 * y.1) = S.sg (S.sg x.1) * -S.sg y.2 + -S.sg x.2 * S.sg y.1
      rw [S.sg_add, S.sg_mul, S.sg_mul]; grind
  sg_sg := fun x => by
    refine pr (S.sg_sg _) ?_
    show -S.sg (-S.sg x.2) = x.2
    rw [S.sg_neg, S.sg_sg]; grind
  sg_em := fun c => by
    refine pr (S.sg_em c) ?_
    show -S.sg 0 = 0
    rw [S.sg_zero]; grind
  rv_add := fun x y => by
    refine pr (S.rv_add _ _) ?_
    show S.sg (S.rv (x.2 + y.2)) = S.sg (S.rv x.2) + S.sg (S.rv y.2)
    rw [S.rv_add, S.sg_add]
  rv_mul := fun x y => by
    refine pr ?_ ?_
    · show S.rv (x.1 * y.1 + S.em a * (S.sg x.2 * y.2)) = S.rv y.1 * S.rv x.1 + S.em a * (S.sg (S.sg (S.rv y.2)) * S.sg (S.rv x.2))
      rw [S.rv_add, S.rv_mul, S.rv_mul, S.rv_mul, S.rv_em, S.em_c, S.rv_sg, S.sg_sg]
    · show S.sg (S.rv (S.sg x.1 * y.2 + x.2 * y.1)) = S.sg (S.rv y.1) * S.sg (S.rv x.2) + S.sg (S.rv y.2) * S.rv x.1
      rw [S.rv_add, S.rv_mul, S.rv_mul, S.sg_add, S.sg_mul, S.sg_mul, S.rv_sg, S.sg_sg]; grind
  rv_em := fun c => by
    refine pr (S.rv_em c) ?_
    show S.sg (S.rv 0) = 0
    rw [S.rv_zero, S.sg_zero]
  rv_sg := fun x => by
    refine pr (S.rv_sg _) ?_
    show S.sg (S.rv (-S.sg x.2)) = -S.sg (S.sg (S.rv x.2))
    rw [S.rv_neg, S.rv_sg, S.sg_neg]
end
/-- the Clifford algebra of the sum of the a_i x_i^2 -/
def cl : List F → SR F
  | [] => SR.base F
  | a :: ds => SR.dbl (cl ds) a
/-- a row in it -/
def io : (ds : List F) → (Nat → F) → (cl ds).C
  | [], _ => (0 : F)
  | a :: ds, x => (io ds (fun i => x (i + 1)), (cl ds).em (x 0))
/-- the value -/
def q0 : List F → (Nat → F) → F
  | [], _ => 0
  | a :: ds, x => a * (x 0 * x 0) + q0 ds fun i => x (i + 1)
theorem io_add : ∀ (ds : List F) (x y : Nat → F), io ds (fun i => x i + y i) = io ds x + io ds y
  | [], x, y => (Semiring.add_zero (0 : F)).symm
  | a :: ds, x, y => pr (io_add ds _ _) ((cl ds).em_add _ _)
theorem io_sg : ∀ (ds : List F) (x : Nat → F), (cl ds).sg (io ds x) = -io ds x
  | [], x => by show (0 : F) = -0; grind
  | a :: ds, x => by
    refine pr (io_sg ds _) ?_
    show -(cl ds).sg ((cl ds).em (x 0)) = -(cl ds).em (x 0)
    rw [(cl ds).sg_em]
theorem io_rv : ∀ (ds : List F) (x : Nat → F), (cl ds).rv (io ds x) = io ds x
  | [], x => rfl
  | a :: ds, x => by
    refine pr (io_rv ds _) ?_
    show (cl ds).sg ((cl ds).rv ((cl ds).em (x 0))) = (cl ds).em (x 0)
    rw [(cl ds).rv_em, (cl ds).sg_em]
theorem io_sq : ∀ (ds : List F) (x : Nat → F), io ds x * io ds x = (cl ds).em (q0 ds x)
  | [], x => by show (0 : F) * 0 = 0; grind
  | a :: ds, x => by
    refine pr ?_ ?_
    · show io ds (fun i => x (i + 1)) * io ds (fun i => x (i + 1)) + (cl ds).em a * ((cl ds).sg ((cl ds).em (x 0)) * (cl ds).em (x 0)) = (cl ds).em (a * (x 0 * x 0) + q0 ds fun i => x (i + 1))
      rw [io_sq ds, (cl ds).sg_em, (cl ds).em_add, (cl ds).em_mul, (cl ds).em_mul]; grind
    · show (cl ds).sg (io ds fun i => x (i + 1)) * (cl ds).em (x 0) + (cl ds).em (x 0) * io ds (fun i => x (i + 1)) = 0
      rw [io_sg ds, (cl ds).em_c]; grind
/-- the unit rows -/
def e0 : Nat → F := fun j => if j = 0 then 1 else 0
theorem io_zero : ∀ (ds : List F), io ds (fun _ => (0 : F)) = 0
  | [] => rfl
  | a :: ds => pr (io_zero ds) (cl ds).em_zero
theorem neg_zero' {R : Type} [Ring R] {t g : R} (h : 0 + t * g = 0 + t * -g) : t * g = -(t * g) := by
  have e1 : 0 + t * g = t * g := by clear h; grind
  have e2 : 0 + t * -g = -(t * g) := by
    clear h e1
    have q : t * -g + t * g = 0 := by rw [← Semiring.left_distrib, Ring.neg_add_cancel, Semiring.mul_zero]
    rw [Semiring.add_comm, Semiring.add_zero]
    calc t * -g = (t * -g + t * g) + -(t * g) := by grind
      _ = -(t * g) := by rw [q]; grind
  rw [e1, e2] at h
  exact h
theorem twice_zero {R : Type} [Ring R] {e g : R} (h : e * g = -(e * g)) : (1 + 1) * e * g = 0 := by
  have e1 : (1 + 1) * e * g = e * g + e * g := by grind
  rw [e1]
  generalize e * g = t at h
  have : t + t = -t + t := by rw [← h]
  rw [this, Ring.neg_add_cancel]
/-- the graded centre is the numbers: A with x A = s (sg A) x ... for the sign s (here: x A = sg A x) -/
theorem centre (h2 : (2 : F) ≠ 0) : ∀ (ds : List F), (∀ d ∈ ds, d ≠ 0) → ∀ A : (cl ds).C, (∀ x : Nat → F, io ds x * A = (cl ds).sg A * io ds x) → ∃ c, A = (cl ds).em c
  | [], _, A, _ => ⟨A, rfl⟩
  | a :: ds, hd, (f, g), h => by
    have ha : a ≠ 0 := hd a List.mem_cons_self
    -- by the first row of the basis: g = 0
    have h1 := h (fun j => if j = 0 then 1 else 0)
    have z : io ds (fun i => (fun j : Nat => if j = 0 then (1 : F) else 0) (i + 1)) = 0 := io_zero ds
    have e1 : io ds (fun i => (fun j : Nat => if j = 0 then (1 : F) else 0) (i + 1)) * f + (cl ds).em a * ((cl ds).sg ((cl ds).em 1) * g) = (cl ds).sg f * io ds (fun i => (fun j : Nat => if j = 0 then (1 : F) else 0) (i + 1)) + (cl ds).em a * ((cl ds).sg (-(cl ds).sg g) * (cl ds).em 1) := (Prod.mk.inj h1).1
    rw [z, (cl ds).sg_em, (cl ds).em_one, (cl ds).sg_neg, (cl ds).sg_sg] at e1
    have e2 : (cl ds).em (2 * a) * g = 0 := by
      rw [(cl ds).em_mul, show (2 : F) = 1 + 1 by clear h1 e1 z h; grind, (cl ds).em_add, (cl ds).em_one]
      exact twice_zero (by rw [Semiring.zero_mul, Semiring.mul_zero, Semiring.one_mul, Semiring.mul_one] at e1; exact neg_zero' e1)
    have g0 : g = 0 := by
      have : (cl ds).em ((2 * a)⁻¹ * (2 * a)) * g = 0 := by
        rw [(cl ds).em_mul, Semiring.mul_assoc, e2]; grind
      rw [Field.inv_mul_cancel (by grind), (cl ds).em_one] at this
      grind
    subst g0
    -- f by what remains
    obtain ⟨c, hc⟩ := centre h2 ds (fun d hd' => hd d (List.mem_cons_of_mem _ hd')) f fun x => by
      have hx := h (fun j => match j with | 0 => 0 | i + 1 => x i)
      have e : io ds x * f + (cl ds).em a * ((cl ds).sg ((cl ds).em 0) * 0) = (cl ds).sg f * io ds x + (cl ds).em a * ((cl ds).sg (-(cl ds).sg 0) * (cl ds).em 0) := (Prod.mk.inj hx).1
      rw [(cl ds).sg_zero, (cl ds).em_zero] at e
      grind
    exact ⟨c, pr hc rfl⟩
end
end Wit

namespace Wit
open Lean.Grind
section
variable {F : Type} [Field F] [DecidableEq F] {n : Nat}
/-- a quadratic form and its product -/
structure QF (F : Type) [Field F] (n : Nat) where
  Q : Vc F n → F
  B : Vc F n → Vc F n → F
  B_add : ∀ x y z, B (x + y) z = B x z + B y z
  B_sc : ∀ c x z, B (x.sc c) z = B x z * c
  B_comm : ∀ x y, B x y = B y x
  Q_add : ∀ x y, Q (x + y) = Q x + Q y + B x y
  Q_sc : ∀ c x, Q (x.sc c) = Q x * (c * c)
section
variable (G : QF F n)
theorem QF.B_add2 (x y z : Vc F n) : G.B x (y + z) = G.B x y + G.B x z := by rw [G.B_comm, G.B_add, G.B_comm y, G.B_comm z]
theorem QF.B_sc2 (c : F) (x z : Vc F n) : G.B x (z.sc c) = G.B x z * c := by rw [G.B_comm, G.B_sc, G.B_comm z]
theorem QF.B_nul (z : Vc F n) : G.B (Vc.nul F n) z = 0 := by
  rw [← sc_nul (n := n) (0 : F), G.B_sc]; grind
theorem QF.B_nul2 (z : Vc F n) : G.B z (Vc.nul F n) = 0 := by rw [G.B_comm, G.B_nul]
theorem QF.Q_nul : G.Q (Vc.nul F n) = 0 := by
  rw [← sc_nul (n := n) (0 : F), G.Q_sc]; grind
theorem QF.B_self (x : Vc F n) : G.B x x = 2 * G.Q x := by
  have h := G.Q_add x x
  have e : x + x = x.sc 2 := Vc.ext fun i _ => by rw [add_f, sc_f]; grind
  rw [e, G.Q_sc] at h
  grind
/-- the reflection -/
def QF.rf (u x : Vc F n) : Vc F n := x + u.sc (-(G.Q u)⁻¹ * G.B x u)
theorem QF.rf_add (u x y : Vc F n) : G.rf u (x + y) = G.rf u x + G.rf u y := Vc.ext fun i _ => by
  simp only [QF.rf, add_f, sc_f, G.B_add]; grind
theorem QF.rf_sc (u x : Vc F n) (c : F) : G.rf u (x.sc c) = (G.rf u x).sc c := Vc.ext fun i _ => by
  simp only [QF.rf, add_f, sc_f, G.B_sc]; grind
theorem QF.rf_nul (u : Vc F n) : G.rf u (Vc.nul F n) = Vc.nul F n := Vc.ext fun i _ => by
  simp only [QF.rf, add_f, sc_f, nul_f, G.B_nul]; grind
theorem QF.rf_Q {u : Vc F n} (h : G.Q u ≠ 0) (x : Vc F n) : G.Q (G.rf u x) = G.Q x := by
  unfold QF.rf
  rw [G.Q_add, G.Q_sc, G.B_sc2]; grind
theorem QF.rf_rf {u : Vc F n} (h : G.Q u ≠ 0) (x : Vc F n) : G.rf u (G.rf u x) = x := by
  have e : G.B (G.rf u x) u = -G.B x u := by
    unfold QF.rf
    rw [G.B_add, G.B_sc, G.B_self]; grind
  refine Vc.ext fun i _ => ?_
  show (G.rf u x + u.sc (-(G.Q u)⁻¹ * G.B (G.rf u x) u)).f i = x.f i
  rw [e]
  simp only [QF.rf, add_f, sc_f]; grind
theorem QF.rf_fix {u x : Vc F n} (h : G.B x u = 0) : G.rf u x = x := Vc.ext fun i _ => by
  simp only [QF.rf, add_f, sc_f, h]; grind
/-- several, from the first one to the last one -/
def QF.app : List (Vc F n) → Vc F n → Vc F n
  | [], x => x
  | u :: us, x => QF.app us (G.rf u x)
theorem QF.app_append : ∀ (us vs : List (Vc F n)) (x : Vc F n), G.app (us ++ vs) x = G.app vs (G.app us x)
  | [], _, _ => rfl
  | u :: us, vs, x => QF.app_append us vs (G.rf u x)
theorem QF.app_add : ∀ (us : List (Vc F n)) (x y : Vc F n), G.app us (x + y) = G.app us x + G.app us y
  | [], _, _ => rfl
  | u :: us, x, y => by
    show G.app us (G.rf u (x + y)) = _
    rw [G.rf_add, QF.app_add us]; rfl
theorem QF.app_sc : ∀ (us : List (Vc F n)) (x : Vc F n) (c : F), G.app us (x.sc c) = (G.app us x).sc c
  | [], _, _ => rfl
  | u :: us, x, c => by
    show G.app us (G.rf u (x.sc c)) = _
    rw [G.rf_sc, QF.app_sc us]; rfl
theorem QF.app_nul : ∀ (us : List (Vc F n)), G.app us (Vc.nul F n) = Vc.nul F n
  | [] => rfl
  | u :: us => by
    show G.app us (G.rf u (Vc.nul F n)) = _
    rw [G.rf_nul, QF.app_nul us]
theorem QF.app_Q : ∀ (us : List (Vc F n)), (∀ u ∈ us, G.Q u ≠ 0) → ∀ x, G.Q (G.app us x) = G.Q x
  | [], _, _ => rfl
  | u :: us, h, x => by
    show G.Q (G.app us (G.rf u x)) = _
    rw [QF.app_Q us (fun v hv => h v (List.mem_cons_of_mem _ hv)), G.rf_Q (h u List.mem_cons_self)]
theorem QF.app_rev : ∀ (us : List (Vc F n)), (∀ u ∈ us, G.Q u ≠ 0) → ∀ x, G.app us.reverse (G.app us x) = x
  | [], _, _ => rfl
  | u :: us, h, x => by
    show G.app (u :: us).reverse (G.app us (G.rf u x)) = x
    rw [List.reverse_cons, G.app_append, QF.app_rev us (fun v hv => h v (List.mem_cons_of_mem _ hv))]
    exact G.rf_rf (h u List.mem_cons_self) x
theorem QF.app_rev2 (us : List (Vc F n)) (h : ∀ u ∈ us, G.Q u ≠ 0) (x : Vc F n) : G.app us (G.app us.reverse x) = x := by
  have := G.app_rev us.reverse (fun u hu => h u (List.mem_reverse.mp hu)) x
  rw [List.reverse_reverse] at this
  exact this
theorem QF.app_fix : ∀ (us : List (Vc F n)) {x : Vc F n}, (∀ u ∈ us, G.B x u = 0) → G.app us x = x
  | [], _, _ => rfl
  | u :: us, x, h => by
    show G.app us (G.rf u x) = x
    rw [G.rf_fix (h u List.mem_cons_self)]
    exact QF.app_fix us fun v hv => h v (List.mem_cons_of_mem _ hv)
/-- the product of the values -/
def QF.pq (us : List (Vc F n)) : F := us.foldl (fun t u => t * G.Q u) 1
theorem QF.pq_from : ∀ (us : List (Vc F n)) (t : F), us.foldl (fun t u => t * G.Q u) t = t * G.pq us
  | [], t => by show t = t * 1; grind
  | u :: us, t => by
    show us.foldl (fun t u => t * G.Q u) (t * G.Q u) = t * us.foldl (fun t u => t * G.Q u) (1 * G.Q u)
    rw [QF.pq_from us, QF.pq_from us (1 * G.Q u)]; grind
theorem QF.pq_cons (u : Vc F n) (us : List (Vc F n)) : G.pq (u :: us) = G.Q u * G.pq us := by
  show us.foldl (fun t u => t * G.Q u) (1 * G.Q u) = _
  rw [G.pq_from]; grind
theorem QF.pq_append : ∀ (us vs : List (Vc F n)), G.pq (us ++ vs) = G.pq us * G.pq vs
  | [], vs => by show G.pq vs = 1 * G.pq vs; grind
  | u :: us, vs => by
    rw [List.cons_append, G.pq_cons, G.pq_cons, QF.pq_append us vs]; grind
theorem QF.pq_rev : ∀ (us : List (Vc F n)), G.pq us.reverse = G.pq us
  | [] => rfl
  | u :: us => by
    rw [List.reverse_cons, G.pq_append, QF.pq_rev us, G.pq_cons, G.pq_cons]
    show _ * (G.Q u * 1) = _
    grind
theorem QF.pq_ne : ∀ (us : List (Vc F n)), (∀ u ∈ us, G.Q u ≠ 0) → G.pq us ≠ 0
  | [], _ => fun h => Field.zero_ne_one h.symm
  | u :: us, h => by
    rw [G.pq_cons]
    have h1 := h u List.mem_cons_self
    have h2 := QF.pq_ne us fun v hv => h v (List.mem_cons_of_mem _ hv)
    grind
end

/-! ### the spinor norm is well defined -/
theorem io_congr : ∀ (ds : List F) {x y : Nat → F}, (∀ i, i < ds.length → x i = y i) → io ds x = io ds y
  | [], _, _, _ => rfl
  | a :: ds, x, y, h => pr (io_congr ds fun i hi => h (i + 1) (by simp; omega)) (by rw [h 0 (by simp)])
theorem io_sc : ∀ (ds : List F) (x : Nat → F) (c : F), io ds (fun i => x i * c) = io ds x * (cl ds).em c
  | [], x, c => (Semiring.zero_mul (c : F)).symm
  | a :: ds, x, c => by
    refine pr ?_ ?_
    · show io ds (fun i => x (i + 1) * c) = io ds (fun i => x (i + 1)) * (cl ds).em c + (cl ds).em a * ((cl ds).sg ((cl ds).em (x 0)) * 0)
      rw [io_sc ds]; grind
    · show (cl ds).em (x 0 * c) = (cl ds).sg (io ds fun i => x (i + 1)) * 0 + (cl ds).em (x 0) * (cl ds).em c
      rw [(cl ds).em_mul]; grind
theorem SR.em_neg (S : SR F) (a : F) : S.em (-a) = -S.em a := by
  have h : S.em (-a) + S.em a = 0 := by rw [← S.em_add, Ring.neg_add_cancel, S.em_zero]
  calc S.em (-a) = (S.em (-a) + S.em a) + -S.em a := by clear h; grind
    _ = -S.em a := by rw [h]; clear h; grind
theorem ring_nm {R : Type} [Ring R] (a b : R) : -(a * b) = -a * b := by grind
theorem ring_self {R : Type} [Ring R] (a : R) : a + -a = 0 := by grind
/-- a change to a diagonal form -/
structure Dg (G : QF F n) where
  ds : List F
  ne : ∀ d ∈ ds, d ≠ 0
  ph : Vc F n → Nat → F
  add : ∀ x y i, ph (x + y) i = ph x i + ph y i
  sc : ∀ c x i, ph (x.sc c) i = ph x i * c
  val : ∀ x, q0 ds (ph x) = G.Q x
  onto : ∀ t : Nat → F, ∃ x, ∀ i, i < ds.length → ph x i = t i
section
variable {G : QF F n} (D : Dg G)
def Dg.i (x : Vc F n) : (cl D.ds).C := io D.ds (D.ph x)
theorem Dg.i_add (x y : Vc F n) : D.i (x + y) = D.i x + D.i y := by
  unfold Dg.i
  rw [← io_add]
  exact io_congr _ fun i _ => D.add x y i
theorem Dg.i_sc (c : F) (x : Vc F n) : D.i (x.sc c) = D.i x * (cl D.ds).em c := by
  unfold Dg.i
  rw [← io_sc]
  exact io_congr _ fun i _ => D.sc c x i
theorem Dg.i_sq (x : Vc F n) : D.i x * D.i x = (cl D.ds).em (G.Q x) := by
  unfold Dg.i
  rw [io_sq, D.val]
theorem ring_pol {R : Type} [Ring R] {a b p q r : R} (h : (a + b) * (a + b) = p + q + r) (ha : a * a = p) (hb : b * b = q) : a * b + b * a = r := by
  have e : (a + b) * (a + b) = a * a + b * b + (a * b + b * a) := by clear h ha hb; grind
  rw [e, ha, hb] at h
  calc a * b + b * a = -(p + q) + (p + q + (a * b + b * a)) := by clear h ha hb e; grind
    _ = r := by rw [h]; clear h ha hb e; grind
theorem Dg.pol (x y : Vc F n) : D.i x * D.i y + D.i y * D.i x = (cl D.ds).em (G.B x y) := by
  refine ring_pol (p := (cl D.ds).em (G.Q x)) (q := (cl D.ds).em (G.Q y)) ?_ (D.i_sq x) (D.i_sq y)
  rw [← D.i_add, D.i_sq, G.Q_add, (cl D.ds).em_add, (cl D.ds).em_add]
theorem ring_tail {R : Type} [Ring R] {a b c d : R} (h : a * b + b * a = c) (hd : d = -c) : a * b + d = -(b * a) := by
  rw [hd, ← h]; clear h hd; grind
theorem Dg.rf {u : Vc F n} (hu : G.Q u ≠ 0) (x : Vc F n) : D.i (G.rf u x) * D.i u = -(D.i u * D.i x) := by
  unfold QF.rf
  rw [D.i_add, D.i_sc, Semiring.right_distrib]
  refine ring_tail (D.pol x u) ?_
  have e : -(G.Q u)⁻¹ * G.B x u * G.Q u = -G.B x u := by
    generalize G.Q u = a at hu
    generalize G.B x u = b
    grind
  rw [Semiring.mul_assoc, (cl D.ds).em_left, Dg.i_sq, ← (cl D.ds).em_neg, ← (cl D.ds).em_mul, e]
def Dg.A : List (Vc F n) → (cl D.ds).C
  | [] => 1
  | u :: us => Dg.A us * D.i u
theorem Dg.i_sg (x : Vc F n) : (cl D.ds).sg (D.i x) = -D.i x := io_sg _ _
theorem Dg.app : ∀ (us : List (Vc F n)), (∀ u ∈ us, G.Q u ≠ 0) → ∀ x, D.i (G.app us x) * D.A us = (cl D.ds).sg (D.A us) * D.i x
  | [], _, x => by
    show D.i x * 1 = (cl D.ds).sg 1 * D.i x
    rw [(cl D.ds).sg_one, Semiring.mul_one, Semiring.one_mul]
  | u :: us, h, x => by
    show D.i (G.app us (G.rf u x)) * (D.A us * D.i u) = (cl D.ds).sg (D.A us * D.i u) * D.i x
    rw [← Semiring.mul_assoc, Dg.app us (fun v hv => h v (List.mem_cons_of_mem _ hv)), (cl D.ds).sg_mul, Semiring.mul_assoc, Semiring.mul_assoc, D.rf (h u List.mem_cons_self), D.i_sg]
    rw [ring_nm]
theorem Dg.A_rv : ∀ (us : List (Vc F n)), D.A us * (cl D.ds).rv (D.A us) = (cl D.ds).em (G.pq us)
  | [] => by
    show (1 : (cl D.ds).C) * (cl D.ds).rv 1 = (cl D.ds).em 1
    rw [← (cl D.ds).em_one, (cl D.ds).rv_em, (cl D.ds).em_one, Semiring.one_mul]
  | u :: us => by
    show D.A us * D.i u * (cl D.ds).rv (D.A us * D.i u) = _
    rw [(cl D.ds).rv_mul, show (cl D.ds).rv (D.i u) = D.i u from io_rv _ _, G.pq_cons, (cl D.ds).em_mul, ← Dg.A_rv us]
    rw [← Semiring.mul_assoc, Semiring.mul_assoc (D.A us), D.i_sq, (cl D.ds).em_c, Semiring.mul_assoc]
/-- reflections whose product is the identity: the product of their values is a square -/
theorem Dg.square {G : QF F n} (D : Dg G) (h2 : (2 : F) ≠ 0) {us : List (Vc F n)} (hu : ∀ u ∈ us, G.Q u ≠ 0) (h : ∀ x, G.app us x = x) : ∃ c, G.pq us = c * c := by
  obtain ⟨c, hc⟩ := centre h2 D.ds D.ne (D.A us) fun t => by
    obtain ⟨x, hx⟩ := D.onto t
    have e : io D.ds t = D.i x := io_congr _ fun i hi => (hx i hi).symm
    rw [e]
    have := D.app us hu x
    rw [h x] at this
    exact this
  refine ⟨c, ?_⟩
  have e := D.A_rv us
  rw [hc, (cl D.ds).rv_em, ← (cl D.ds).em_mul] at e
  have z : (cl D.ds).em (G.pq us + -(c * c)) = 0 := by
    rw [(cl D.ds).em_add, (cl D.ds).em_neg, e, ring_self]
  have := (cl D.ds).em_inj _ z
  grind
theorem Dg.square2 {G : QF F n} (D : Dg G) (h2 : (2 : F) ≠ 0) {us vs : List (Vc F n)} (hu : ∀ u ∈ us, G.Q u ≠ 0) (hv : ∀ u ∈ vs, G.Q u ≠ 0) (h : ∀ x, G.app us x = G.app vs x) : ∃ c, G.pq us * G.pq vs = c * c := by
  obtain ⟨c, hc⟩ := D.square h2 (us := us ++ vs.reverse) (fun u h => (List.mem_append.mp h).elim (hu u) fun z => hv u (List.mem_reverse.mp z)) fun x => by
    rw [G.app_append, h, G.app_rev vs hv]
  exact ⟨c, by rw [← hc, G.pq_append, G.pq_rev]⟩
end
end
end Wit

namespace Wit
open Lean.Grind
section
variable {F : Type} [Field F] [DecidableEq F] {n : Nat}
theorem mul_ne {a b : F} (h : a ≠ 0) (h' : b ≠ 0) : a * b ≠ 0 := by grind
/-- a row times a matrix -/
def ap (M : List (Vc F n)) {m : Nat} (x : Vc F m) : Vc F n := comb M x.f
theorem ap_add (M : List (Vc F n)) {m : Nat} (x y : Vc F m) : ap M (x + y) = ap M x + ap M y := comb_add M x.f y.f
theorem ap_sc (M : List (Vc F n)) {m : Nat} (c : F) (x : Vc F m) : ap M (x.sc c) = (ap M x).sc c := comb_sc M c x.f
theorem ap_nul (M : List (Vc F n)) {m : Nat} : ap M (Vc.nul F m) = Vc.nul F n := comb_zero M
theorem comb_map {m : Nat} (g : Vc F m → Vc F n) (h0 : g (Vc.nul F m) = Vc.nul F n) (ha : ∀ x y, g (x + y) = g x + g y) (hs : ∀ x c, g (x.sc c) = (g x).sc c) : ∀ (M : List (Vc F m)) (w : Nat → F), comb (M.map g) w = g (comb M w)
  | [], _ => h0.symm
  | r :: M, w => by
    show (g r).sc (w 0) + comb (M.map g) (fun i => w (i + 1)) = g (r.sc (w 0) + comb M fun i => w (i + 1))
    rw [comb_map g h0 ha hs M, ha, hs]
theorem ap_map {m : Nat} (M : List (Vc F m)) (N : List (Vc F n)) {l : Nat} (x : Vc F l) : ap (M.map (ap N)) x = ap N (ap M x) := comb_map (ap N) (ap_nul N) (ap_add N) (fun x c => ap_sc N c x) M x.f
theorem ap_ident (x : Vc F n) : ap (ident F n) x = x := comb_ident x
theorem ap_un (M : List (Vc F n)) {i m : Nat} (h : i < M.length) (hm : M.length ≤ m) : ap M (Vc.un F m i) = M.getD i (Vc.nul F n) := comb_un M h hm
theorem ident_mem {i : Nat} (h : i < n) : Vc.un F n i ∈ ident F n := List.mem_map.mpr ⟨i, List.mem_range.mpr h, rfl⟩
theorem ident_all (v : Vc F n) : Spl (ident F n) v := by rw [← comb_ident v]; exact Spl.comb _ _
theorem ident_ind : Ind (ident F n) := fun w h i hi => by
  rw [ident_len] at hi
  have e : (comb (ident F n) w).f i = 0 := by rw [h]; rfl
  rw [comb_f, ident_len, sm_one hi fun l hl hn => by rw [ident_get hl, un_other (Ne.symm hn)]; grind] at e
  rw [ident_get hi, un_self hi] at e
  grind
variable (G : QF F n)
/-- the matrix of a reflection -/
def rfM (u : Vc F n) : List (Vc F n) := (ident F n).map (G.rf u)
theorem rfM_ap (u x : Vc F n) : ap (rfM G u) x = G.rf u x := by
  show comb ((ident F n).map (G.rf u)) x.f = _
  rw [comb_map (G.rf u) (G.rf_nul u) (G.rf_add u) (G.rf_sc u), comb_ident]
/-- a matrix that is a product of reflections -/
structure RP (us : List (Vc F n)) (M : List (Vc F n)) : Prop where
  len : M.length = n
  ne : ∀ u ∈ us, G.Q u ≠ 0
  act : ∀ x : Vc F n, ap M x = G.app us x
theorem RP.ident : RP G [] (ident F n) := ⟨ident_len, (fun _ h => nomatch h), ap_ident⟩
theorem RP.rf {u : Vc F n} (h : G.Q u ≠ 0) : RP G [u] (rfM G u) := ⟨(by simp [rfM, ident_len]), (fun v hv => by rw [List.mem_singleton.mp hv]; exact h), (fun x => rfM_ap G u x)⟩
variable {G}
theorem RP.mul {us vs M N : List (Vc F n)} (a : RP G us M) (b : RP G vs N) : RP G (us ++ vs) (M.map (Wit.ap N)) :=
  ⟨by rw [List.length_map, a.len], fun u hu => (List.mem_append.mp hu).elim (a.ne u) (b.ne u), fun x => by rw [ap_map, a.act, b.act, G.app_append]⟩
theorem RP.at {us M : List (Vc F n)} (a : RP G us M) {i : Nat} (h : i < n) : M.getD i (Vc.nul F n) = G.app us (Vc.un F n i) := by
  rw [← a.act, ap_un M (by rw [a.len]; exact h) (Nat.le_of_eq a.len)]
theorem QF.app_B (us : List (Vc F n)) (h : ∀ u ∈ us, G.Q u ≠ 0) (x y : Vc F n) : G.B (G.app us x) (G.app us y) = G.B x y := by
  have e := G.Q_add (G.app us x) (G.app us y)
  rw [← G.app_add, G.app_Q us h, G.app_Q us h, G.app_Q us h, G.Q_add] at e
  grind
theorem full_of {M : List (Vc F n)} (h : ∀ y : Vc F n, ∃ x : Vc F n, ap M x = y) : Full M 0 n := fun t => by
  obtain ⟨x, hx⟩ := h (Vc.of n t)
  refine ⟨ap M x, Spl.comb _ _, fun i _ hi => ?_⟩
  rw [hx, Vc.of_f hi]
theorem RP.full {us M : List (Vc F n)} (a : RP G us M) : Full M 0 n := full_of fun y => ⟨G.app us.reverse y, by rw [a.act, G.app_rev2 us a.ne]⟩
/-- what undoes it -/
theorem RP.inv {us M N : List (Vc F n)} (a : RP G us M) (hl : N.length = n) (h : ∀ i, i < n → ap M (N.getD i (Vc.nul F n)) = Vc.un F n i) : RP G us.reverse N := by
  refine ⟨hl, fun u hu => a.ne u (List.mem_reverse.mp hu), fun x => ?_⟩
  have e : ap M (ap N x) = x := by
    rw [← ap_map]
    have : N.map (ap M) = Wit.ident F n := by
      refine List.ext_getElem (by rw [List.length_map, hl, ident_len]) fun i h1 h2 => ?_
      rw [List.length_map] at h1
      rw [List.getElem_map]
      have := h i (by omega)
      rw [getD_of (List.getElem?_eq_getElem h1)] at this
      rw [this]
      simp [Wit.ident]
    rw [this, ap_ident]
  rw [← G.app_rev us a.ne (ap N x), ← a.act, e]

/-! ### what determinant does with its rows -/
theorem Full.erase {left : List (Vc F n)} {a m k : Nat} (h : Full left a m) {r : Vc F n} (hk : left[k]? = some r) (hr : r.f a ≠ 0) : Full ((left.eraseIdx k).map (clr (r.sc (r.f a)⁻¹) a)) (a + 1) m :=
  h.next fun x hx => by
    obtain ⟨j, hj, e⟩ := List.mem_iff_getElem.mp hx
    by_cases q : j = k
    · subst q
      rw [List.getElem?_eq_getElem hj, e] at hk
      rw [Option.some.inj hk, clr_head hr]
      exact .nul
    · exact .mem (List.mem_map_of_mem (by
        rw [List.mem_eraseIdx_iff_getElem]
        exact ⟨j, hj, q, e⟩))

/-! ### the wide rows of the inverse -/
def wd (r : Vc F n) (i : Nat) : Vc F (n + n) := Vc.of (n + n) fun j => if j < n then r.f j else (Vc.un F n i).f (j - n)
def wide (M : List (Vc F n)) : List (Vc F (n + n)) := (List.range M.length).map fun i => wd (M.getD i (Vc.nul F n)) i
theorem wide_len (M : List (Vc F n)) : (wide M).length = M.length := by simp [wide]
theorem wide_get (M : List (Vc F n)) {i : Nat} (h : i < M.length) : (wide M).getD i (Vc.nul F (n + n)) = wd (M.getD i (Vc.nul F n)) i := by
  simp [wide, List.getD, h]
theorem wide_low (M : List (Vc F n)) (w : Nat → F) {j : Nat} (h : j < n) : (comb (wide M) w).f j = (comb M w).f j := by
  rw [comb_f, comb_f, wide_len]
  refine sm_congr fun i hi => ?_
  rw [wide_get M hi]
  unfold wd
  rw [Vc.of_f (by omega), if_pos h]
theorem wide_high (M : List (Vc F n)) (hM : M.length = n) (w : Nat → F) {j : Nat} (h : j < n) : (comb (wide M) w).f (n + j) = w j := by
  rw [comb_f, wide_len, sm_one (j := j) (by omega) fun i hi hn => ?_]
  · rw [wide_get M (by omega)]
    unfold wd
    rw [Vc.of_f (by omega), if_neg (by omega), Nat.add_sub_cancel_left, un_self h]; grind
  · rw [wide_get M hi]
    unfold wd
    rw [Vc.of_f (by omega), if_neg (by omega), Nat.add_sub_cancel_left, un_other (Ne.symm hn)]; grind
theorem wide_full {M : List (Vc F n)} (h : Full M 0 n) : Full (wide M) 0 n := fun t => by
  obtain ⟨v, sv, hv⟩ := h t
  obtain ⟨w, rfl⟩ := sv.out
  exact ⟨comb (wide M) w, Spl.comb _ _, fun i h1 h2 => by rw [wide_low M w h2]; exact hv i h1 h2⟩
/-- the pivots and the rest of the inverse -/
theorem wide_red {M : List (Vc F n)} (hM : M.length = n) (h : Full M 0 n) : (redTo (wide M) (n + n)).piv = List.range n ∧ (redTo (wide M) (n + n)).table.length = n ∧
    ∀ i, i < n → ap M (Vc.of n fun j => (((redTo (wide M) (n + n)).table.getD i (Vc.nul F (n + n))).f (n + j))) = Vc.un F n i := by
  have r := redTo_rest (wide_full h) (by rw [wide_len, hM]) n
  have p := (redTo_full (wide_full h) n (Nat.le_refl _)).2
  have I := redTo_inv (wide M) n
  have hl : (redTo (wide M) n).table.length = n := by rw [I.len, p, List.length_range]
  rw [r]
  refine ⟨p, hl, fun i hi => ?_⟩
  have hi' : i < (redTo (wide M) n).table.length := by omega
  have e : (redTo (wide M) n).table[i]? = some (redTo (wide M) n).table[i] := List.getElem?_eq_getElem hi'
  rw [getD_of e]
  generalize hT : (redTo (wide M) n).table[i] = T at e
  have s : Spl (wide M) T := I.from' _ (List.mem_append_right _ (by rw [← hT]; exact List.getElem_mem hi'))
  obtain ⟨w, rfl⟩ := s.out
  refine Vc.ext fun j hj => ?_
  have d := I.del i j j (by rw [p, List.getElem?_range hj]) _ e
  rw [wide_low M w hj] at d
  have : ap M (Vc.of n fun j => (comb (wide M) w).f (n + j)) = comb M w := comb_congr fun l hl => by
    rw [Vc.of_f (by omega), wide_high M hM w (by omega)]
  rw [this, d, un_f hj]
  by_cases q : i = j
  · rw [if_pos q, if_pos q.symm]
  · rw [if_neg q, if_neg (Ne.symm q)]

/-! ### rows that span what is orthogonal -/
def wt (G : QF F n) (rows : List (Vc F n)) (x : Vc F n) : Vc F rows.length := Vc.of rows.length fun i => G.B (rows.getD i (Vc.nul F n)) x
def lo (G : QF F n) (rows : List (Vc F n)) (x : Vc F n) : List (Vc F n) := (ker [wt G rows x]).map (ap rows)
theorem B_comb (G : QF F n) (x : Vc F n) : ∀ (rows : List (Vc F n)) (w : Nat → F), G.B (comb rows w) x = sm (fun i => G.B (rows.getD i (Vc.nul F n)) x * w i) rows.length
  | [], _ => G.B_nul x
  | r :: rows, w => by
    rw [List.length_cons, sm_first]
    show G.B (r.sc (w 0) + comb rows fun i => w (i + 1)) x = _
    rw [G.B_add, G.B_sc, B_comb G x rows]
    rfl
theorem wt_dot (G : QF F n) (rows : List (Vc F n)) (x : Vc F n) (w : Nat → F) : dot (wt G rows x).f w rows.length = G.B (comb rows w) x := by
  rw [B_comb]
  exact sm_congr fun i hi => by rw [wt, Vc.of_f hi]
theorem lo_iff {rows : List (Vc F n)} {x v : Vc F n} : Spl (lo G rows x) v ↔ Spl rows v ∧ G.B v x = 0 := by
  constructor
  · intro h
    refine Spn.all (P := fun v => Spl rows v ∧ G.B v x = 0) ⟨.nul, G.B_nul x⟩ (fun a b ha hb => ⟨.add ha.1 hb.1, by rw [G.B_add, ha.2, hb.2]; grind⟩) (fun c a ha => ⟨.sc c ha.1, by rw [G.B_sc, ha.2]; grind⟩) (fun a ha => ?_) h
    obtain ⟨w, hw, rfl⟩ := List.mem_map.mp ha
    refine ⟨Spl.comb _ _, ?_⟩
    have := ker_iff.mp (.mem hw) (wt G rows x) (List.mem_singleton.mpr rfl)
    rw [wt_dot] at this
    exact this
  · rintro ⟨s, hb⟩
    obtain ⟨w, rfl⟩ := s.out
    have e : comb rows w = ap rows (Vc.of rows.length w) := comb_congr fun i hi => (Vc.of_f hi).symm
    have k : Spl (ker [wt G rows x]) (Vc.of rows.length w) := ker_iff.mpr fun r hr => by
      rw [List.mem_singleton.mp hr, wt_dot]
      rw [e] at hb
      exact hb
    rw [e]
    have main : ∀ z : Vc F rows.length, Spl (ker [wt G rows x]) z → Spl (lo G rows x) (ap rows z) := fun z hz =>
      Spn.all (P := fun z => Spl (lo G rows x) (ap rows z)) (by rw [ap_nul]; exact .nul) (fun a b ha hb => by rw [ap_add]; exact .add ha hb) (fun c a ha => by rw [ap_sc]; exact .sc c ha) (fun a ha => .mem (List.mem_map_of_mem ha)) hz
    exact main _ k
theorem lo_ind {rows : List (Vc F n)} {x : Vc F n} (h : Ind rows) : Ind (lo G rows x) := fun w hw i hi => by
  have e : comb (lo G rows x) w = ap rows (comb (ker [wt G rows x]) w) := comb_map (ap rows) (ap_nul rows) (ap_add rows) (fun a c => ap_sc rows c a) _ _
  rw [e] at hw
  have z : comb (ker [wt G rows x]) w = Vc.nul F rows.length := Vc.ext fun j hj => h _ hw j hj
  refine redT_ind _ w z i ?_
  show i < (ker [wt G rows x]).length
  rw [show (lo G rows x).length = (ker [wt G rows x]).length from List.length_map _] at hi
  exact hi
theorem lo_len {rows : List (Vc F n)} {x : Vc F n} (hx : Spl rows x) (hq : G.B x x ≠ 0) : (lo G rows x).length < rows.length := by
  rw [show (lo G rows x).length = (ker [wt G rows x]).length from List.length_map _]
  refine ker_len ⟨wt G rows x, List.mem_singleton.mpr rfl, fun z => hq ?_⟩
  obtain ⟨w, e⟩ := hx.out
  have := wt_dot G rows x w
  rw [z, ← e] at this
  rw [← this]
  rw [dot_comm]
  exact dot_nul _ _

/-! ### a row of a value other than 0 -/
theorem val_none {rows : List (Vc F n)} (h1 : ∀ r ∈ rows, G.Q r = 0) (h2 : ∀ i k, k < i → i < rows.length → G.Q (rows.getD i (Vc.nul F n) + (rows.getD k (Vc.nul F n)).sc 1) = 0) : ∀ v, Spl rows v → G.Q v = 0 := by
  have m : ∀ i, i < rows.length → rows.getD i (Vc.nul F n) ∈ rows := fun i hi => by
    rw [getD_of (List.getElem?_eq_getElem hi)]; exact List.getElem_mem hi
  have b : ∀ i k, i < rows.length → k < rows.length → G.B (rows.getD i (Vc.nul F n)) (rows.getD k (Vc.nul F n)) = 0 := fun i k hi hk => by
    rcases Nat.lt_trichotomy i k with q | q | q
    · have := h2 k i q hk
      rw [sc_one, G.Q_add, h1 _ (m i hi), h1 _ (m k hk)] at this
      rw [G.B_comm]; grind
    · subst q
      rw [G.B_self, h1 _ (m i hi)]; grind
    · have := h2 i k q hi
      rw [sc_one, G.Q_add, h1 _ (m i hi), h1 _ (m k hk)] at this
      grind
  have bb : ∀ r ∈ rows, ∀ s ∈ rows, G.B r s = 0 := fun r hr s hs => by
    obtain ⟨i, hi, rfl⟩ := List.mem_iff_getElem.mp hr
    obtain ⟨k, hk, rfl⟩ := List.mem_iff_getElem.mp hs
    have := b i k hi hk
    rw [getD_of (List.getElem?_eq_getElem hi), getD_of (List.getElem?_eq_getElem hk)] at this
    exact this
  have bs : ∀ r ∈ rows, ∀ v, Spl rows v → G.B v r = 0 := fun r hr v hv =>
    Spn.all (P := fun v => G.B v r = 0) (G.B_nul r) (fun a c ha hc => by rw [G.B_add, ha, hc]; grind) (fun c a ha => by rw [G.B_sc, ha]; grind) (fun s hs => bb s hs r hr) hv
  have bv : ∀ v w, Spl rows v → Spl rows w → G.B v w = 0 := fun v w hv hw =>
    Spn.all (P := fun w => G.B v w = 0) (G.B_nul2 v) (fun a c ha hc => by rw [G.B_add2, ha, hc]; grind) (fun c a ha => by rw [G.B_sc2, ha]; grind) (fun s hs => bs s hs v hv) hw
  intro v hv
  induction hv with
  | nul => exact G.Q_nul
  | mem h => exact h1 _ h
  | add a b iha ihb => rw [G.Q_add, iha, ihb, bv _ _ a b]; grind
  | sc c a iha => rw [G.Q_sc, iha]; grind

/-! ### the loop of reflections_of -/
structure LI (G : QF F n) (us0 : List (Vc F n)) (rows usf found : List (Vc F n)) (X : Vc F n → Prop) : Prop where
  eq : ∀ x, G.app us0 x = G.app found (G.app usf x)
  nf : ∀ u ∈ found, G.Q u ≠ 0
  nu : ∀ u ∈ usf, G.Q u ≠ 0
  ind : Ind rows
  fix : ∀ v, X v → G.app usf v = v
  orth : ∀ v r, X v → Spl rows r → G.B r v = 0
  all : ∀ v, Spn (fun r => X r ∨ r ∈ rows) v
theorem LI.start {us0 : List (Vc F n)} (h : ∀ u ∈ us0, G.Q u ≠ 0) : LI G us0 (ident F n) us0 [] fun _ => False :=
  ⟨fun _ => rfl, fun _ h => (nomatch h), h, ident_ind, fun _ h => h.elim, fun _ _ h => h.elim, fun v => (ident_all v).le fun _ hr => .mem (.inr hr)⟩
/-- some row has a value other than 0 -/
theorem LI.some {us0 rows usf found : List (Vc F n)} {X : Vc F n → Prop} (L : LI G us0 rows usf found X) (nd : ∀ x, (∀ y, G.B x y = 0) → x = Vc.nul F n) (hr : 0 < rows.length) : ¬ ∀ v, Spl rows v → G.Q v = 0 := fun h => by
  have hm : rows.getD 0 (Vc.nul F n) ∈ rows := by rw [getD_of (List.getElem?_eq_getElem hr)]; exact List.getElem_mem hr
  have b : ∀ w, Spl rows w → G.B (rows.getD 0 (Vc.nul F n)) w = 0 := fun w hw => by
    have := G.Q_add (rows.getD 0 (Vc.nul F n)) w
    rw [h _ (.add (.mem hm) hw), h _ (.mem hm), h _ hw] at this
    grind
  have z := nd (rows.getD 0 (Vc.nul F n)) fun y =>
    Spn.all (P := fun y => G.B (rows.getD 0 (Vc.nul F n)) y = 0) (G.B_nul2 _) (fun a c ha hc => by rw [G.B_add2, ha, hc]; grind) (fun c a ha => by rw [G.B_sc2, ha]; grind)
      (fun s hs => hs.elim (fun q => L.orth s _ q (.mem hm)) fun q => b s (.mem q)) (L.all y)
  have c := L.ind (Vc.un F rows.length 0).f (by rw [comb_un rows hr (Nat.le_refl _), z]) 0 hr
  rw [un_self hr] at c
  exact Field.zero_ne_one c.symm
/-- the rows between x and y -/
def btw (G : QF F n) (x y : Vc F n) [Decidable (x = y)] : List (Vc F n) := if x = y then [] else if G.Q (y + x.sc (-1)) ≠ 0 then [y + x.sc (-1)] else [x + y, y]
theorem btw_ok {x y : Vc F n} [Decidable (x = y)] (hx : G.Q x ≠ 0) (hy : G.Q y = G.Q x) (h2 : (2 : F) ≠ 0) : G.app (btw G x y) x = y ∧ ∀ u ∈ btw G x y, G.Q u ≠ 0 := by
  unfold btw
  by_cases e : x = y
  · rw [if_pos e]
    exact ⟨e, fun _ h => nomatch h⟩
  · rw [if_neg e]
    have qd : G.Q (y + x.sc (-1)) = 2 * G.Q x - G.B x y := by
      rw [G.Q_add, G.Q_sc, G.B_sc2, hy, G.B_comm y]; grind
    by_cases hd : G.Q (y + x.sc (-1)) ≠ 0
    · rw [if_pos hd]
      refine ⟨?_, fun u hu => by rw [List.mem_singleton.mp hu]; exact hd⟩
      show G.rf (y + x.sc (-1)) x = y
      have eb : G.B x (y + x.sc (-1)) = -G.Q (y + x.sc (-1)) := by
        rw [G.B_add2, G.B_sc2, G.B_self, qd]; grind
      refine Vc.ext fun i _ => ?_
      unfold QF.rf
      rw [eb]
      generalize G.Q (y + x.sc (-1)) = t at hd
      simp only [add_f, sc_f]
      grind
    · rw [if_neg hd]
      have hd : G.Q (y + x.sc (-1)) = 0 := Classical.not_not.mp hd
      have qs : G.Q (x + y) = 4 * G.Q x := by rw [G.Q_add, hy]; grind
      have qn : G.Q (x + y) ≠ 0 := by
        rw [qs, show (4 : F) * G.Q x = 2 * (2 * G.Q x) by clear qd qs hd e hx; grind]
        exact mul_ne h2 (mul_ne h2 hx)
      have hy0 : G.Q y ≠ 0 := by rw [hy]; exact hx
      refine ⟨?_, fun u hu => ?_⟩
      · show G.rf y (G.rf (x + y) x) = y
        have e1 : G.rf (x + y) x = y.sc (-1) := by
          have eb : G.B x (x + y) = G.Q (x + y) := by
            rw [G.B_add2, G.B_self, qs]; grind
          refine Vc.ext fun i _ => ?_
          unfold QF.rf
          rw [eb]
          generalize G.Q (x + y) = t at qn
          simp only [add_f, sc_f]
          grind
        rw [e1]
        refine Vc.ext fun i _ => ?_
        unfold QF.rf
        rw [G.B_sc, G.B_self]
        generalize G.Q y = t at hy0
        simp only [add_f, sc_f]
        grind
      · rcases List.mem_cons.mp hu with q | q
        · rw [q]; exact qn
        · rw [List.mem_singleton.mp q]; exact hy0
theorem btw_orth {x y v : Vc F n} [Decidable (x = y)] (h1 : G.B v x = 0) (h2 : G.B v y = 0) : ∀ u ∈ btw G x y, G.B v u = 0 := fun u hu => by
  unfold btw at hu
  split at hu
  · exact nomatch hu
  · split at hu
    · rw [List.mem_singleton.mp hu, G.B_add2, G.B_sc2, h1, h2]; grind
    · rcases List.mem_cons.mp hu with q | q
      · rw [q, G.B_add2, h1, h2]; grind
      · rw [List.mem_singleton.mp q]; exact h2
theorem LI.step {us0 rows usf found : List (Vc F n)} {X : Vc F n → Prop} (L : LI G us0 rows usf found X) (h2 : (2 : F) ≠ 0) {x : Vc F n} (hx : Spl rows x) (hq : G.Q x ≠ 0) [Decidable (x = G.app usf x)] :
    LI G us0 (lo G rows x) (usf ++ (btw G x (G.app usf x)).reverse) (btw G x (G.app usf x) ++ found) fun v => X v ∨ v = x := by
  obtain ⟨b1, b2⟩ := btw_ok (y := G.app usf x) hq (G.app_Q usf L.nu x) h2
  refine ⟨fun v => ?_, fun u hu => (List.mem_append.mp hu).elim (b2 u) (L.nf u), fun u hu => (List.mem_append.mp hu).elim (L.nu u) fun z => b2 u (List.mem_reverse.mp z), lo_ind L.ind, fun v hv => ?_, fun v r hv hr => ?_, fun v => ?_⟩
  · rw [L.eq, G.app_append, G.app_append, G.app_rev2 _ b2]
  · rw [G.app_append]
    rcases hv with hv | rfl
    · rw [L.fix v hv]
      refine G.app_fix _ fun u hu => btw_orth ?_ ?_ u (List.mem_reverse.mp hu)
      · rw [G.B_comm]; exact L.orth v x hv hx
      · have := G.app_B usf L.nu v x
        rw [L.fix v hv] at this
        rw [this, G.B_comm]; exact L.orth v x hv hx
    · have e := G.app_rev _ b2 v
      rw [b1] at e
      exact e
  · obtain ⟨s, hb⟩ := lo_iff.mp hr
    rcases hv with hv | rfl
    · exact L.orth v r hv s
    · exact hb
  · refine (L.all v).le fun r hr => ?_
    rcases hr with hr | hr
    · exact .mem (.inl (.inl hr))
    · have e : r = (r + x.sc (-(G.B r x * (2 * G.Q x)⁻¹))) + x.sc (G.B r x * (2 * G.Q x)⁻¹) := Vc.ext fun i _ => by simp only [add_f, sc_f]; grind
      rw [e]
      refine .add (Spn.le (fun w hw => .mem (.inr hw)) (lo_iff (G := G) (x := x).mpr ⟨.add (.mem hr) (.sc _ hx), ?_⟩)) (.sc _ (.mem (.inl (.inr rfl))))
      rw [G.B_add, G.B_sc, G.B_self]
      have : 2 * G.Q x ≠ 0 := by grind
      grind
theorem LI.end {us0 usf found : List (Vc F n)} {X : Vc F n → Prop} (L : LI G us0 [] usf found X) (x : Vc F n) : G.app us0 x = G.app found x := by
  rw [L.eq]
  congr 1
  exact Spn.all (P := fun x => G.app usf x = x) (G.app_nul _) (fun a b ha hb => by rw [G.app_add, ha, hb]) (fun c a ha => by rw [G.app_sc, ha]) (fun r hr => hr.elim (L.fix r) fun z => nomatch z) (L.all x)
end
end Wit

namespace Wit
open Lean.Grind
section
variable {F : Type} [Field F] [DecidableEq F] {n : Nat}
/-- a double sum -/
def s2 (g : Nat → Nat → F) (a b : Nat) : F := sm (fun i => sm (fun j => g i j) b) a
theorem s2_congr {g h : Nat → Nat → F} {a b : Nat} (e : ∀ i j, i < a → j < b → g i j = h i j) : s2 g a b = s2 h a b := sm_congr fun i hi => sm_congr fun j hj => e i j hi hj
theorem s2_add (g h : Nat → Nat → F) (a b : Nat) : s2 (fun i j => g i j + h i j) a b = s2 g a b + s2 h a b := by
  unfold s2
  rw [← sm_add]
  exact sm_congr fun i _ => sm_add _ _ _
theorem s2_mul (c : F) (g : Nat → Nat → F) (a b : Nat) : s2 (fun i j => c * g i j) a b = c * s2 g a b := by
  unfold s2
  rw [← sm_mul]
  exact sm_congr fun i _ => sm_mul _ _ _
theorem s2_swap (g : Nat → Nat → F) (a b : Nat) : s2 g a b = s2 (fun j i => g i j) b a := sm_swap g a b
/-- the value, the product as the program reckons them -/
def qA (A : Nat → Nat → F) (x : Vc F n) : F := sm (fun i => x.f i * dot (A i) x.f n) n
def fA (A : Nat → Nat → F) (y : Vc F n) : Vc F n := Vc.of n fun i => dot (fun j => A i j + A j i) y.f n
def bA (A : Nat → Nat → F) (x y : Vc F n) : F := dot x.f (fA A y).f n
theorem qA_s2 (A : Nat → Nat → F) (x : Vc F n) : qA A x = s2 (fun i j => A i j * (x.f i * x.f j)) n n := sm_congr fun i _ => by
  show x.f i * dot (A i) x.f n = _
  unfold dot
  rw [← sm_mul]
  exact sm_congr fun j _ => by grind
theorem bA_s2 (A : Nat → Nat → F) (x y : Vc F n) : bA A x y = s2 (fun i j => A i j * (x.f i * y.f j + x.f j * y.f i)) n n := by
  have e1 : bA A x y = s2 (fun i j => (A i j + A j i) * (x.f i * y.f j)) n n := sm_congr fun i hi => by
    show x.f i * (fA A y).f i = _
    rw [show (fA A y).f i = dot (fun j => A i j + A j i) y.f n from Vc.of_f hi]
    unfold dot
    rw [← sm_mul]
    exact sm_congr fun j _ => by grind
  rw [e1, s2_congr (h := fun i j => A i j * (x.f i * y.f j) + A j i * (x.f i * y.f j)) fun i j _ _ => by grind]
  rw [s2_congr (g := fun i j => A i j * (x.f i * y.f j + x.f j * y.f i)) (h := fun i j => A i j * (x.f i * y.f j) + A i j * (x.f j * y.f i)) fun i j _ _ => by grind]
  rw [s2_add, s2_add, s2_swap (fun i j => A j i * (x.f i * y.f j))]
/-- the form of a matrix -/
def QF.of (n : Nat) (A : Nat → Nat → F) : QF F n where
  Q := qA A
  B := bA A
  B_add := fun x y z => by
    rw [bA_s2, bA_s2, bA_s2, ← s2_add]
    exact s2_congr fun i j _ _ => by simp only [add_f]; grind
  B_sc := fun c x z => by
    rw [bA_s2, bA_s2, CommSemiring.mul_comm, ← s2_mul]
    exact s2_congr fun i j _ _ => by simp only [sc_f]; grind
  B_comm := fun x y => by
    rw [bA_s2, bA_s2]
    exact s2_congr fun i j _ _ => by grind
  Q_add := fun x y => by
    rw [qA_s2, qA_s2, qA_s2, bA_s2, ← s2_add, ← s2_add]
    exact s2_congr fun i j _ _ => by simp only [add_f]; grind
  Q_sc := fun c x => by
    rw [qA_s2, qA_s2, CommSemiring.mul_comm, ← s2_mul]
    exact s2_congr fun i j _ _ => by simp only [sc_f]; grind
theorem sm_split (f : Nat → F) (a : Nat) : ∀ b, sm f (a + b) = sm f a + sm (fun t => f (a + t)) b
  | 0 => by show sm f a = sm f a + 0; grind
  | b + 1 => by
    show sm f (a + b) + f (a + b) = sm f a + (sm (fun t => f (a + t)) b + f (a + b))
    rw [sm_split f a b]; grind
/-- upper triangular -/
def Tri (A : Nat → Nat → F) (n : Nat) : Prop := ∀ i j, i < n → j < i → A i j = 0
/-- the value as the law reckons it -/
def lq (A : Nat → Nat → F) (x : Vc F n) : F := sm (fun i => sm (fun t => A i (i + t) * (x.f i * x.f (i + t))) (n - i)) n
theorem lq_eq {A : Nat → Nat → F} (h : Tri A n) (x : Vc F n) : lq A x = qA A x := by
  rw [qA_s2]
  refine sm_congr fun i hi => ?_
  have := sm_split (fun j => A i j * (x.f i * x.f j)) i (n - i)
  rw [show i + (n - i) = n by omega] at this
  rw [this, sm_zero (f := fun j => A i j * (x.f i * x.f j)) fun j hj => by rw [h i j hi hj]; grind]
  show sm _ _ = 0 + sm _ _
  grind
/-- the restricted form's matrix -/
def rA (G : QF F n) (rows : List (Vc F n)) (i j : Nat) : F := if i < j then G.B (rows.getD i (Vc.nul F n)) (rows.getD j (Vc.nul F n)) else if i = j then G.Q (rows.getD i (Vc.nul F n)) else 0
theorem rA_tri (G : QF F n) (rows : List (Vc F n)) (m : Nat) : Tri (rA G rows) m := fun i j _ h => by
  unfold rA
  rw [if_neg (by omega), if_neg (by omega)]
theorem comb_last (rs : List (Vc F n)) (w : Nat → F) : True := trivial
theorem rA_val (G : QF F n) : ∀ (rows : List (Vc F n)) (w : Nat → F), s2 (fun i j => rA G rows i j * (w i * w j)) rows.length rows.length = G.Q (comb rows w)
  | [], w => G.Q_nul.symm
  | r :: rs, w => by
    have e0 : rA G (r :: rs) 0 0 = G.Q r := by
      unfold rA
      rw [if_neg (by omega), if_pos rfl]
      rfl
    have e1 : ∀ j, rA G (r :: rs) 0 (j + 1) = G.B r (rs.getD j (Vc.nul F n)) := fun j => by
      unfold rA
      rw [if_pos (by omega)]
      rfl
    have e2 : ∀ i, rA G (r :: rs) (i + 1) 0 = 0 := fun i => by
      unfold rA
      rw [if_neg (by omega), if_neg (by omega)]
    have e3 : ∀ i j, rA G (r :: rs) (i + 1) (j + 1) = rA G rs i j := fun i j => by
      unfold rA
      by_cases h1 : i < j
      · rw [if_pos (by omega), if_pos h1]; rfl
      · rw [if_neg (by omega), if_neg h1]
        by_cases h2 : i = j
        · rw [if_pos (by omega), if_pos h2]; rfl
        · rw [if_neg (by omega), if_neg h2]
    show s2 _ (rs.length + 1) (rs.length + 1) = G.Q (r.sc (w 0) + comb rs fun i => w (i + 1))
    rw [G.Q_add, G.Q_sc, ← rA_val G rs, G.B_comm, B_comb]
    unfold s2
    rw [sm_first, sm_first]
    have t1 : sm (fun i => sm (fun j => rA G (r :: rs) (i + 1) j * (w (i + 1) * w j)) (rs.length + 1)) rs.length = sm (fun i => sm (fun j => rA G rs i j * (w (i + 1) * w (j + 1))) rs.length) rs.length := sm_congr fun i _ => by
      rw [sm_first, e2]
      rw [sm_congr (f := fun j => rA G (r :: rs) (i + 1) (j + 1) * (w (i + 1) * w (j + 1))) (g := fun j => rA G rs i j * (w (i + 1) * w (j + 1))) fun j _ => by rw [e3]]
      grind
    have t2 : sm (fun j => rA G (r :: rs) 0 (j + 1) * (w 0 * w (j + 1))) rs.length = sm (fun j => G.B (rs.getD j (Vc.nul F n)) (r.sc (w 0)) * w (j + 1)) rs.length := sm_congr fun j _ => by
      rw [e1, G.B_sc2, G.B_comm]; grind
    rw [t1, t2]
    show rA G (r :: rs) 0 0 * (w 0 * w 0) + _ + _ = _
    rw [e0]
    grind
/-- rows that are a basis -/
def Bas (P : List (Vc F n)) : Prop := P.length = n ∧ ∃ psi : Vc F n → Vc F n, (∀ y, ap P (psi y) = y) ∧ ∀ x, psi (ap P x) = x
theorem Bas.ident : Bas (Wit.ident F n) := ⟨ident_len, id, ap_ident, ap_ident⟩
theorem getD_set {α : Type} {l : List α} {i j : Nat} {x d : α} (h : i < l.length) : (l.set i x).getD j d = if j = i then x else l.getD j d := by
  by_cases e : j = i
  · subst e
    rw [if_pos rfl, getD_of (List.getElem?_set_self h)]
  · rw [if_neg e]
    simp only [List.getD]
    rw [List.getElem?_set_ne (Ne.symm e)]
theorem Bas.op {P : List (Vc F n)} (b : Bas P) {i j : Nat} (hi : i < n) (hj : j < n) (hij : j ≠ i) (c : F) : Bas (P.set i (P.getD i (Vc.nul F n) + (P.getD j (Vc.nul F n)).sc c)) := by
  obtain ⟨hl, psi, h1, h2⟩ := b
  have e : ∀ x : Vc F n, ap (P.set i (P.getD i (Vc.nul F n) + (P.getD j (Vc.nul F n)).sc c)) x = ap P (x + (Vc.un F n j).sc (x.f i * c)) := fun x => by
    rw [ap_add, ap_sc, ap_un P (by omega) (by omega)]
    refine Vc.ext fun k _ => ?_
    rw [add_f, sc_f]
    unfold ap
    rw [comb_f, comb_f, List.length_set]
    rw [sm_congr (g := fun l => (P.getD l (Vc.nul F n)).f k * x.f l + (if l = i then (P.getD j (Vc.nul F n)).f k * c * x.f i else 0)) fun l hl' => ?_]
    · rw [sm_add, sm_one (f := fun l => if l = i then (P.getD j (Vc.nul F n)).f k * c * x.f i else 0) (j := i) (by omega) fun l _ hn => if_neg hn, if_pos rfl]
      grind
    · rw [getD_set (by omega)]
      by_cases q : l = i
      · subst q
        rw [if_pos rfl, if_pos rfl, add_f, sc_f]; grind
      · rw [if_neg q, if_neg q]; grind
  refine ⟨by rw [List.length_set, hl], fun y => psi y + (Vc.un F n j).sc (-((psi y).f i) * c), fun y => ?_, fun x => ?_⟩
  · rw [e]
    have : (psi y + (Vc.un F n j).sc (-((psi y).f i) * c)) + (Vc.un F n j).sc ((psi y + (Vc.un F n j).sc (-((psi y).f i) * c)).f i * c) = psi y := Vc.ext fun l _ => by
      simp only [add_f, sc_f, un_other (F := F) (n := n) (Ne.symm hij)]; grind
    rw [this, h1]
  · show psi _ + _ = x
    rw [e, h2]
    refine Vc.ext fun l _ => ?_
    simp only [add_f, sc_f, un_other (F := F) (n := n) (Ne.symm hij)]; grind
/-- a diagonal matrix -/
def dA (d : Nat → F) (i j : Nat) : F := if i = j then d i else 0
theorem dA_tri (d : Nat → F) (m : Nat) : Tri (dA d) m := fun i j _ h => if_neg (by omega)
theorem dA_q (d : Nat → F) (x : Vc F n) : qA (dA d) x = sm (fun i => d i * (x.f i * x.f i)) n := by
  rw [qA_s2]
  refine sm_congr fun i hi => ?_
  rw [sm_one hi fun j _ hn => by show dA d i j * _ = 0; unfold dA; rw [if_neg (Ne.symm hn)]; grind]
  show dA d i i * _ = _
  unfold dA
  rw [if_pos rfl]
theorem dA_b (d : Nat → F) (x y : Vc F n) : bA (dA d) x y = sm (fun i => 2 * d i * (x.f i * y.f i)) n := by
  rw [bA_s2]
  refine sm_congr fun i hi => ?_
  rw [sm_one hi fun j _ hn => by show dA d i j * _ = 0; unfold dA; rw [if_neg (Ne.symm hn)]; grind]
  show dA d i i * _ = _
  unfold dA
  rw [if_pos rfl]; grind
theorem q0_sm : ∀ (m : Nat) (d x : Nat → F), q0 ((List.range m).map d) x = sm (fun i => d i * (x i * x i)) m
  | 0, _, _ => rfl
  | m + 1, d, x => by
    rw [sm_first, List.range_succ_eq_map, List.map_cons, List.map_map]
    show d 0 * (x 0 * x 0) + q0 ((List.range m).map (d ∘ Nat.succ)) (fun i => x (i + 1)) = _
    rw [q0_sm m]
    rfl
/-- what the law's space has -/
structure Good (n : Nat) (A : Nat → Nat → F) : Prop where
  tri : Tri A n
  dg : Nonempty (Dg (QF.of n A))
  nd : ∀ x : Vc F n, (∀ y, (QF.of n A).B x y = 0) → x = Vc.nul F n
theorem Good.mk' (h2 : (2 : F) ≠ 0) {d : Nat → F} (hd : ∀ i, i < n → d i ≠ 0) {P : List (Vc F n)} (b : Bas P) : Good n (rA (QF.of n (dA d)) P) := by
  obtain ⟨hl, psi, h1, h2'⟩ := b
  have hQ : ∀ x : Vc F n, (QF.of n (rA (QF.of n (dA d)) P)).Q x = (QF.of n (dA d)).Q (ap P x) := fun x => by
    show qA _ x = _
    rw [qA_s2]
    have := rA_val (QF.of n (dA d)) P x.f
    rw [hl] at this
    exact this
  have hB : ∀ x y : Vc F n, (QF.of n (rA (QF.of n (dA d)) P)).B x y = (QF.of n (dA d)).B (ap P x) (ap P y) := fun x y => by
    have e1 := (QF.of n (rA (QF.of n (dA d)) P)).Q_add x y
    have e2 := (QF.of n (dA d)).Q_add (ap P x) (ap P y)
    rw [hQ, hQ, hQ, ap_add, e2] at e1
    grind
  refine ⟨rA_tri _ _ _, ⟨⟨(List.range n).map d, fun c hc => ?_, fun x => (ap P x).f, fun x y i => ?_, fun c x i => ?_, fun x => ?_, fun t => ⟨psi (Vc.of n t), fun i hi => ?_⟩⟩⟩, fun x hx => ?_⟩
  · obtain ⟨i, hi, rfl⟩ := List.mem_map.mp hc
    exact hd i (List.mem_range.mp hi)
  · rw [ap_add]; rfl
  · rw [ap_sc]; rfl
  · rw [hQ, q0_sm]
    exact (dA_q d _).symm
  · simp at hi
    rw [h1, Vc.of_f hi]
  · have z : ap P x = Vc.nul F n := Vc.ext fun i hi => by
      have := hx (psi (Vc.un F n i))
      rw [hB, h1] at this
      have e : bA (dA d) (ap P x) (Vc.un F n i) = 2 * d i * (ap P x).f i := by
        rw [dA_b, sm_one hi fun j _ hn => by rw [un_other hn]; grind]
        rw [un_self hi]; grind
      have this : bA (dA d) (ap P x) (Vc.un F n i) = 0 := this
      rw [e] at this
      rw [nul_f]
      have hdi := hd i hi
      grind
    have e := h2' (Vc.nul F n)
    rw [ap_nul, ← z, h2'] at e
    exact e.trans z
/-- without a radical the kernel of the Gram matrix is () -/
theorem ker_nd {rows : List (Vc F n)} (h : ∀ v : Vc F n, (∀ r ∈ rows, dot r.f v.f n = 0) → v = Vc.nul F n) : ker rows = [] := by
  have e : free rows = [] := List.eq_nil_iff_forall_not_mem.mpr fun fr hf => by
    have q := List.mem_filter.mp hf
    have hn := List.mem_range.mp q.1
    have hp : fr ∉ redP rows := by simpa using q.2
    have z := h (krow rows fr) (found_zero (.mem (List.mem_map_of_mem hf)))
    have o := krow_free (rows := rows) (fr := fr) hn hp
    rw [z, un_self hn] at o
    exact Field.zero_ne_one o
  have f0 : found rows = [] := by unfold found; rw [e]; rfl
  unfold ker
  rw [f0]
  have I := redTo_inv ([] : List (Vc F n)) n
  have c := I.cnt
  simp only [List.length_nil] at c
  exact List.length_eq_zero_iff.mp (by show (redTo [] n).table.length = 0; omega)
/-- the rows of the transposed Gram matrix -/
def gT (A : Nat → Nat → F) (n : Nat) : List (Vc F n) := (List.range n).map fun k => Vc.of n fun i => A i k + A k i
theorem Good.rad {A : Nat → Nat → F} (g : Good n A) : ker (gT A n) = [] := ker_nd fun v hv => g.nd v fun y => by
  rw [(QF.of n A).B_comm]
  show dot y.f (fA A v).f n = 0
  refine sm_zero fun i hi => ?_
  have := hv (Vc.of n fun j => A j i + A i j) (List.mem_map.mpr ⟨i, List.mem_range.mpr hi, rfl⟩)
  have e : (fA A v).f i = 0 := by
    rw [show (fA A v).f i = dot (fun j => A i j + A j i) v.f n from Vc.of_f hi, ← this]
    exact sm_congr fun j hj => by rw [Vc.of_f hj]; grind
  rw [e]; grind
end

/-! ### squares -/
def El.sq {k : Kd} (a : El k) : Bool := (List.range k.q).any fun i => decide (El.of k i * El.of k i = a)
theorem sq_iff {k : Kd} {a : El k} : a.sq = true ↔ ∃ c : El k, a = c * c := by
  unfold El.sq
  rw [List.any_eq_true]
  constructor
  · rintro ⟨i, hi, e⟩
    exact ⟨El.of k i, (_root_.of_decide_eq_true e).symm⟩
  · rintro ⟨c, rfl⟩
    refine ⟨c.val, List.mem_range.mpr c.lt, _root_.decide_eq_true ?_⟩
    have : El.of k c.val = c := El.ext (Nat.mod_eq_of_lt c.lt)
    rw [this]
theorem sq_mul : ∀ (k : Kd) (a b : El k), a ≠ 0 → b ≠ 0 → (a * b).sq = (a.sq == b.sq) := by
  intro k; cases k <;> decide +kernel
/-- 1 for a square, -1 for another number -/
def chi {k : Kd} (a : El k) : Int := if a.sq = true then 1 else -1
theorem chi_mul {k : Kd} {a b : El k} (ha : a ≠ 0) (hb : b ≠ 0) : chi (a * b) = chi a * chi b := by
  unfold chi
  rw [sq_mul k a b ha hb]
  cases a.sq <;> cases b.sq <;> rfl
theorem chi_one {k : Kd} : chi (1 : El k) = 1 := by
  unfold chi
  rw [if_pos (sq_iff.mpr ⟨1, (Semiring.mul_one _).symm⟩)]
theorem chi_sq {k : Kd} {a : El k} : chi a * chi a = 1 := by
  unfold chi
  cases a.sq <;> rfl
theorem chi_same {k : Kd} {a b : El k} (ha : a ≠ 0) (hb : b ≠ 0) (h : ∃ c, a * b = c * c) : chi a = chi b := by
  have e := sq_mul k a b ha hb
  rw [sq_iff.mpr h] at e
  have : a.sq = b.sq := by simpa using e.symm
  unfold chi
  rw [this]
/-- THE LAW's heart: two products of reflections that are one map have one class -/
theorem spin {k : Kd} {n : Nat} {A : Nat → Nat → El k} (g : Good n A) {us vs : List (Vc (El k) n)} (hu : ∀ u ∈ us, (QF.of n A).Q u ≠ 0) (hv : ∀ u ∈ vs, (QF.of n A).Q u ≠ 0) (h : ∀ x, (QF.of n A).app us x = (QF.of n A).app vs x) :
    chi ((QF.of n A).pq us) = chi ((QF.of n A).pq vs) := by
  obtain ⟨D⟩ := g.dg
  exact chi_same (QF.pq_ne _ us hu) (QF.pq_ne _ vs hv) (D.square2 (two_ne k) hu hv h)
end Wit

namespace Wit
open PySem PySem.Spec PyProof.Rows L2
/-! ### the text by places -/
def top (i : Nat) : Stmt := PySem.Challenge.pw_wittspaces_k53_whole_spinor_norms.main.body.getD i (.Pass ⟨0, 0, 0, 0⟩)
abbrev s_is_row_linear : Stmt := top 6
abbrev s_unit_row : Stmt := top 8
abbrev s_add : Stmt := top 9
abbrev s_scaled : Stmt := top 10
abbrev s_dot : Stmt := top 11
abbrev s_combine : Stmt := top 12
abbrev s_cleared : Stmt := top 13
abbrev s_reduced : Stmt := top 14
abbrev s_span : Stmt := top 15
abbrev s_kernel : Stmt := top 16
abbrev s_transposed : Stmt := top 17
abbrev s_moved : Stmt := top 19
abbrev s_times : Stmt := top 20
abbrev s_identity : Stmt := top 21
abbrev s_is_matrix : Stmt := top 22
abbrev s_determinant : Stmt := top 23
abbrev s_matrix_inverse : Stmt := top 24
abbrev s_is_integer : Stmt := top 26
abbrev s_check_kind : Stmt := top 35
abbrev s_taken : Stmt := top 36
abbrev s_has_form : Stmt := top 37
abbrev s_gram_of : Stmt := top 38
abbrev s_keeps : Stmt := top 42
abbrev s_is_isometry : Stmt := top 43
abbrev s_check_kinds : Stmt := top 46
abbrev s_along : Stmt := top 48
abbrev s_reflection : Stmt := top 49
abbrev s_left_over : Stmt := top 51
abbrev s_sum_with : Stmt := top 52
abbrev s_valued : Stmt := top 53
abbrev s_check_turns : Stmt := top 55
abbrev s_difference : Stmt := top 57
abbrev s_rows_between : Stmt := top 58
abbrev s_reflections_of : Stmt := top 59
abbrev s_spinor_norm : Stmt := top 60
abbrev s_law_state : Stmt := top 62
abbrev s_law_take : Stmt := top 63
abbrev s_law_prime : Stmt := top 64
abbrev s_law_joined : Stmt := top 65
abbrev s_law_field : Stmt := top 66
abbrev s_law_mul : Stmt := top 67
abbrev s_law_negative : Stmt := top 68
abbrev s_law_inverse : Stmt := top 69
abbrev s_law_sum : Stmt := top 71
abbrev s_law_times : Stmt := top 72
abbrev s_law_combined : Stmt := top 73
abbrev s_law_unit : Stmt := top 74
abbrev s_law_product : Stmt := top 75
abbrev s_law_value : Stmt := top 76
abbrev s_law_restricted : Stmt := top 77
abbrev s_law_basis : Stmt := top 78
abbrev s_law_any_row : Stmt := top 79
abbrev s_law_image : Stmt := top 80
abbrev s_law_along : Stmt := top 81
abbrev s_law_after : Stmt := top 82
abbrev s_law_space : Stmt := top 83
abbrev s_law_is_odd : Stmt := top 84
abbrev s_law_nonsquare : Stmt := top 85
abbrev s_law_is_told : Stmt := top 87
abbrev s_law_all_numbers : Stmt := top 88
abbrev s_law_normal : Stmt := top 89
abbrev s_law_turned : Stmt := top 90
abbrev s_law_plain : Stmt := top 91
abbrev s_law_identity : Stmt := top 92
abbrev s_law_good_rows : Stmt := top 93
abbrev s_law_turns : Stmt := top 94
abbrev s_law_class : Stmt := top 95
abbrev s_law : Stmt := top 96
abbrev s_Field_init : Stmt := inClass (top 30) 0
abbrev s_Field_is_number : Stmt := inClass (top 30) 2
abbrev s_Field_numbers : Stmt := inClass (top 30) 3
abbrev s_Field_joined : Stmt := inClass (top 30) 4
abbrev s_Field_add : Stmt := inClass (top 30) 5
abbrev s_Field_negative : Stmt := inClass (top 30) 6
abbrev s_Field_multiply : Stmt := inClass (top 30) 8
abbrev s_Field_power : Stmt := inClass (top 30) 9
abbrev s_Field_inverse : Stmt := inClass (top 30) 10
abbrev s_Field_squares : Stmt := inClass (top 30) 15
abbrev s_Field_is_square : Stmt := inClass (top 30) 16
abbrev s_Space_init : Stmt := inClass (top 39) 0
abbrev s_Space_eq : Stmt := inClass (top 39) 1
abbrev s_Space_is_row : Stmt := inClass (top 39) 3
abbrev s_Space_unit : Stmt := inClass (top 39) 5
abbrev s_Space_facing : Stmt := inClass (top 39) 8
abbrev s_Space_product : Stmt := inClass (top 39) 9
abbrev s_Space_value : Stmt := inClass (top 39) 10
abbrev s_Space_radical : Stmt := inClass (top 39) 11
abbrev s_Isometry_init : Stmt := inClass (top 44) 0
abbrev s_Isometry_call : Stmt := inClass (top 44) 2
abbrev s_Isometry_then : Stmt := inClass (top 44) 3
abbrev s_Isometry_inverse : Stmt := inClass (top 44) 4
/-! ### the defs -/
def d_is_row_linear : He.DefD := ⟨("is_row_linear", none), "is_row", "is_row", defArgs s_is_row_linear, defBody s_is_row_linear, defScope s_is_row_linear, [], []⟩
def d_unit_row : He.DefD := ⟨("unit_row", none), "unit_row", "unit_row", defArgs s_unit_row, defBody s_unit_row, defScope s_unit_row, [], []⟩
def d_add : He.DefD := ⟨("add", none), "add", "add", defArgs s_add, defBody s_add, defScope s_add, [], []⟩
def d_scaled : He.DefD := ⟨("scaled", none), "scaled", "scaled", defArgs s_scaled, defBody s_scaled, defScope s_scaled, [], []⟩
def d_dot : He.DefD := ⟨("dot", none), "dot", "dot", defArgs s_dot, defBody s_dot, defScope s_dot, [], []⟩
def d_combine : He.DefD := ⟨("combine", none), "combine", "combine", defArgs s_combine, defBody s_combine, defScope s_combine, [], []⟩
def d_cleared : He.DefD := ⟨("cleared", none), "cleared", "cleared", defArgs s_cleared, defBody s_cleared, defScope s_cleared, [], []⟩
def d_reduced : He.DefD := ⟨("reduced", none), "reduced", "reduced", defArgs s_reduced, defBody s_reduced, defScope s_reduced, [], []⟩
def d_span : He.DefD := ⟨("span", none), "span", "span", defArgs s_span, defBody s_span, defScope s_span, [], []⟩
def d_kernel : He.DefD := ⟨("kernel", none), "kernel", "kernel", defArgs s_kernel, defBody s_kernel, defScope s_kernel, [], []⟩
def d_transposed : He.DefD := ⟨("transposed", none), "transposed", "transposed", defArgs s_transposed, defBody s_transposed, defScope s_transposed, [], []⟩
def d_moved : He.DefD := ⟨("moved", none), "moved", "moved", defArgs s_moved, defBody s_moved, defScope s_moved, [], []⟩
def d_times : He.DefD := ⟨("times", none), "times", "times", defArgs s_times, defBody s_times, defScope s_times, [], []⟩
def d_identity : He.DefD := ⟨("identity", none), "identity", "identity", defArgs s_identity, defBody s_identity, defScope s_identity, [], []⟩
def d_is_matrix : He.DefD := ⟨("is_matrix", none), "is_matrix", "is_matrix", defArgs s_is_matrix, defBody s_is_matrix, defScope s_is_matrix, [], []⟩
def d_determinant : He.DefD := ⟨("determinant", none), "determinant", "determinant", defArgs s_determinant, defBody s_determinant, defScope s_determinant, [], []⟩
def d_matrix_inverse : He.DefD := ⟨("matrix_inverse", none), "matrix_inverse", "matrix_inverse", defArgs s_matrix_inverse, defBody s_matrix_inverse, defScope s_matrix_inverse, [], []⟩
def d_is_integer : He.DefD := ⟨("is_integer", none), "is_integer", "is_integer", defArgs s_is_integer, defBody s_is_integer, defScope s_is_integer, [], []⟩
def d_check_kind : He.DefD := ⟨("check_kind", none), "check_kind", "check_kind", defArgs s_check_kind, defBody s_check_kind, defScope s_check_kind, [], []⟩
def d_taken : He.DefD := ⟨("taken", none), "taken", "taken", defArgs s_taken, defBody s_taken, defScope s_taken, [], []⟩
def d_has_form : He.DefD := ⟨("has_form", none), "has_form", "has_form", defArgs s_has_form, defBody s_has_form, defScope s_has_form, [], []⟩
def d_gram_of : He.DefD := ⟨("gram_of", none), "gram_of", "gram_of", defArgs s_gram_of, defBody s_gram_of, defScope s_gram_of, [], []⟩
def d_keeps : He.DefD := ⟨("keeps", none), "keeps", "keeps", defArgs s_keeps, defBody s_keeps, defScope s_keeps, [], []⟩
def d_is_isometry : He.DefD := ⟨("is_isometry", none), "is_isometry", "is_isometry", defArgs s_is_isometry, defBody s_is_isometry, defScope s_is_isometry, [], []⟩
def d_check_kinds : He.DefD := ⟨("check_kinds", none), "check", "check", defArgs s_check_kinds, defBody s_check_kinds, defScope s_check_kinds, [], []⟩
def d_along : He.DefD := ⟨("along", none), "along", "along", defArgs s_along, defBody s_along, defScope s_along, [], []⟩
def d_reflection : He.DefD := ⟨("reflection", none), "reflection", "reflection", defArgs s_reflection, defBody s_reflection, defScope s_reflection, [], []⟩
def d_left_over : He.DefD := ⟨("left_over", none), "left_over", "left_over", defArgs s_left_over, defBody s_left_over, defScope s_left_over, [], []⟩
def d_sum_with : He.DefD := ⟨("sum_with", none), "sum_with", "sum_with", defArgs s_sum_with, defBody s_sum_with, defScope s_sum_with, [], []⟩
def d_valued : He.DefD := ⟨("valued", none), "valued", "valued", defArgs s_valued, defBody s_valued, defScope s_valued, [], []⟩
def d_check_turns : He.DefD := ⟨("check_turns", none), "check", "check", defArgs s_check_turns, defBody s_check_turns, defScope s_check_turns, [], []⟩
def d_difference : He.DefD := ⟨("difference", none), "difference", "difference", defArgs s_difference, defBody s_difference, defScope s_difference, [], []⟩
def d_rows_between : He.DefD := ⟨("rows_between", none), "rows_between", "rows_between", defArgs s_rows_between, defBody s_rows_between, defScope s_rows_between, [], []⟩
def d_reflections_of : He.DefD := ⟨("reflections_of", none), "reflections_of", "reflections_of", defArgs s_reflections_of, defBody s_reflections_of, defScope s_reflections_of, [], []⟩
def d_spinor_norm : He.DefD := ⟨("spinor_norm", none), "spinor_norm", "spinor_norm", defArgs s_spinor_norm, defBody s_spinor_norm, defScope s_spinor_norm, [], []⟩
def d_law_state : He.DefD := ⟨("_law_state", none), "_law_state", "_law_state", defArgs s_law_state, defBody s_law_state, defScope s_law_state, [], []⟩
def d_law_take : He.DefD := ⟨("_law_take", none), "_law_take", "_law_take", defArgs s_law_take, defBody s_law_take, defScope s_law_take, [], []⟩
def d_law_prime : He.DefD := ⟨("_law_prime", none), "_law_prime", "_law_prime", defArgs s_law_prime, defBody s_law_prime, defScope s_law_prime, [], []⟩
def d_law_joined : He.DefD := ⟨("_law_joined", none), "_law_joined", "_law_joined", defArgs s_law_joined, defBody s_law_joined, defScope s_law_joined, [], []⟩
def d_law_field : He.DefD := ⟨("_law_field", none), "_law_field", "_law_field", defArgs s_law_field, defBody s_law_field, defScope s_law_field, [], []⟩
def d_law_mul : He.DefD := ⟨("_law_mul", none), "_law_mul", "_law_mul", defArgs s_law_mul, defBody s_law_mul, defScope s_law_mul, [], []⟩
def d_law_negative : He.DefD := ⟨("_law_negative", none), "_law_negative", "_law_negative", defArgs s_law_negative, defBody s_law_negative, defScope s_law_negative, [], []⟩
def d_law_inverse : He.DefD := ⟨("_law_inverse", none), "_law_inverse", "_law_inverse", defArgs s_law_inverse, defBody s_law_inverse, defScope s_law_inverse, [], []⟩
def d_law_sum : He.DefD := ⟨("_law_sum", none), "_law_sum", "_law_sum", defArgs s_law_sum, defBody s_law_sum, defScope s_law_sum, [], []⟩
def d_law_times : He.DefD := ⟨("_law_times", none), "_law_times", "_law_times", defArgs s_law_times, defBody s_law_times, defScope s_law_times, [], []⟩
def d_law_combined : He.DefD := ⟨("_law_combined", none), "_law_combined", "_law_combined", defArgs s_law_combined, defBody s_law_combined, defScope s_law_combined, [], []⟩
def d_law_unit : He.DefD := ⟨("_law_unit", none), "_law_unit", "_law_unit", defArgs s_law_unit, defBody s_law_unit, defScope s_law_unit, [], []⟩
def d_law_product : He.DefD := ⟨("_law_product", none), "_law_product", "_law_product", defArgs s_law_product, defBody s_law_product, defScope s_law_product, [], []⟩
def d_law_value : He.DefD := ⟨("_law_value", none), "_law_value", "_law_value", defArgs s_law_value, defBody s_law_value, defScope s_law_value, [], []⟩
def d_law_restricted : He.DefD := ⟨("_law_restricted", none), "_law_restricted", "_law_restricted", defArgs s_law_restricted, defBody s_law_restricted, defScope s_law_restricted, [], []⟩
def d_law_basis : He.DefD := ⟨("_law_basis", none), "_law_basis", "_law_basis", defArgs s_law_basis, defBody s_law_basis, defScope s_law_basis, [], []⟩
def d_law_any_row : He.DefD := ⟨("_law_any_row", none), "_law_any_row", "_law_any_row", defArgs s_law_any_row, defBody s_law_any_row, defScope s_law_any_row, [], []⟩
def d_law_image : He.DefD := ⟨("_law_image", none), "_law_image", "_law_image", defArgs s_law_image, defBody s_law_image, defScope s_law_image, [], []⟩
def d_law_along : He.DefD := ⟨("_law_along", none), "_law_along", "_law_along", defArgs s_law_along, defBody s_law_along, defScope s_law_along, [], []⟩
def d_law_after : He.DefD := ⟨("_law_after", none), "_law_after", "_law_after", defArgs s_law_after, defBody s_law_after, defScope s_law_after, [], []⟩
def d_law_space : He.DefD := ⟨("_law_space", none), "_law_space", "_law_space", defArgs s_law_space, defBody s_law_space, defScope s_law_space, [], []⟩
def d_law_is_odd : He.DefD := ⟨("_law_is_odd", none), "_law_is_odd", "_law_is_odd", defArgs s_law_is_odd, defBody s_law_is_odd, defScope s_law_is_odd, [], []⟩
def d_law_nonsquare : He.DefD := ⟨("_law_nonsquare", none), "_law_nonsquare", "_law_nonsquare", defArgs s_law_nonsquare, defBody s_law_nonsquare, defScope s_law_nonsquare, [], []⟩
def d_law_is_told : He.DefD := ⟨("_law_is_told", none), "_law_is_told", "_law_is_told", defArgs s_law_is_told, defBody s_law_is_told, defScope s_law_is_told, [], []⟩
def d_law_all_numbers : He.DefD := ⟨("_law_all_numbers", none), "_law_all_numbers", "_law_all_numbers", defArgs s_law_all_numbers, defBody s_law_all_numbers, defScope s_law_all_numbers, [], []⟩
def d_law_normal : He.DefD := ⟨("_law_normal", none), "_law_normal", "_law_normal", defArgs s_law_normal, defBody s_law_normal, defScope s_law_normal, [], []⟩
def d_law_turned : He.DefD := ⟨("_law_turned", none), "_law_turned", "_law_turned", defArgs s_law_turned, defBody s_law_turned, defScope s_law_turned, [], []⟩
def d_law_plain : He.DefD := ⟨("_law_plain", none), "_law_plain", "_law_plain", defArgs s_law_plain, defBody s_law_plain, defScope s_law_plain, [], []⟩
def d_law_identity : He.DefD := ⟨("_law_identity", none), "_law_identity", "_law_identity", defArgs s_law_identity, defBody s_law_identity, defScope s_law_identity, [], []⟩
def d_law_good_rows : He.DefD := ⟨("_law_good_rows", none), "_law_good_rows", "_law_good_rows", defArgs s_law_good_rows, defBody s_law_good_rows, defScope s_law_good_rows, [], []⟩
def d_law_turns : He.DefD := ⟨("_law_turns", none), "_law_turns", "_law_turns", defArgs s_law_turns, defBody s_law_turns, defScope s_law_turns, [], []⟩
def d_law_class : He.DefD := ⟨("_law_class", none), "_law_class", "_law_class", defArgs s_law_class, defBody s_law_class, defScope s_law_class, [], []⟩
def d_law : He.DefD := ⟨("law", none), "law", "law", defArgs s_law, defBody s_law, defScope s_law, [], []⟩
def d_Field_init : He.DefD := ⟨("Field", some "__init__"), "__init__", "Field.__init__", defArgs s_Field_init, defBody s_Field_init, defScope s_Field_init, [], []⟩
def d_Field_is_number : He.DefD := ⟨("Field", some "is_number"), "is_number", "Field.is_number", defArgs s_Field_is_number, defBody s_Field_is_number, defScope s_Field_is_number, [], []⟩
def d_Field_numbers : He.DefD := ⟨("Field", some "numbers"), "numbers", "Field.numbers", defArgs s_Field_numbers, defBody s_Field_numbers, defScope s_Field_numbers, [], []⟩
def d_Field_joined : He.DefD := ⟨("Field", some "joined"), "joined", "Field.joined", defArgs s_Field_joined, defBody s_Field_joined, defScope s_Field_joined, [], []⟩
def d_Field_add : He.DefD := ⟨("Field", some "add"), "add", "Field.add", defArgs s_Field_add, defBody s_Field_add, defScope s_Field_add, [], []⟩
def d_Field_negative : He.DefD := ⟨("Field", some "negative"), "negative", "Field.negative", defArgs s_Field_negative, defBody s_Field_negative, defScope s_Field_negative, [], []⟩
def d_Field_multiply : He.DefD := ⟨("Field", some "multiply"), "multiply", "Field.multiply", defArgs s_Field_multiply, defBody s_Field_multiply, defScope s_Field_multiply, [], []⟩
def d_Field_power : He.DefD := ⟨("Field", some "power"), "power", "Field.power", defArgs s_Field_power, defBody s_Field_power, defScope s_Field_power, [], []⟩
def d_Field_inverse : He.DefD := ⟨("Field", some "inverse"), "inverse", "Field.inverse", defArgs s_Field_inverse, defBody s_Field_inverse, defScope s_Field_inverse, [], []⟩
def d_Field_squares : He.DefD := ⟨("Field", some "squares"), "squares", "Field.squares", defArgs s_Field_squares, defBody s_Field_squares, defScope s_Field_squares, [], []⟩
def d_Field_is_square : He.DefD := ⟨("Field", some "is_square"), "is_square", "Field.is_square", defArgs s_Field_is_square, defBody s_Field_is_square, defScope s_Field_is_square, [], []⟩
def d_Space_init : He.DefD := ⟨("Space", some "__init__"), "__init__", "Space.__init__", defArgs s_Space_init, defBody s_Space_init, defScope s_Space_init, [], []⟩
def d_Space_eq : He.DefD := ⟨("Space", some "__eq__"), "__eq__", "Space.__eq__", defArgs s_Space_eq, defBody s_Space_eq, defScope s_Space_eq, [], []⟩
def d_Space_is_row : He.DefD := ⟨("Space", some "is_row"), "is_row", "Space.is_row", defArgs s_Space_is_row, defBody s_Space_is_row, defScope s_Space_is_row, [], []⟩
def d_Space_unit : He.DefD := ⟨("Space", some "unit"), "unit", "Space.unit", defArgs s_Space_unit, defBody s_Space_unit, defScope s_Space_unit, [], []⟩
def d_Space_facing : He.DefD := ⟨("Space", some "facing"), "facing", "Space.facing", defArgs s_Space_facing, defBody s_Space_facing, defScope s_Space_facing, [], []⟩
def d_Space_product : He.DefD := ⟨("Space", some "product"), "product", "Space.product", defArgs s_Space_product, defBody s_Space_product, defScope s_Space_product, [], []⟩
def d_Space_value : He.DefD := ⟨("Space", some "value"), "value", "Space.value", defArgs s_Space_value, defBody s_Space_value, defScope s_Space_value, [], []⟩
def d_Space_radical : He.DefD := ⟨("Space", some "radical"), "radical", "Space.radical", defArgs s_Space_radical, defBody s_Space_radical, defScope s_Space_radical, [], []⟩
def d_Isometry_init : He.DefD := ⟨("Isometry", some "__init__"), "__init__", "Isometry.__init__", defArgs s_Isometry_init, defBody s_Isometry_init, defScope s_Isometry_init, [], []⟩
def d_Isometry_call : He.DefD := ⟨("Isometry", some "__call__"), "__call__", "Isometry.__call__", defArgs s_Isometry_call, defBody s_Isometry_call, defScope s_Isometry_call, [], []⟩
def d_Isometry_then : He.DefD := ⟨("Isometry", some "then"), "then", "Isometry.then", defArgs s_Isometry_then, defBody s_Isometry_then, defScope s_Isometry_then, [], []⟩
def d_Isometry_inverse : He.DefD := ⟨("Isometry", some "inverse"), "inverse", "Isometry.inverse", defArgs s_Isometry_inverse, defBody s_Isometry_inverse, defScope s_Isometry_inverse, [], []⟩
def fn : List He.DefD := [d_is_row_linear, d_unit_row, d_add, d_scaled, d_dot, d_combine, d_cleared, d_reduced, d_span, d_kernel, d_transposed, d_moved, d_times, d_identity, d_is_matrix, d_determinant, d_matrix_inverse, d_is_integer, d_check_kind, d_taken, d_has_form, d_gram_of, d_keeps, d_is_isometry, d_check_kinds, d_along, d_reflection, d_left_over, d_sum_with, d_valued, d_check_turns, d_difference, d_rows_between, d_reflections_of, d_spinor_norm, d_law_state, d_law_take, d_law_prime, d_law_joined, d_law_field, d_law_mul, d_law_negative, d_law_inverse, d_law_sum, d_law_times, d_law_combined, d_law_unit, d_law_product, d_law_value, d_law_restricted, d_law_basis, d_law_any_row, d_law_image, d_law_along, d_law_after, d_law_space, d_law_is_odd, d_law_nonsquare, d_law_is_told, d_law_all_numbers, d_law_normal, d_law_turned, d_law_plain, d_law_identity, d_law_good_rows, d_law_turns, d_law_class, d_law, d_Field_init, d_Field_is_number, d_Field_numbers, d_Field_joined, d_Field_add, d_Field_negative, d_Field_multiply, d_Field_power, d_Field_inverse, d_Field_squares, d_Field_is_square, d_Space_init, d_Space_eq, d_Space_is_row, d_Space_unit, d_Space_facing, d_Space_product, d_Space_value, d_Space_radical, d_Isometry_init, d_Isometry_call, d_Isometry_then, d_Isometry_inverse]
def fa : List He.Fa := [.glo "is_row_linear", .glo "unit_row", .glo "add", .glo "scaled", .glo "dot", .glo "combine", .glo "cleared", .glo "reduced", .glo "span", .glo "kernel", .glo "transposed", .glo "moved", .glo "times", .glo "identity", .glo "is_matrix", .glo "determinant", .glo "matrix_inverse", .glo "is_integer", .glo "check_kind", .glo "taken", .glo "has_form", .glo "gram_of", .glo "keeps", .glo "is_isometry", .glo "check_kinds", .glo "along", .glo "reflection", .glo "left_over", .glo "sum_with", .glo "valued", .glo "check_turns", .glo "difference", .glo "rows_between", .glo "reflections_of", .glo "spinor_norm", .glo "_law_state", .glo "_law_take", .glo "_law_prime", .glo "_law_joined", .glo "_law_field", .glo "_law_mul", .glo "_law_negative", .glo "_law_inverse", .glo "_law_sum", .glo "_law_times", .glo "_law_combined", .glo "_law_unit", .glo "_law_product", .glo "_law_value", .glo "_law_restricted", .glo "_law_basis", .glo "_law_any_row", .glo "_law_image", .glo "_law_along", .glo "_law_after", .glo "_law_space", .glo "_law_is_odd", .glo "_law_nonsquare", .glo "_law_is_told", .glo "_law_all_numbers", .glo "_law_normal", .glo "_law_turned", .glo "_law_plain", .glo "_law_identity", .glo "_law_good_rows", .glo "_law_turns", .glo "_law_class", .glo "law", .glo "Field", .cls "Field", .mkr "Field", .meth "Field" "is_number", .meth "Field" "numbers", .meth "Field" "joined", .meth "Field" "add", .meth "Field" "negative", .meth "Field" "multiply", .meth "Field" "power", .meth "Field" "inverse", .meth "Field" "squares", .meth "Field" "is_square", .glo "Space", .cls "Space", .mkr "Space", .meth "Space" "is_row", .meth "Space" "unit", .meth "Space" "facing", .meth "Space" "product", .meth "Space" "value", .meth "Space" "radical", .glo "Isometry", .cls "Isometry", .mkr "Isometry", .meth "Isometry" "then", .meth "Isometry" "inverse", .noat "Field" "q", .noat "Field" "p", .noat "Space" "kind", .noat "Space" "q", .noat "Space" "n", .noat "Space" "matrix", .noat "Space" "field", .noat "Space" "_gram", .noat "Isometry" "space", .noat "Isometry" "matrix", .free "tuple", .free "list", .free "len", .free "range", .free "zip", .free "enumerate", .free "reversed", .free "isinstance", .free "int", .free "bool", .free "str", .free "all", .free "abs", .int "MOST_space" 6]
/-- what is asked beside -/
def insB (K : PySem.W.Frag) (C : Addr) : Bool := He.eqO (PySem.W.findIn K (.ref C) "__class__") (some (some (.builtin "object.__class__"))) && (decide (PySem.W.specialIn K (.builtin "object.__class__") "__get__" = some (some (.builtin "getset_descriptor.__get__"))) &&
  (decide (PySem.W.takesIn K (.builtin "object.__class__") = some true) && (decide (PySem.W.mroIn K C (.type "object") = some true) && decide (PySem.W.kitOne K (.ref C) (.ref C) = some true))))
def ownB (K : PySem.W.Frag) (C : Addr) (m : Str) : Bool := He.eqO (PySem.W.findIn K (.ref C) m) (some (some (.ref (He.ma K C m)))) && (PySem.W.isFn K (.ref (He.ma K C m)) && (PySem.W.keepIn K (.ref (He.ma K C m)) && PySem.W.fnIn K (He.ma K C m)))
def nodB (K : PySem.W.Frag) (x : Str) : Bool := match K.lookup (He.ga K x) with
  | some ⟨.type c, none, _, _⟩ => decide (c = "tuple")
  | _ => false
def exB (K : PySem.W.Frag) : Bool := (nodB K "SIZES_field" && He.eqO (PySem.W.findIn K (.ref (He.ga K "Space")) "__ne__") (some (some (.builtin "object.__ne__")))) && (insB K (He.ga K "Space") && (insB K (He.ga K "Isometry") && (ownB K (He.ga K "Isometry") "__call__" && (ownB K (He.ga K "Space") "__eq__" &&
  (He.tupB K "KINDS" [.str "alternating", .str "quadratic", .str "hermitian"] && (He.tupB K "SIZES_space" [.int 2, .int 3, .int 4, .int 5, .int 7, .int 9] &&
  (He.tupB K "SIZES_field" [.int 2, .int 3, .int 4, .int 5, .int 7, .int 9] && (He.tupB K "CHARACTERISTICS" [.int 2, .int 3, .int 2, .int 5, .int 7, .int 3] &&
  (He.Fa.ok K (.glo "KINDS") && (He.Fa.ok K (.glo "SIZES_space") && (He.Fa.ok K (.glo "SIZES_field") && He.Fa.ok K (.glo "CHARACTERISTICS"))))))))))))

def loose0 : List PySem.Str := ["_wall", "Fault", "Malformed", "Refused", "is_row", "is_row_linear", "unit_row", "add", "scaled", "dot", "combine", "cleared", "reduced", "span", "kernel", "transposed", "all_rows", "moved", "times", "identity", "is_matrix", "determinant", "matrix_inverse", "is_integer", "SIZES_field", "CHARACTERISTICS", "Field", "KINDS", "SIZES_space", "MOST_space"]
def loose1 : List PySem.Str := ["check_kind", "taken", "has_form", "gram_of", "Space", "MOST_isometry", "keeps", "is_isometry", "Isometry", "check", "check_kinds", "along", "reflection", "left_over", "sum_with", "valued", "check_turns", "difference", "rows_between", "reflections_of", "spinor_norm", "_law_state", "_law_take", "_law_prime", "_law_joined", "_law_field", "_law_mul", "_law_negative", "_law_inverse", "_law_bar"]
def loose2 : List PySem.Str := ["_law_sum", "_law_times", "_law_combined", "_law_unit", "_law_product", "_law_value", "_law_restricted", "_law_basis", "_law_any_row", "_law_image", "_law_along", "_law_after", "_law_space", "_law_is_odd", "_law_nonsquare", "_law_rootless", "_law_is_told", "_law_all_numbers", "_law_normal", "_law_turned", "_law_plain", "_law_identity", "_law_good_rows", "_law_turns", "_law_class"]
def loose : List PySem.Str := loose0 ++ loose1 ++ loose2
/-! ### what is looked at: the module's names, the classes' own tables, the codes -/
def refsD (o : Obj) : List Addr := match o.data with
  | .dict es _ => es.toList.flatMap fun e => He.refV e.val
  | _ => []
def refsC (o : Obj) : List Addr := match o.data with
  | .func fd => He.refV fd.code
  | .cls cd => [cd.ns]
  | _ => []
def via (g : Addr → Option Obj) (f : Obj → List Addr) (as : List Addr) : List Addr := as.flatMap fun a => match g a with
  | some o => f o
  | none => []
def frL {β : Type} : List Addr → (List Addr → β) → β
  | [], k => k []
  | a :: r, k => HandSHeadRun.frNat a fun a => frL r fun r => k (a :: r)
theorem frL_eq {β : Type} : ∀ (l : List Addr) (k : List Addr → β), frL l k = k l
  | [], _ => rfl
  | a :: r, k => by
    show HandSHeadRun.frNat a (fun a => frL r fun r => k (a :: r)) = _
    rw [HandSHeadRun.frNat_eq, frL_eq r]
def asW {β : Type} (g : Addr → Option Obj) (k : List Addr → β) : β :=
  frL (via g refsD [mainGlobals]) fun a1 => frL (via g refsC a1) fun a2 => frL (via g refsD a2) fun a3 => frL (via g refsC a3) fun a4 => k (mainGlobals :: (a1 ++ a2 ++ a3 ++ a4))
def frK {β : Type} (g : Addr → Option Obj) : List Addr → (PySem.W.Frag → β) → β
  | [], k => k []
  | a :: r, k => match g a with
    | some ⟨c, d, dt, sl⟩ => frK g r fun K => k ((a, ⟨c, d, dt, sl⟩) :: K)
    | none => frK g r k
theorem frK_eq {β : Type} (g : Addr → Option Obj) : ∀ (as : List Addr) (k : PySem.W.Frag → β), frK g as k = k (He.frG g as)
  | [], _ => rfl
  | a :: r, k => by
    unfold frK He.frG
    cases e : g a with
    | none =>
      rw [List.filterMap_cons, e]
      exact frK_eq g r k
    | some o =>
      obtain ⟨c, d, dt, sl⟩ := o
      rw [List.filterMap_cons, e]
      exact frK_eq g r _
abbrev AlW : Type := Bool × He.AlD
def obsK (K : PySem.W.Frag) : AlW := (exB K, He.obsD fa fn K)
def obsW (g : Addr → Option Obj) : AlW := asW g fun as => frK g as obsK
def SaysW (K : PySem.W.Frag) : Prop := exB K = true ∧ He.SaysD fa fn K
theorem saysW_of {h : Heap} (e : obsW h.get? = (true, He.valD fn)) : ∃ K : PySem.W.Frag, K.In h ∧ SaysW K := by
  unfold obsW asW at e
  simp only [frL_eq, frK_eq] at e
  exact ⟨_, He.frG_in, congrArg (fun z : AlW => z.1) e, congrArg (fun z : AlW => z.2) e⟩
def hookW : PySem.W.Hook where
  α := AlW
  obs := fun s => obsW s.heap.get?
  val := fun _ => (true, He.valD fn)
  says := fun _ h => ∃ K : PySem.W.Frag, K.In h ∧ SaysW K
  of := fun _ _ e => saysW_of e
  keeps := fun _ _ _ ⟨K, hK, c⟩ k => ⟨K, PySem.W.Frag.In.keeps hK k, c⟩
/-! ### the head -/
abbrev R : PySem.W.OpenRow := PySem.W.OpenLaw.row PySem.Challenge.rw_wittspaces_k53_whole_spinor_norms
def ob (s : PySem.W.SharedT) : AlW := obsW (HandSHeadRun.getT s)
theorem ob_eq (s : PySem.W.SharedT) : ob s = hookW.obs s.abs := by
  have e : HandSHeadRun.getT s = s.abs.heap.get? := funext (HandSHeadRun.getT_eq s)
  unfold ob
  rw [e] <;> rfl
end Wit

namespace Wit
open PySem PySem.Spec PyProof.Rows L2
/-! ### heaps -/
def isLst : HO → Bool
  | .lst _ => true
  | _ => false
/-- all but the lists stands -/
def KT (H H' : Hp) : Prop := ∀ b o, H b = some o → isLst o = false → H' b = some o
theorem _root_.L2.Same.kt {H H' : Hp} (s : Same H H') : KT H H' := fun b o h _ => s b o h
theorem KT.trans {H H1 H2 : Hp} (a : KT H H1) (b : KT H1 H2) : KT H H2 := fun c o h l => b c o (a c o h l) l
theorem KT.refl (H : Hp) : KT H H := fun _ _ h _ => h
theorem same_upd {H : Hp} {p : Addr} {o : HO} (h : H p = none) : Same H (upd H p o) := fun b x e => by
  rw [upd_ne (ne_of_none e h)]
  exact e
theorem _root_.L2.Same.upd {H H1 : Hp} {p : Addr} {o : HO} (s : Same H H1) (h : H p = none) : Same H (L2.upd H1 p o) := fun b x e => by
  rw [upd_ne (ne_of_none e h)]
  exact s b x e
theorem kt_lst {H : Hp} {p : Addr} {xs : List V} {o : HO} (h : H p = some (.lst xs)) : KT H (L2.upd H p o) := fun b x e l => by
  have : b ≠ p := fun q => by
    rw [q, h] at e
    rw [← Option.some.inj e] at l
    cases l
  rw [upd_ne this]
  exact e
theorem kt_new {H : Hp} {p : Addr} {o : HO} (h : H p = none) : KT H (L2.upd H p o) := (same_upd h).kt

/-! ### pairs of lists -/
theorem Paired.imp' {α β : Type} {F G : α → β → Prop} (h : ∀ a b, F a b → G a b) : ∀ {l : List α} {m : List β}, Paired F l m → Paired G l m
  | _, _, .nil => .nil
  | _, _, .cons a t => .cons (h _ _ a) (Paired.imp' h t)
theorem Paired.of_map {α β γ : Type} {F : α → β → Prop} {f : γ → α} : ∀ {l : List γ} {m : List β}, Paired (fun c b => F (f c) b) l m → Paired F (l.map f) m
  | _, _, .nil => .nil
  | _, _, .cons a t => .cons a (Paired.of_map t)
theorem Paired.eq_map {α β : Type} {f : α → β} : ∀ {l : List α} {m : List β}, Paired (fun a b => b = f a) l m → m = l.map f
  | _, _, .nil => rfl
  | _, _, .cons a t => by rw [a, Paired.eq_map t]; rfl
theorem Paired.len {α β : Type} {F : α → β → Prop} : ∀ {l : List α} {m : List β}, Paired F l m → m.length = l.length
  | _, _, .nil => rfl
  | _, _, .cons _ t => by rw [List.length_cons, List.length_cons, Paired.len t]
theorem Paired.at {α β : Type} {F : α → β → Prop} : ∀ {l : List α} {m : List β} {i : Nat} {a : α}, Paired F l m → l[i]? = some a → ∃ b, m[i]? = some b ∧ F a b
  | _, _, _, _, .nil, h => by simp at h
  | _, _, 0, _, .cons a _, h => by
    simp at h
    subst h
    exact ⟨_, rfl, a⟩
  | _, _, i + 1, _, .cons _ t, h => by
    obtain ⟨b, h1, h2⟩ := Paired.at (i := i) t (by simpa using h)
    exact ⟨b, by simpa using h1, h2⟩
theorem Paired.at' {α β : Type} {F : α → β → Prop} : ∀ {l : List α} {m : List β} {i : Nat} {b : β}, Paired F l m → m[i]? = some b → ∃ a, l[i]? = some a ∧ F a b
  | _, _, _, _, .nil, h => by simp at h
  | _, _, 0, _, .cons a _, h => by
    simp at h
    subst h
    exact ⟨_, rfl, a⟩
  | _, _, i + 1, _, .cons _ t, h => by
    obtain ⟨b, h1, h2⟩ := Paired.at' (i := i) t (by simpa using h)
    exact ⟨b, by simpa using h1, h2⟩
theorem Paired.append' {α β : Type} {F : α → β → Prop} : ∀ {l l' : List α} {m m' : List β}, Paired F l m → Paired F l' m' → Paired F (l ++ l') (m ++ m')
  | _, _, _, _, .nil, h => h
  | _, _, _, _, .cons a t, h => .cons a (Paired.append' t h)
theorem Paired.of_all {α β : Type} {F : α → β → Prop} : ∀ {l : List α} {m : List β}, l.length = m.length → (∀ (i : Nat) a b, l[i]? = some a → m[i]? = some b → F a b) → Paired F l m
  | [], [], _, _ => .nil
  | [], _ :: _, h, _ => by cases h
  | _ :: _, [], h, _ => by cases h
  | a :: l, b :: m, h, f => .cons (f 0 a b rfl rfl) (Paired.of_all (Nat.succ.inj h) fun i x y h1 h2 => f (i + 1) x y h1 h2)

/-! ### numbers, rows, tables -/
section
variable {k : Kd} {n : Nat}
abbrev iv (a : El k) : V := .int (a.val : Int)
theorem iv_inj {a b : El k} : iv a = iv b ↔ a = b := ⟨fun h => El.ext (by injection h with h; omega), fun h => by rw [h]⟩
def vl (x : Vc (El k) n) : List V := (List.range n).map fun i => iv (x.f i)
theorem vl_len (x : Vc (El k) n) : (vl x).length = n := by simp [vl]
theorem vl_at (x : Vc (El k) n) {i : Nat} (h : i < n) : (vl x)[i]? = some (iv (x.f i)) := by simp [vl, h]
theorem vl_inj {x y : Vc (El k) n} (h : vl x = vl y) : x = y := Vc.ext fun i hi => by
  have e : (vl x)[i]? = (vl y)[i]? := by rw [h]
  rw [vl_at x hi, vl_at y hi] at e
  exact iv_inj.mp (Option.some.inj e)
theorem vl_eq {ys : List V} {x : Vc (El k) n} {f : Nat → El k} (h : Paired (fun i y => y = iv (f i)) (List.range n) ys) (hf : ∀ i, i < n → f i = x.f i) : ys = vl x := by
  rw [Paired.eq_map h]
  exact List.map_congr_left fun i hi => by rw [hf i (List.mem_range.mp hi)]
def Row (H : Hp) (v : V) (x : Vc (El k) n) : Prop := ∃ a, v = .ref a ∧ H a = some (.tup (vl x))
theorem Row.kt {H H' : Hp} {v : V} {x : Vc (El k) n} (r : Row H v x) (s : KT H H') : Row H' v x := let ⟨a, e, h⟩ := r; ⟨a, e, s a _ h rfl⟩
theorem Row.mono {H H' : Hp} {v : V} {x : Vc (El k) n} (r : Row H v x) (s : Same H H') : Row H' v x := r.kt s.kt
/-- the values at the places of a tuple or a list are these rows -/
abbrev RowsP (H : Hp) (M : List (Vc (El k) n)) (rs : List V) : Prop := Paired (fun x r => Row H r x) M rs
theorem RowsP.kt {H H' : Hp} {M : List (Vc (El k) n)} {rs : List V} (r : RowsP H M rs) (s : KT H H') : RowsP H' M rs := Paired.imp' (fun _ _ q => q.kt s) r
def RowsT (H : Hp) (v : V) (M : List (Vc (El k) n)) : Prop := ∃ a rs, v = .ref a ∧ H a = some (.tup rs) ∧ RowsP H M rs
def RowsL (H : Hp) (v : V) (M : List (Vc (El k) n)) : Prop := ∃ a rs, v = .ref a ∧ H a = some (.lst rs) ∧ RowsP H M rs
theorem RowsT.kt {H H' : Hp} {v : V} {M : List (Vc (El k) n)} (r : RowsT H v M) (s : KT H H') : RowsT H' v M := let ⟨a, rs, e, h, p⟩ := r; ⟨a, rs, e, s a _ h rfl, p.kt s⟩
theorem RowsT.mono {H H' : Hp} {v : V} {M : List (Vc (El k) n)} (r : RowsT H v M) (s : Same H H') : RowsT H' v M := r.kt s.kt
theorem RowsL.mono {H H' : Hp} {v : V} {M : List (Vc (El k) n)} (r : RowsL H v M) (s : Same H H') : RowsL H' v M := let ⟨a, rs, e, h, p⟩ := r; ⟨a, rs, e, s a _ h, p.kt s.kt⟩
end

/-! ### the field's object, the space, the isometry -/
section
variable (K : PySem.W.Frag)
def fdF (k : Kd) : List (Str × V) := putF "p" (.int (k.p : Int)) (putF "q" (.int (k.q : Int)) [])
def Fd (H : Hp) (v : V) (k : Kd) : Prop := ∃ a dx, v = .ref a ∧ H a = some (.ins (He.ga K "Field") dx (fdF k))
def spF (q n : Int) (m f g : V) : List (Str × V) := putF "_gram" g (putF "field" f (putF "matrix" m (putF "n" (.int n) (putF "q" (.int q) (putF "kind" (.str "quadratic") [])))))
/-- the rows of a matrix, of its Gram matrix -/
def mR {k : Kd} (A : Nat → Nat → El k) (n : Nat) : List (Vc (El k) n) := (List.range n).map fun i => Vc.of n (A i)
def gR {k : Kd} (A : Nat → Nat → El k) (n : Nat) : List (Vc (El k) n) := (List.range n).map fun i => Vc.of n fun j => A i j + A j i
def Sc (H : Hp) (v : V) (k : Kd) (n : Nat) (A : Nat → Nat → El k) : Prop := ∃ a dx m f g, v = .ref a ∧ H a = some (.ins (He.ga K "Space") dx (spF k.q n m f g)) ∧ RowsT H m (mR A n) ∧ Fd K H f k ∧ RowsT H g (gR A n)
def isF (s m : V) : List (Str × V) := putF "matrix" m (putF "space" s [])
def Im (H : Hp) (v s : V) {k : Kd} {n : Nat} (M : List (Vc (El k) n)) : Prop := ∃ a dx m, v = .ref a ∧ H a = some (.ins (He.ga K "Isometry") dx (isF s m)) ∧ RowsT H m M
variable {K}
theorem Fd.kt {H H' : Hp} {v : V} {k : Kd} (r : Fd K H v k) (s : KT H H') : Fd K H' v k := let ⟨a, dx, e, h⟩ := r; ⟨a, dx, e, s a _ h rfl⟩
theorem Fd.mono {H H' : Hp} {v : V} {k : Kd} (r : Fd K H v k) (s : Same H H') : Fd K H' v k := r.kt s.kt
theorem Sc.kt {H H' : Hp} {v : V} {k : Kd} {n : Nat} {A : Nat → Nat → El k} (r : Sc K H v k n A) (s : KT H H') : Sc K H' v k n A :=
  let ⟨a, dx, m, f, g, e, h, h1, h2, h3⟩ := r; ⟨a, dx, m, f, g, e, s a _ h rfl, h1.kt s, h2.kt s, h3.kt s⟩
theorem Sc.mono {H H' : Hp} {v : V} {k : Kd} {n : Nat} {A : Nat → Nat → El k} (r : Sc K H v k n A) (s : Same H H') : Sc K H' v k n A := r.kt s.kt
theorem Im.kt {H H' : Hp} {v s' : V} {k : Kd} {n : Nat} {M : List (Vc (El k) n)} (r : Im K H v s' M) (s : KT H H') : Im K H' v s' M :=
  let ⟨a, dx, m, e, h, h1⟩ := r; ⟨a, dx, m, e, s a _ h rfl, h1.kt s⟩
theorem Im.mono {H H' : Hp} {v s' : V} {k : Kd} {n : Nat} {M : List (Vc (El k) n)} (r : Im K H v s' M) (s : Same H H') : Im K H' v s' M := r.kt s.kt
end
theorem ne_str {a b : Str} (h : decide (a = b) = false) : ¬ a = b := of_decide_eq_false h
section
variable (k : Kd) (q n : Int) (m f g s : V)
theorem fd_q : (fdF k).lookup ("q" : Str) = some (.int (k.q : Int)) := by
  unfold fdF
  rw [lookup_putF, if_neg (ne_str (by decide +kernel)), lookup_putF, if_pos rfl]
theorem fd_p : (fdF k).lookup ("p" : Str) = some (.int (k.p : Int)) := by
  unfold fdF
  rw [lookup_putF, if_pos rfl]
theorem fd_no {x : Str} (h1 : decide (x = ("p" : Str)) = false := by decide +kernel) (h2 : decide (x = ("q" : Str)) = false := by decide +kernel) : (fdF k).lookup x = none := by
  unfold fdF
  rw [lookup_putF, if_neg (ne_str h1), lookup_putF, if_neg (ne_str h2)]
  all_goals rfl
theorem sp_kind : (spF q n m f g).lookup ("kind" : Str) = some (.str "quadratic") := by
  unfold spF
  rw [lookup_putF, if_neg (ne_str (by decide +kernel)), lookup_putF, if_neg (ne_str (by decide +kernel)), lookup_putF, if_neg (ne_str (by decide +kernel)), lookup_putF, if_neg (ne_str (by decide +kernel)), lookup_putF, if_neg (ne_str (by decide +kernel)), lookup_putF, if_pos rfl]
theorem sp_q : (spF q n m f g).lookup ("q" : Str) = some (.int q) := by
  unfold spF
  rw [lookup_putF, if_neg (ne_str (by decide +kernel)), lookup_putF, if_neg (ne_str (by decide +kernel)), lookup_putF, if_neg (ne_str (by decide +kernel)), lookup_putF, if_neg (ne_str (by decide +kernel)), lookup_putF, if_pos rfl]
theorem sp_n : (spF q n m f g).lookup ("n" : Str) = some (.int n) := by
  unfold spF
  rw [lookup_putF, if_neg (ne_str (by decide +kernel)), lookup_putF, if_neg (ne_str (by decide +kernel)), lookup_putF, if_neg (ne_str (by decide +kernel)), lookup_putF, if_pos rfl]
theorem sp_matrix : (spF q n m f g).lookup ("matrix" : Str) = some m := by
  unfold spF
  rw [lookup_putF, if_neg (ne_str (by decide +kernel)), lookup_putF, if_neg (ne_str (by decide +kernel)), lookup_putF, if_pos rfl]
theorem sp_field : (spF q n m f g).lookup ("field" : Str) = some f := by
  unfold spF
  rw [lookup_putF, if_neg (ne_str (by decide +kernel)), lookup_putF, if_pos rfl]
theorem sp_gram : (spF q n m f g).lookup ("_gram" : Str) = some g := by
  unfold spF
  rw [lookup_putF, if_pos rfl]
theorem sp_no {x : Str} (h1 : decide (x = ("_gram" : Str)) = false := by decide +kernel) (h2 : decide (x = ("field" : Str)) = false := by decide +kernel) (h3 : decide (x = ("matrix" : Str)) = false := by decide +kernel) (h4 : decide (x = ("n" : Str)) = false := by decide +kernel)
    (h5 : decide (x = ("q" : Str)) = false := by decide +kernel) (h6 : decide (x = ("kind" : Str)) = false := by decide +kernel) : (spF q n m f g).lookup x = none := by
  unfold spF
  rw [lookup_putF, if_neg (ne_str h1), lookup_putF, if_neg (ne_str h2), lookup_putF, if_neg (ne_str h3), lookup_putF, if_neg (ne_str h4), lookup_putF, if_neg (ne_str h5), lookup_putF, if_neg (ne_str h6)]
  all_goals rfl
theorem is_space : (isF s m).lookup ("space" : Str) = some s := by
  unfold isF
  rw [lookup_putF, if_neg (ne_str (by decide +kernel)), lookup_putF, if_pos rfl]
theorem is_matrix : (isF s m).lookup ("matrix" : Str) = some m := by
  unfold isF
  rw [lookup_putF, if_pos rfl]
theorem is_no {x : Str} (h1 : decide (x = ("matrix" : Str)) = false := by decide +kernel) (h2 : decide (x = ("space" : Str)) = false := by decide +kernel) : (isF s m).lookup x = none := by
  unfold isF
  rw [lookup_putF, if_neg (ne_str h1), lookup_putF, if_neg (ne_str h2)]
  all_goals rfl
end

/-! ### facts of the module's names -/
structure Tx (K : PySem.W.Frag) (mg : Str → Option Value) : Prop where
  says : SaysW K
  g : ∀ x, (He.Fa.glo x).ok K = true → mg x = some (.ref (He.ga K x))
  f : ∀ x, (He.Fa.free x).ok K = true → mg x = none
  i : ∀ x z, (He.Fa.int x z).ok K = true → ∃ t, mg x = some (.int z t)
theorem Tx.mk' {K : PySem.W.Frag} {h : Heap} {mg : Str → Option Value} (X : K.In h) (G : h.Ns mainGlobals mg) (c : SaysW K) : Tx K mg :=
  ⟨c, fun _ q => He.glo_ok X G q, fun _ q => He.free_ok X G q, fun _ _ q => He.int_ok X G q⟩

/-! ### promises by the number of arguments -/
def sp1 (f : V → Hp → VK → Prop) : Sp := fun vs H Q _ => ∃ a, vs = [a] ∧ f a H Q
def sp2 (f : V → V → Hp → VK → Prop) : Sp := fun vs H Q _ => ∃ a b, vs = [a, b] ∧ f a b H Q
def sp3 (f : V → V → V → Hp → VK → Prop) : Sp := fun vs H Q _ => ∃ a b c, vs = [a, b, c] ∧ f a b c H Q
def sp4 (f : V → V → V → V → Hp → VK → Prop) : Sp := fun vs H Q _ => ∃ a b c d, vs = [a, b, c, d] ∧ f a b c d H Q
def sp6 (f : V → V → V → V → V → V → Hp → VK → Prop) : Sp := fun vs H Q _ => ∃ a b c d e g, vs = [a, b, c, d, e, g] ∧ f a b c d e g H Q

section
variable (P : Program) (w : World) (K : PySem.W.Frag) (mg : Str → Option Value) (base : Heap)
/-- a def of the module's, by its name -/
def Cal (lv : Nat) (x : Str) (ps : List Str) (sp : Sp) : Prop := ∃ f fd, mg x = some (.ref f) ∧ PySem.W.keepIn K (.ref f) = true ∧ Binds K fd ps [] ∧ FnOk P w K mg base CX0 lv f fd ps sp
/-- a method of the class x -/
def CalM (lv : Nat) (x m : Str) (ps : List Str) (sp : Sp) : Prop := Cls K (He.ga K x) ∧ ∃ f fd, Meth K (He.ga K x) m f ∧ Binds K fd ps [] ∧ FnOk P w K mg base CX0 lv f fd ps sp
/-- the class x, made -/
def CalC (lv : Nat) (x : Str) (ps : List Str) (sp : Sp) : Prop := mg x = some (.ref (He.ga K x)) ∧ ∃ f fd, Mk K (He.ga K x) f ∧ Binds K fd ps [] ∧ FnOk P w K mg base CX0 lv f fd ps sp
end
section
variable {X : Cx} {lv : Nat} {x m : Str} {ps : List Str} {sp : Sp} {e o : Expr} {es : List Expr} {t : TA} {ta : TE} {p pos apos : Pos}
theorem pe_cal {P : Program} {w : World} {K : PySem.W.Frag} {mg : Str → Option Value} {base : Heap} (c : Cal P w K mg base lv x ps sp) (hr : Room lv X.A) (hg : Gl X x) (ha : PA X (e :: es) t) (hP : X.prog = P := by rfl) (hw : X.w = w := by rfl) (hK : X.K = K := by rfl) (hm : X.mg = mg := by rfl) (hb : X.base = base := by rfl)
    (hdb : (x == ("__debug__" : Str)) = false := by decide) (he : starEach (e :: es) X.env = (false, eval e X.env) :: starEach es X.env := by rfl)
    (hpl : (backTo pos (starEach es X.env)).any (·.1) = false := by rfl) : PE X (.Call (.Name x p) (e :: es) [] pos) (tCall sp [] E0 t) := by
  subst hP hw hK hm hb
  obtain ⟨f, fd, h1, h2, h3, h4⟩ := c
  exact pe_call h4 hr hg h1 h2 h3 .nil pass0 ha hdb he hpl
theorem pe_calC {P : Program} {w : World} {K : PySem.W.Frag} {mg : Str → Option Value} {base : Heap} (c : CalC P w K mg base lv x ps sp) (hr : Room (lv + 1) X.A) (hg : Gl X x) (ha : PA X (e :: es) t) (hP : X.prog = P := by rfl) (hw : X.w = w := by rfl) (hK : X.K = K := by rfl) (hm : X.mg = mg := by rfl) (hb : X.base = base := by rfl)
    (hdb : (x == ("__debug__" : Str)) = false := by decide) (he : starEach (e :: es) X.env = (false, eval e X.env) :: starEach es X.env := by rfl)
    (hpl : (backTo pos (starEach es X.env)).any (·.1) = false := by rfl) : PE X (.Call (.Name x p) (e :: es) [] pos) (tMake (He.ga K x) sp [] E0 t) := by
  subst hP hw hK hm hb
  obtain ⟨h1, f, fd, h2, h3, h4⟩ := c
  exact pe_make h2 h4 hr hg h1 h3 .nil pass0 ha hdb he hpl
theorem pe_calM {P : Program} {w : World} {K : PySem.W.Frag} {mg : Str → Option Value} {base : Heap} {pl : Sem Bool} (he : PE X o ta) (c : CalM P w K mg base lv x m ps sp) (hr : Room lv X.A) (ha : PA X (e :: es) t) (hP : X.prog = P := by rfl) (hw : X.w = w := by rfl) (hK : X.K = K := by rfl) (hmg : X.mg = mg := by rfl) (hb : X.base = base := by rfl)
    (hst : starEach (e :: es) X.env = (false, eval e X.env) :: starEach es X.env := by rfl) (hpl : (backTo pos (starEach es X.env)).any (·.1) = false := by rfl)
    (ht : eval (.Call (.Attribute o m apos) (e :: es) [] pos) X.env = (do
      let ov ← eval o X.env
      standAt apos.atName
      let (f, first) ← holding [ov] (getMethod ov m pl)
      callWith pos f first (backTo pos (starEach (e :: es) X.env)) (backToKw pos (keywordEach [] X.env))) := by rfl) :
    PE X (.Call (.Attribute o m apos) (e :: es) [] pos) (tMeth (He.ga K x) m sp [] E0 ta t) := by
  subst hP hw hK hmg hb
  obtain ⟨h0, f, fd, h2, h3, h4⟩ := c
  exact pe_meth he h0 h2 h4 hr h3 .nil pass0 ha hst hpl ht
theorem pe_calM0 {P : Program} {w : World} {K : PySem.W.Frag} {mg : Str → Option Value} {base : Heap} {pl : Sem Bool} (he : PE X o ta) (c : CalM P w K mg base lv x m ps sp) (hr : Room lv X.A) (hP : X.prog = P := by rfl) (hw : X.w = w := by rfl) (hK : X.K = K := by rfl) (hmg : X.mg = mg := by rfl) (hb : X.base = base := by rfl)
    (ht : eval (.Call (.Attribute o m apos) [] [] pos) X.env = (do
      let ov ← eval o X.env
      standAt apos.atName
      let (f, first) ← holding [ov] (getMethod ov m pl)
      callWith pos f first (backTo pos (starEach [] X.env)) (backToKw pos (keywordEach [] X.env))) := by rfl) :
    PE X (.Call (.Attribute o m apos) [] [] pos) (tMeth (He.ga K x) m sp [] E0 ta tNil) := by
  subst hP hw hK hmg hb
  obtain ⟨h0, f, fd, h2, h3, h4⟩ := c
  exact pe_meth0 he h0 h2 h4 hr h3 .nil pass0 ht
end
/-! ### a def's promise from its body -/
section
variable {P : Program} {w : World} {K : PySem.W.Frag} {mg : Str → Option Value} {base : Heap} {d : He.DefD} {lv : Nat} {N ps : List Str} {sp : Sp}
/-- how arguments bind -/
abbrev BindsD (d : He.DefD) (ps : List Str) : Prop := ∀ (kV doc pm : Value) (an : Option Addr) (cdv ct : Value) (us : List Value), us.length = ps.length → bindArgs (PySem.W.fnOf d.name d.qual d.params d.body d.scope .none kV doc pm an cdv ct) ⟨us, []⟩ = pure (ps.zip us)
abbrev BodyD (P : Program) (w : World) (K : PySem.W.Frag) (mg : Str → Option Value) (base : Heap) (d : He.DefD) (lv : Nat) (N : List Str) (sp : Sp) : Prop :=
  ∀ (f : Addr) (cdv : Value) (A : Around) (outer : List Env) (s : Shared) (H : Hp) (vs : List V) (Q : VK) (E : XK), Room lv (A.deeper (envOfC d.qual d.scope s.heap.objs.size f cdv)) → sp vs H Q E →
    ∃ t, PSs (cxOf CX0 P w K mg base N d.qual d.scope f cdv A outer s H E).nox d.body t ∧ t { nx := fun _ H' => Q .non H', rt := Q } (start N vs) H
theorem fnok_of {i : Nat} (T : Tx K mg) (hd : fn[i]? = some d) (h0 : d.dfl = []) (h1 : d.kwd = []) (S : FnScope N ps d.scope) (hb : BindsD d ps) (len : ∀ vs H Q E, sp vs H Q E → vs.length = ps.length) (body : BodyD P w K mg base d lv N sp) :
    ∃ fd, Binds K fd ps [] ∧ FnOk P w K mg base CX0 (lv + 1) (He.fAd K d.at_) fd ps sp := by
  obtain ⟨fd, F⟩ := T.says.2.def_ i hd
  have e0 : d.dvs K = [] := by unfold He.DefD.dvs; rw [h0]; rfl
  have e1 : d.kws K = [] := by unfold He.DefD.kws; rw [h1]; rfl
  rw [e0, e1] at F
  exact ⟨fd, F.bindsN hb, F.ok S len fun cdv A outer s H vs Q E hr h => let ⟨t, h1, h2⟩ := body _ cdv A outer s H vs Q E hr h; ⟨t, PSs.nox h1, h2⟩⟩
theorem cal_of {i j : Nat} {x : Str} (T : Tx K mg) (hd : fn[i]? = some d) (hj : fa[j]? = some (.glo x)) (hat : d.at_ = (x, none)) (h0 : d.dfl = []) (h1 : d.kwd = []) (hk : PySem.W.keepIn K (.ref (He.fAd K d.at_)) = true) (S : FnScope N ps d.scope) (hb : BindsD d ps)
    (len : ∀ vs H Q E, sp vs H Q E → vs.length = ps.length) (body : BodyD P w K mg base d lv N sp) : Cal P w K mg base (lv + 1) x ps sp := by
  obtain ⟨fd, b, F⟩ := fnok_of T hd h0 h1 S hb len body
  have e : He.fAd K d.at_ = He.ga K x := by rw [hat]; rfl
  rw [e] at F hk
  exact ⟨_, fd, T.g x (T.says.2.fact j hj), hk, b, F⟩
theorem keep_of {i : Nat} (T : Tx K mg) (hd : fn[i]? = some d) : PySem.W.keepIn K (.ref (He.fAd K d.at_)) = true := by
  obtain ⟨fd, F⟩ := T.says.2.def_ i hd
  exact F.kp
theorem calM_of {i j l : Nat} {x m : Str} (T : Tx K mg) (hd : fn[i]? = some d) (hj : fa[j]? = some (.meth x m)) (hl : fa[l]? = some (.cls x)) (hat : d.at_ = (x, some m)) (h0 : d.dfl = []) (h1 : d.kwd = []) (S : FnScope N ps d.scope) (hb : BindsD d ps)
    (len : ∀ vs H Q E, sp vs H Q E → vs.length = ps.length) (body : BodyD P w K mg base d lv N sp) : CalM P w K mg base (lv + 1) x m ps sp := by
  obtain ⟨fd, b, F⟩ := fnok_of T hd h0 h1 S hb len body
  have e : He.fAd K d.at_ = He.ma K (He.ga K x) m := by rw [hat]; rfl
  rw [e] at F
  exact ⟨He.cls_ok (T.says.2.fact l hl), _, fd, He.meth_ok (T.says.2.fact j hj), b, F⟩
theorem calC_of {i j l : Nat} {x : Str} (T : Tx K mg) (hd : fn[i]? = some d) (hj : fa[j]? = some (.mkr x)) (hl : fa[l]? = some (.glo x)) (hat : d.at_ = (x, some ("__init__" : Str))) (h0 : d.dfl = []) (h1 : d.kwd = []) (S : FnScope N ps d.scope) (hb : BindsD d ps)
    (len : ∀ vs H Q E, sp vs H Q E → vs.length = ps.length) (body : BodyD P w K mg base d lv N sp) : CalC P w K mg base (lv + 1) x ps sp := by
  obtain ⟨fd, b, F⟩ := fnok_of T hd h0 h1 S hb len body
  have e : He.fAd K d.at_ = He.ma K (He.ga K x) "__init__" := by rw [hat]; rfl
  rw [e] at F
  exact ⟨T.g x (T.says.2.fact l hl), _, fd, He.mkr_ok (T.says.2.fact j hj), b, F⟩
end
theorem len1 {f : V → Hp → VK → Prop} (vs : List V) (H : Hp) (Q : VK) (E : XK) (h : sp1 f vs H Q E) : vs.length = 1 := by obtain ⟨a, rfl, _⟩ := h; rfl
theorem len2 {f : V → V → Hp → VK → Prop} (vs : List V) (H : Hp) (Q : VK) (E : XK) (h : sp2 f vs H Q E) : vs.length = 2 := by obtain ⟨a, b, rfl, _⟩ := h; rfl
theorem len3 {f : V → V → V → Hp → VK → Prop} (vs : List V) (H : Hp) (Q : VK) (E : XK) (h : sp3 f vs H Q E) : vs.length = 3 := by obtain ⟨a, b, c, rfl, _⟩ := h; rfl
theorem len4 {f : V → V → V → V → Hp → VK → Prop} (vs : List V) (H : Hp) (Q : VK) (E : XK) (h : sp4 f vs H Q E) : vs.length = 4 := by obtain ⟨a, b, c, d, rfl, _⟩ := h; rfl
theorem len6 {f : V → V → V → V → V → V → Hp → VK → Prop} (vs : List V) (H : Hp) (Q : VK) (E : XK) (h : sp6 f vs H Q E) : vs.length = 6 := by obtain ⟨a, b, c, d, e, g, rfl, _⟩ := h; rfl

/-! ### comprehensions -/
section
variable {J : It} {n : Nat} {G : Hp → Prop} {Y : Nat → Hp → V → Hp → Prop}
/-- a comprehension: what stands in the new list -/
theorem lc_fil (w : Walk J n G Y) {g : TG} {tt : TT} {te : TE} {vs : List Nat} {σ : L2.St} {H1 : Hp} {Q : VK} (R : Nat → V → Hp → Prop) (keep : Nat → Bool) (hn : n < sizeLine) (hG : ∀ H, Same H1 H → G H) (hR : ∀ i y H H', KT H H' → R i y H → R i y H')
    (hY : ∀ i H x H', Y i H x H' → Same H H')
    (hs : ∀ (i : Nat) (x : V) (H H' : Hp) (yes : V → Hp → Prop) (no : Hp → Prop), i < n → Same H1 H → Same H1 H' → Y i H x H' → (∀ y H4, keep i = true → Same H' H4 → R i y H4 → yes y H4) → (∀ H3, keep i = false → Same H' H3 → no H3) →
      g x (wipe σ vs) H' fun σ2 H2 => wipe σ2 vs = wipe σ vs ∧ tt σ2 H2 fun b H3 => if b = true then te σ2 H3 fun y H4 => yes y H4 else no H3)
    (hd : ∀ D H' ys, Same H1 H' → H1 D = none → H' D = some (.lst ys) → Paired (fun i y => R i y H') ((List.range n).filter keep) ys → Q (.ref D) H') :
    ∀ D, H1 D = none → ∃ W : Nat → Nat → Hp → Prop, (∃ m, W 0 m (upd H1 D (.lst []))) ∧ ∀ i m H, W i m H →
      (J.stop i H ∧ Q (.ref D) H) ∨ (J.go i H ∧ ∃ Nx : Hp → Prop, (∀ H', Nx H' → ∃ m', m' < m ∧ W (i + 1) m' H') ∧ ∀ x H', J.yld i H x H' → g x (wipe σ vs) H' fun σ2 H2 => wipe σ2 vs = wipe σ vs ∧ tt σ2 H2 fun b H3 =>
        if b = true then te σ2 H3 fun y H4 => ∃ acc, H4 D = some (.lst acc) ∧ acc.length < sizeLine ∧ Nx (upd H4 D (.lst (acc ++ [y]))) else Nx H3) := fun D hD => by
  refine lc_it w (fun i H => Same H1 H ∧ ∃ ys, H D = some (.lst ys) ∧ Paired (fun i y => R i y H) ((List.range i).filter keep) ys) ⟨same_upd hD, [], upd_same, .nil⟩ (fun i H _ p => hG H p.1) (fun i x H H' hi p hy => ?_) fun H p => ?_
  · obtain ⟨s1, ys, e, pr⟩ := p
    have sY := hY i H x H' hy
    have e' : H' D = some (.lst ys) := sY _ _ e
    have pr' : Paired (fun i y => R i y H') ((List.range i).filter keep) ys := Paired.imp' (fun a b q => hR a b _ _ sY.kt q) pr
    have le : ys.length ≤ i := by
      rw [Paired.len pr]
      exact Nat.le_trans (List.length_filter_le _ _) (Nat.le_of_eq List.length_range)
    refine hs i x H H' _ _ hi s1 (s1.trans sY) hy (fun y H4 kp s4 r => ⟨ys, s4 _ _ e', Nat.lt_of_le_of_lt le (Nat.lt_trans hi hn), ((s1.trans sY).trans s4).upd hD, _, upd_same, ?_⟩) fun H3 kp s3 => ⟨(s1.trans sY).trans s3, ys, s3 _ _ e', ?_⟩
    · have k4 : KT H4 (upd H4 D (.lst (ys ++ [y]))) := kt_lst (s4 _ _ e')
      rw [List.range_succ, List.filter_append, List.filter_cons, if_pos kp]
      exact Paired.append' (Paired.imp' (fun a b q => hR a b _ _ k4 (hR a b _ _ s4.kt q)) pr') (.cons (hR _ _ _ _ k4 r) .nil)
    · rw [List.range_succ, List.filter_append, List.filter_cons, if_neg (by rw [kp]; exact Bool.false_ne_true), List.filter_nil, List.append_nil]
      exact Paired.imp' (fun a b q => hR a b _ _ s3.kt q) pr'
  · obtain ⟨s1, ys, e, pr⟩ := p
    exact hd D H ys s1 hD e pr
theorem filter_true (n : Nat) : (List.range n).filter (fun _ => true) = List.range n := List.filter_eq_self.mpr fun _ _ => rfl
/-- without a test -/
theorem lc_map (w : Walk J n G Y) {g : TG} {te : TE} {vs : List Nat} {σ : L2.St} {H1 : Hp} {Q : VK} (R : Nat → V → Hp → Prop) (hn : n < sizeLine) (hG : ∀ H, Same H1 H → G H) (hR : ∀ i y H H', KT H H' → R i y H → R i y H')
    (hY : ∀ i H x H', Y i H x H' → Same H H')
    (hs : ∀ (i : Nat) (x : V) (H H' : Hp) (yes : V → Hp → Prop), i < n → Same H1 H → Same H1 H' → Y i H x H' → (∀ y H4, Same H' H4 → R i y H4 → yes y H4) → g x (wipe σ vs) H' fun σ2 H2 => wipe σ2 vs = wipe σ vs ∧ te σ2 H2 fun y H4 => yes y H4)
    (gm : ∀ x σ H Z Z', (∀ σ' H', Z σ' H' → Z' σ' H') → g x σ H Z → g x σ H Z')
    (hd : ∀ D H' ys, Same H1 H' → H1 D = none → H' D = some (.lst ys) → Paired (fun i y => R i y H') (List.range n) ys → Q (.ref D) H') :
    ∀ D, H1 D = none → ∃ W : Nat → Nat → Hp → Prop, (∃ m, W 0 m (upd H1 D (.lst []))) ∧ ∀ i m H, W i m H →
      (J.stop i H ∧ Q (.ref D) H) ∨ (J.go i H ∧ ∃ Nx : Hp → Prop, (∀ H', Nx H' → ∃ m', m' < m ∧ W (i + 1) m' H') ∧ ∀ x H', J.yld i H x H' → g x (wipe σ vs) H' fun σ2 H2 => wipe σ2 vs = wipe σ vs ∧ tYes σ2 H2 fun b H3 =>
        if b = true then te σ2 H3 fun y H4 => ∃ acc, H4 D = some (.lst acc) ∧ acc.length < sizeLine ∧ Nx (upd H4 D (.lst (acc ++ [y]))) else Nx H3) :=
  lc_fil w R (fun _ => true) hn hG hR hY (fun i x H H' yes no hi s1 s2 hy hyes _ => gm _ _ _ _ _ (fun σ' H' z => ⟨z.1, iteT (B := no H') z.2⟩) (hs i x H H' yes hi s1 s2 hy fun y H4 s4 r => hyes y H4 rfl s4 r)) fun D H' ys s1 hD e pr => hd D H' ys s1 hD e (by rw [filter_true] at pr; exact pr)
theorem gName_mono {i : Nat} (x : V) (σ : L2.St) (H : Hp) (Z Z' : L2.St → Hp → Prop) (h : ∀ σ' H', Z σ' H' → Z' σ' H') (q : gName i x σ H Z) : gName i x σ H Z' := h _ _ q
end
theorem yAt_same {xs : List V} (i : Nat) (H : Hp) (x : V) (H' : Hp) (h : YAt xs i H x H') : Same H H' := by rw [h.1]; exact Same.refl _
theorem yFn_same {f : Nat → V} (i : Nat) (H : Hp) (x : V) (H' : Hp) (h : YFn f i H x H') : Same H H' := by rw [h.1]; exact Same.refl _
theorem yPair_same {xs ys : Nat → Option V} (i : Nat) (H : Hp) (x : V) (H' : Hp) (h : YPair xs ys i H x H') : Same H H' := by
  obtain ⟨T, a, b, _, hT, rfl, _⟩ := h
  exact same_upd hT
theorem small_n {n : Nat} (h : n ≤ 1000) : n < sizeLine := small1000 h
end Wit

namespace Wit
open PySem PySem.Spec PyProof.Rows L2
section
variable {K : PySem.W.Frag} {mg : Str → Option Value}
/-! ### facts by names -/
theorem Tx.tuple (T : Tx K mg) : mg "tuple" = none := T.f _ (T.says.2.fact 105 rfl)
theorem Tx.list (T : Tx K mg) : mg "list" = none := T.f _ (T.says.2.fact 106 rfl)
theorem Tx.len (T : Tx K mg) : mg "len" = none := T.f _ (T.says.2.fact 107 rfl)
theorem Tx.range (T : Tx K mg) : mg "range" = none := T.f _ (T.says.2.fact 108 rfl)
theorem Tx.zip (T : Tx K mg) : mg "zip" = none := T.f _ (T.says.2.fact 109 rfl)
theorem Tx.enumerate (T : Tx K mg) : mg "enumerate" = none := T.f _ (T.says.2.fact 110 rfl)
theorem Tx.reversed (T : Tx K mg) : mg "reversed" = none := T.f _ (T.says.2.fact 111 rfl)
theorem Tx.isinstance (T : Tx K mg) : mg "isinstance" = none := T.f _ (T.says.2.fact 112 rfl)
theorem Tx.int (T : Tx K mg) : mg "int" = none := T.f _ (T.says.2.fact 113 rfl)
theorem Tx.bool (T : Tx K mg) : mg "bool" = none := T.f _ (T.says.2.fact 114 rfl)
theorem Tx.str (T : Tx K mg) : mg "str" = none := T.f _ (T.says.2.fact 115 rfl)
theorem Tx.all (T : Tx K mg) : mg "all" = none := T.f _ (T.says.2.fact 116 rfl)
theorem Tx.abs (T : Tx K mg) : mg "abs" = none := T.f _ (T.says.2.fact 117 rfl)
theorem Tx.cField (T : Tx K mg) : mg "Field" = some (.ref (He.ga K "Field")) := T.g _ (T.says.2.fact 68 rfl)
theorem Tx.kField (T : Tx K mg) : Cls K (He.ga K "Field") := He.cls_ok (T.says.2.fact 69 rfl)
theorem Tx.cSpace (T : Tx K mg) : mg "Space" = some (.ref (He.ga K "Space")) := T.g _ (T.says.2.fact 81 rfl)
theorem Tx.kSpace (T : Tx K mg) : Cls K (He.ga K "Space") := He.cls_ok (T.says.2.fact 82 rfl)
theorem Tx.cIsometry (T : Tx K mg) : mg "Isometry" = some (.ref (He.ga K "Isometry")) := T.g _ (T.says.2.fact 90 rfl)
theorem Tx.kIsometry (T : Tx K mg) : Cls K (He.ga K "Isometry") := He.cls_ok (T.says.2.fact 91 rfl)
theorem Tx.nField_q (T : Tx K mg) : NoAttr K (He.ga K "Field") "q" := He.noat_ok (T.says.2.fact 95 rfl)
theorem Tx.nField_p (T : Tx K mg) : NoAttr K (He.ga K "Field") "p" := He.noat_ok (T.says.2.fact 96 rfl)
theorem Tx.nSpace_kind (T : Tx K mg) : NoAttr K (He.ga K "Space") "kind" := He.noat_ok (T.says.2.fact 97 rfl)
theorem Tx.nSpace_q (T : Tx K mg) : NoAttr K (He.ga K "Space") "q" := He.noat_ok (T.says.2.fact 98 rfl)
theorem Tx.nSpace_n (T : Tx K mg) : NoAttr K (He.ga K "Space") "n" := He.noat_ok (T.says.2.fact 99 rfl)
theorem Tx.nSpace_matrix (T : Tx K mg) : NoAttr K (He.ga K "Space") "matrix" := He.noat_ok (T.says.2.fact 100 rfl)
theorem Tx.nSpace_field (T : Tx K mg) : NoAttr K (He.ga K "Space") "field" := He.noat_ok (T.says.2.fact 101 rfl)
theorem Tx.nSpace__gram (T : Tx K mg) : NoAttr K (He.ga K "Space") "_gram" := He.noat_ok (T.says.2.fact 102 rfl)
theorem Tx.nIsometry_space (T : Tx K mg) : NoAttr K (He.ga K "Isometry") "space" := He.noat_ok (T.says.2.fact 103 rfl)
theorem Tx.nIsometry_matrix (T : Tx K mg) : NoAttr K (He.ga K "Isometry") "matrix" := He.noat_ok (T.says.2.fact 104 rfl)
theorem Tx.most (T : Tx K mg) : ∃ t, mg "MOST_space" = some (.int 6 t) := T.i _ _ (T.says.2.fact 118 rfl)
theorem insB_ok {C : Addr} (k : Cls K C) (h : insB K C = true) : C8.InsC K C := by
  obtain ⟨h1, h⟩ := He.ba h
  obtain ⟨h2, h⟩ := He.ba h
  obtain ⟨h3, h⟩ := He.ba h
  obtain ⟨h4, h5⟩ := He.ba h
  exact ⟨k, He.eqO_ok h1, of_decide_eq_true h2, of_decide_eq_true h3, of_decide_eq_true h4, of_decide_eq_true h5⟩
theorem Tx.iSpace (T : Tx K mg) : C8.InsC K (He.ga K "Space") := insB_ok T.kSpace (He.ba (He.ba T.says.1).2).1
theorem Tx.iIsometry (T : Tx K mg) : C8.InsC K (He.ga K "Isometry") := insB_ok T.kIsometry (He.ba (He.ba (He.ba T.says.1).2).2).1
theorem Tx.callB (T : Tx K mg) : ownB K (He.ga K "Isometry") "__call__" = true := (He.ba (He.ba (He.ba (He.ba T.says.1).2).2).2).1
theorem nodB_ok {x : Str} (h : nodB K x = true) : ∃ o, K.lookup (He.ga K x) = some o ∧ o.cls = .type "tuple" ∧ o.dict = none := by
  unfold nodB at h
  split at h
  · rename_i c dt sl e
    exact ⟨_, e, congrArg Value.type (of_decide_eq_true h), rfl⟩
  · cases h
theorem Tx.nodSIZES (T : Tx K mg) : ∃ o, K.lookup (He.ga K "SIZES_field") = some o ∧ o.cls = .type "tuple" ∧ o.dict = none := nodB_ok (He.ba (He.ba T.says.1).1).1
theorem Tx.neSpace (T : Tx K mg) : PySem.W.findIn K (.ref (He.ga K "Space")) "__ne__" = some (some (.builtin "object.__ne__")) := He.eqO_ok (He.ba (He.ba T.says.1).1).2
theorem Tx.eqB (T : Tx K mg) : ownB K (He.ga K "Space") "__eq__" = true := (He.ba (He.ba (He.ba (He.ba (He.ba T.says.1).2).2).2).2).1
theorem Tx.rest (T : Tx K mg) : (He.tupB K "KINDS" [.str "alternating", .str "quadratic", .str "hermitian"] && (He.tupB K "SIZES_space" [.int 2, .int 3, .int 4, .int 5, .int 7, .int 9] &&
  (He.tupB K "SIZES_field" [.int 2, .int 3, .int 4, .int 5, .int 7, .int 9] && (He.tupB K "CHARACTERISTICS" [.int 2, .int 3, .int 2, .int 5, .int 7, .int 3] &&
  (He.Fa.ok K (.glo "KINDS") && (He.Fa.ok K (.glo "SIZES_space") && (He.Fa.ok K (.glo "SIZES_field") && He.Fa.ok K (.glo "CHARACTERISTICS")))))))) = true := (He.ba (He.ba (He.ba (He.ba (He.ba T.says.1).2).2).2).2).2
theorem Tx.tKINDS (T : Tx K mg) (H : Hp) : SqT K H (He.ga K "KINDS") [.str "alternating", .str "quadratic", .str "hermitian"] := He.tupB_ok (He.ba T.rest).1 H
theorem Tx.tSIZES_space (T : Tx K mg) (H : Hp) : SqT K H (He.ga K "SIZES_space") [.int 2, .int 3, .int 4, .int 5, .int 7, .int 9] := He.tupB_ok (He.ba (He.ba T.rest).2).1 H
theorem Tx.tSIZES_field (T : Tx K mg) (H : Hp) : SqT K H (He.ga K "SIZES_field") [.int 2, .int 3, .int 4, .int 5, .int 7, .int 9] := He.tupB_ok (He.ba (He.ba (He.ba T.rest).2).2).1 H
theorem Tx.tCHARACTERISTICS (T : Tx K mg) (H : Hp) : SqT K H (He.ga K "CHARACTERISTICS") [.int 2, .int 3, .int 2, .int 5, .int 7, .int 3] := He.tupB_ok (He.ba (He.ba (He.ba (He.ba T.rest).2).2).2).1 H
theorem Tx.gKINDS (T : Tx K mg) : mg "KINDS" = some (.ref (He.ga K "KINDS")) := T.g _ (He.ba (He.ba (He.ba (He.ba (He.ba T.rest).2).2).2).2).1
theorem Tx.gSIZES_space (T : Tx K mg) : mg "SIZES_space" = some (.ref (He.ga K "SIZES_space")) := T.g _ (He.ba (He.ba (He.ba (He.ba (He.ba (He.ba T.rest).2).2).2).2).2).1
theorem Tx.gSIZES_field (T : Tx K mg) : mg "SIZES_field" = some (.ref (He.ga K "SIZES_field")) := T.g _ (He.ba (He.ba (He.ba (He.ba (He.ba (He.ba (He.ba T.rest).2).2).2).2).2).2).1
theorem Tx.gCHARACTERISTICS (T : Tx K mg) : mg "CHARACTERISTICS" = some (.ref (He.ga K "CHARACTERISTICS")) := T.g _ (He.ba (He.ba (He.ba (He.ba (He.ba (He.ba (He.ba T.rest).2).2).2).2).2).2).2
theorem ownB_ok {C : Addr} {m : Str} (h : ownB K C m = true) : PySem.W.findIn K (.ref C) m = some (some (.ref (He.ma K C m))) ∧ PySem.W.isFn K (.ref (He.ma K C m)) = true ∧ PySem.W.keepIn K (.ref (He.ma K C m)) = true ∧ PySem.W.fnIn K (He.ma K C m) = true := by
  obtain ⟨h1, h⟩ := He.ba h
  obtain ⟨h2, h⟩ := He.ba h
  obtain ⟨h3, h4⟩ := He.ba h
  exact ⟨He.eqO_ok h1, h2, h3, h4⟩
end
/-! ### the rules with the written part named -/
section
variable {X : Cx} {K : PySem.W.Frag} {e o value : Expr} {es : List Expr} {f : Str} {ta tv te : TE} {t : TA} {tg : Expr} {pos pos' p tpos : Pos} {elts : List Expr} {kk : Nat}
theorem pe_fldK (K : PySem.W.Frag) (he : PE X e ta) (hK : X.K = K := by rfl) (hb : attributeBase e f X.env (eval e X.env) = eval e X.env := by rfl) : PE X (.Attribute e f pos) (tFld K ta f) := by
  subst hK
  exact pe_fld he hb
theorem ps_fldK (K : PySem.W.Frag) (ha : PE X o ta) (hv : PE X value tv) (hK : X.K = K := by rfl) (hs : swapsWith value (some (.Attribute o f pos')) pos.line X.env = pure false := by rfl) : PS X (.Assign [.Attribute o f pos'] value pos) (sFld K ta tv f) := by
  subst hK
  exact ps_fld ha hv hs
theorem op_catAK (K : PySem.W.Frag) (hK : X.K = K := by rfl) : OpR X (binaryOp .Add) (rCatA K) := by
  subst hK
  exact op_catA
theorem sl_tupAK (K : PySem.W.Frag) (hK : X.K = K := by rfl) : SlR X (rSlA K) := by
  subst hK
  exact sl_tupA
theorem sl_listK (K : PySem.W.Frag) (hK : X.K = K := by rfl) : SlR X (rSlL K) := by
  subst hK
  exact sl_list
theorem ix_tupK (K : PySem.W.Frag) (hK : X.K = K := by rfl) : IxR X (rIxT K) := by
  subst hK
  exact ix_tup
theorem ix_listK (K : PySem.W.Frag) (hK : X.K = K := by rfl) : IxR X (rIxL K) := by
  subst hK
  exact ix_list
theorem op_in_seqK (K : PySem.W.Frag) (hK : X.K = K := by rfl) : OpR X (compareOp .In) (rIn K false) := by
  subst hK
  exact op_in_seq
theorem op_notIn_seqK (K : PySem.W.Frag) (hK : X.K = K := by rfl) : OpR X (compareOp .NotIn) (rIn K true) := by
  subst hK
  exact op_notIn_seq
theorem op_eqDK (K : PySem.W.Frag) (hu : X.A.units + 64 < cLine) (hK : X.K = K := by rfl) : OpR X (compareOp .Eq) (rEqD K) := by
  subst hK
  exact op_eqD hu
theorem op_neDK (K : PySem.W.Frag) (hu : X.A.units + 64 < cLine) (hK : X.K = K := by rfl) : OpR X (compareOp .NotEq) (rNeD K) := by
  subst hK
  exact op_neD hu
def rLenS (K : PySem.W.Frag) (xs : List V) (H : Hp) (Q : VK) : Prop := ∃ p ys, xs = [.ref p] ∧ (SqL K H p ys ∨ SqT K H p ys) ∧ Q (.int ys.length) H
theorem call_len_seqK (K : PySem.W.Frag) (hK : X.K = K := by rfl) : CallR X (.builtin "len") (rLenS K) := by
  subst hK
  exact call_len_seq
def rTupO (K : PySem.W.Frag) (xs : List V) (H : Hp) (Q : VK) : Prop := ∃ p ys, xs = [.ref p] ∧ ((SqL K H p ys ∧ ∀ l, H l = none → Q (.ref l) (upd H l (.tup ys))) ∨ (SqT K H p ys ∧ Q (.ref p) H))
theorem call_tuple_ofK (K : PySem.W.Frag) (hK : X.K = K := by rfl) : CallR X (.type "tuple") (rTupO K) := by
  subst hK
  exact call_tuple_of
def rLstO (K : PySem.W.Frag) (xs : List V) (H : Hp) (Q : VK) : Prop := ∃ p ys, xs = [.ref p] ∧ (SqL K H p ys ∨ SqT K H p ys) ∧ ∀ l, H l = none → Q (.ref l) (upd H l (.lst ys))
theorem call_list_ofK (K : PySem.W.Frag) (hK : X.K = K := by rfl) : CallR X (.type "list") (rLstO K) := by
  subst hK
  exact call_list_of
theorem cr_allK (K : PySem.W.Frag) (hc : X.calm = true) (hK : X.K = K := by rfl) : CallR X (.builtin "all") (rAll K) := by
  subst hK
  exact cr_all hc
theorem call_isiTK (K : PySem.W.Frag) (hK : X.K = K := by rfl) : CallR X (.builtin "isinstance") (rIsiT K) := by
  subst hK
  exact call_isiT
theorem call_isiK1 (K : PySem.W.Frag) (hK : X.K = K := by rfl) : CallR X (.builtin "isinstance") (rIsi K) := by
  subst hK
  exact call_isi
theorem call_isCK (K : PySem.W.Frag) {C : Addr} (c : C8.InsC K C) (hK : X.K = K := by rfl) : CallR X (.builtin "isinstance") (fun xs H Q => ∃ a dx fs, xs = [.ref a, .ref C] ∧ H a = some (.ins C dx fs) ∧ Q (.bl true) H) := by
  subst hK
  exact C8.call_isC c
theorem pg_tupK (K : PySem.W.Frag) {es : List Expr} {k : Nat} {t : TGs} {n : Nat} (hc : X.calm = true) (h : PGs X es t) (hK : X.K = K := by rfl)
    (hn : (assignEach es X.env).length = n := by rfl) (hst : (assignEach es X.env).findIdx? (·.1) = none := by rfl) : PG X (.Tuple es k pos) (gTup K n t) := by
  subst hK
  exact pg_tup hc h hn hst
theorem pi_tupK (K : PySem.W.Frag) {l : Expr} {tl : TE} (hl : PE X l tl) (hK : X.K = K := by rfl) : PI X tg l (iTup K tl) := by
  subst hK
  exact pi_tup hl
theorem pi_listK (K : PySem.W.Frag) {l : Expr} {tl : TE} (hl : PE X l tl) (hK : X.K = K := by rfl) : PI X tg l (iList K tl) := by
  subst hK
  exact pi_list hl
theorem pi_zipAK (K : PySem.W.Frag) {e e2 : Expr} {ta : TA} (hg : Gl X "zip") (hm : X.mg "zip" = none) (ha : PA X [e, e2] ta) (hK : X.K = K := by rfl)
    (hs : starEach [e, e2] X.env = (false, eval e X.env) :: starEach [e2] X.env := by rfl) (hpl : (backTo pos (starEach [e2] X.env)).any (·.1) = false := by rfl) :
    PI X (.Tuple elts kk tpos) (.Call (.Name "zip" p) [e, e2] [] pos) (RZ.iZipA K ta) := by
  subst hK
  exact RZ.pi_zipA hg hm ha hs hpl
theorem pi_revAK (K : PySem.W.Frag) {e : Expr} {te : TE} (hg : Gl X "reversed") (hm : X.mg "reversed" = none) (he : PE X e te) (hK : X.K = K := by rfl) (hs : starEach [e] X.env = (false, eval e X.env) :: starEach [] X.env := by rfl) :
    PI X tg (.Call (.Name "reversed" p) [e] [] pos) (RT.iRevA K te) := by
  subst hK
  exact RT.pi_revA hg hm he hs
theorem mt_indexK (K : PySem.W.Frag) (hK : X.K = K := by rfl) : MtR X "list.index" (rIndex K) := by
  subst hK
  exact mt_index
end
/-! ### fields read -/
section
variable {K : PySem.W.Frag} {mg : Str → Option Value} {H : Hp} {a dx : Addr} {k : Kd} {q n : Int} {m f g s : V} {Q : V → Prop}
theorem rd_q (T : Tx K mg) (ha : H a = some (.ins (He.ga K "Field") dx (fdF k))) (z : Q (.int (k.q : Int))) : ∃ a' C dx' fs v, V.ref a = .ref a' ∧ H a' = some (.ins C dx' fs) ∧ Cls K C ∧ NoAttr K C "q" ∧ fs.lookup ("q" : Str) = some v ∧ Q v := ⟨a, _, dx, _, _, rfl, ha, T.kField, T.nField_q, fd_q k, z⟩
theorem rd_p (T : Tx K mg) (ha : H a = some (.ins (He.ga K "Field") dx (fdF k))) (z : Q (.int (k.p : Int))) : ∃ a' C dx' fs v, V.ref a = .ref a' ∧ H a' = some (.ins C dx' fs) ∧ Cls K C ∧ NoAttr K C "p" ∧ fs.lookup ("p" : Str) = some v ∧ Q v := ⟨a, _, dx, _, _, rfl, ha, T.kField, T.nField_p, fd_p k, z⟩
theorem rs_kind (T : Tx K mg) (ha : H a = some (.ins (He.ga K "Space") dx (spF q n m f g))) (z : Q (.str "quadratic")) : ∃ a' C dx' fs v, V.ref a = .ref a' ∧ H a' = some (.ins C dx' fs) ∧ Cls K C ∧ NoAttr K C "kind" ∧ fs.lookup ("kind" : Str) = some v ∧ Q v := ⟨a, _, dx, _, _, rfl, ha, T.kSpace, T.nSpace_kind, sp_kind q n m f g, z⟩
theorem rs_q (T : Tx K mg) (ha : H a = some (.ins (He.ga K "Space") dx (spF q n m f g))) (z : Q (.int q)) : ∃ a' C dx' fs v, V.ref a = .ref a' ∧ H a' = some (.ins C dx' fs) ∧ Cls K C ∧ NoAttr K C "q" ∧ fs.lookup ("q" : Str) = some v ∧ Q v := ⟨a, _, dx, _, _, rfl, ha, T.kSpace, T.nSpace_q, sp_q q n m f g, z⟩
theorem rs_n (T : Tx K mg) (ha : H a = some (.ins (He.ga K "Space") dx (spF q n m f g))) (z : Q (.int n)) : ∃ a' C dx' fs v, V.ref a = .ref a' ∧ H a' = some (.ins C dx' fs) ∧ Cls K C ∧ NoAttr K C "n" ∧ fs.lookup ("n" : Str) = some v ∧ Q v := ⟨a, _, dx, _, _, rfl, ha, T.kSpace, T.nSpace_n, sp_n q n m f g, z⟩
theorem rs_matrix (T : Tx K mg) (ha : H a = some (.ins (He.ga K "Space") dx (spF q n m f g))) (z : Q m) : ∃ a' C dx' fs v, V.ref a = .ref a' ∧ H a' = some (.ins C dx' fs) ∧ Cls K C ∧ NoAttr K C "matrix" ∧ fs.lookup ("matrix" : Str) = some v ∧ Q v := ⟨a, _, dx, _, _, rfl, ha, T.kSpace, T.nSpace_matrix, sp_matrix q n m f g, z⟩
theorem rs_field (T : Tx K mg) (ha : H a = some (.ins (He.ga K "Space") dx (spF q n m f g))) (z : Q f) : ∃ a' C dx' fs v, V.ref a = .ref a' ∧ H a' = some (.ins C dx' fs) ∧ Cls K C ∧ NoAttr K C "field" ∧ fs.lookup ("field" : Str) = some v ∧ Q v := ⟨a, _, dx, _, _, rfl, ha, T.kSpace, T.nSpace_field, sp_field q n m f g, z⟩
theorem rs_gram (T : Tx K mg) (ha : H a = some (.ins (He.ga K "Space") dx (spF q n m f g))) (z : Q g) : ∃ a' C dx' fs v, V.ref a = .ref a' ∧ H a' = some (.ins C dx' fs) ∧ Cls K C ∧ NoAttr K C "_gram" ∧ fs.lookup ("_gram" : Str) = some v ∧ Q v := ⟨a, _, dx, _, _, rfl, ha, T.kSpace, T.nSpace__gram, sp_gram q n m f g, z⟩
theorem ri_space (T : Tx K mg) (ha : H a = some (.ins (He.ga K "Isometry") dx (isF s m))) (z : Q s) : ∃ a' C dx' fs v, V.ref a = .ref a' ∧ H a' = some (.ins C dx' fs) ∧ Cls K C ∧ NoAttr K C "space" ∧ fs.lookup ("space" : Str) = some v ∧ Q v := ⟨a, _, dx, _, _, rfl, ha, T.kIsometry, T.nIsometry_space, is_space m s, z⟩
theorem ri_matrix (T : Tx K mg) (ha : H a = some (.ins (He.ga K "Isometry") dx (isF s m))) (z : Q m) : ∃ a' C dx' fs v, V.ref a = .ref a' ∧ H a' = some (.ins C dx' fs) ∧ Cls K C ∧ NoAttr K C "matrix" ∧ fs.lookup ("matrix" : Str) = some v ∧ Q v := ⟨a, _, dx, _, _, rfl, ha, T.kIsometry, T.nIsometry_matrix, is_matrix m s, z⟩
end
end Wit

namespace Wit
open PySem PySem.Spec PyProof.Rows L2
/-! ### zip of a list with a tuple -/
def ItzM (K : PySem.W.Frag) (l t : Addr) : It :=
  ⟨fun i H => ∃ us ws : List V, ∃ u w' : V, SqL K H l us ∧ SqT K H t ws ∧ us[i]? = some u ∧ ws[i]? = some w',
    fun i H v H' => ∃ T u w', v = .ref T ∧ H T = none ∧ H' = upd H T (.tup [u, w']) ∧ (∀ us, SqL K H l us → us[i]? = some u) ∧ ∀ ws, SqT K H t ws → ws[i]? = some w',
    fun i H => ∃ us ws : List V, SqL K H l us ∧ SqT K H t ws ∧ us.length = ws.length ∧ i = ws.length⟩
theorem turn_zipM {P : Program} {w : World} {K : PySem.W.Frag} {es : List Expr} {n : Nat} {ps : Pos} {l t z ta tb j1 j2 : Addr} (S : ZipSep2 z ta tb j1 j2 [j1, l] [j2, t]) (n1 : l ≠ j1) (n2 : t ≠ j2) :
    Turn P w K (.Tuple es n ps) (ItzM K l t) [z, ta, tb, j1, j2] z (fun i h => (IsZip h z ta tb .none ∧ IsTupOf2 h ta (.ref j1) (.ref j2)) ∧ (∃ c d, IsTupOf2 h tb c d) ∧ h.IsListIter j1 l i ∧ h.IsTupleIter j2 t i) where
  mem := List.mem_cons_self ..
  obj := fun i h tn c hc => by
    obtain ⟨⟨g1, g2⟩, ⟨c', d', g3⟩, ⟨o4, g4, _, k4⟩, ⟨o5, g5, _, k5⟩⟩ := tn
    simp only [List.mem_cons, List.not_mem_nil, or_false] at hc
    rcases hc with rfl | rfl | rfl | rfl | rfl
    · exact ⟨_, g1, fun _ e => nomatch e⟩
    · exact ⟨_, g2, fun _ e => nomatch e⟩
    · exact ⟨_, g3, fun _ e => nomatch e⟩
    · exact ⟨o4, g4, fun _ e => by rw [k4] at e; cases e⟩
    · exact ⟨o5, g5, fun _ e => by rw [k5] at e; cases e⟩
  keep := fun i h h' tn k => by
    obtain ⟨⟨g1, g2⟩, ⟨c', d', g3⟩, g4, g5⟩ := tn
    exact ⟨⟨k z (by simp) _ g1, k ta (by simp) _ g2⟩, ⟨c', d', k tb (by simp) _ g3⟩, g4.at fun o e => k j1 (by simp) o e, g5.at fun o e => k j2 (by simp) o e⟩
  item := by
    intro X eP ew eK calm i pins s σ H E I fp tn go
    subst eP ew eK
    obtain ⟨⟨g1, g2⟩, ⟨c', d', g3⟩, g4, g5⟩ := tn
    obtain ⟨us, ws, u, w', hl, ht, eu, ew⟩ := go
    obtain ⟨A1, r1, p1, _⟩ := I.list hl
    obtain ⟨A2, r2, p2, _⟩ := I.tuple ht
    obtain ⟨x, ex, rx⟩ := r1.get eu
    obtain ⟨y, ey, ry⟩ := r2.get ew
    have hh : X.A.in1.handled = none := I.ok.hd calm
    have zlt : z < s.heap.objs.size := Heap.lt_size g1
    have D1 := Draws.list (prog := X.prog) (w := X.w) hh j1 l n1 A1.toArray
    have D2 := Draws.tuple (prog := X.prog) (w := X.w) hh j2 t n2 A2.toArray
    have b1 : i < A1.toArray.size := by
      have := (List.getElem?_eq_some_iff.mp ex).1
      simpa using this
    have b2 : i < A2.toArray.size := by
      have := (List.getElem?_eq_some_iff.mp ey).1
      simpa using this
    refine wpAny_pyNext_zipD2_item S D1 D2 g1 g2 g3 ⟨g4, p1.isList⟩ ⟨g5, p2⟩ b1 b2 fun x' y' h' tk ex' ey' f1 f3 f4 f5 fT fsz fk => ?_
    have e1 : x' = x := by
      rw [List.getElem?_toArray, ex] at ex'
      exact (Option.some.inj ex').symm
    have e2 : y' = y := by
      rw [List.getElem?_toArray, ey] at ey'
      exact (Option.some.inj ey').symm
    subst e1 e2
    refine ⟨_, rfl, wpAny_letOwnedTupleGo_zip (s := { s with heap := h', toks := tk }) f1 fun h'' f1' sb => ?_⟩
    have off : ∀ c o, h'.get? c = some o → c ≠ z → h''.get? c = some o := fun c o e n => (sb.2 c n).trans e
    have fT' := off _ _ fT (Nat.ne_of_gt zlt)
    have nw : ObjOk X.prog X.w (upd H s.heap.objs.size (.tup [u, w'])) h'' s.heap.objs.size (.tup [u, w']) :=
      ⟨by show 2 ≤ sizeLine; decide, [x', y'], .cons rx (.cons ry .nil), ⟨_, fT', rfl, _, rfl⟩⟩
    have I' : Inv X pins σ (upd H s.heap.objs.size (.tup [u, w'])) { s with heap := h'', toks := tk } :=
      I.turnedNew (ch := [z, ta, tb, j1, j2]) (fun c o nc e => by
        simp only [List.mem_cons, List.not_mem_nil, or_false, not_or] at nc
        exact off c o (fk c o nc.1 nc.2.2.1 nc.2.2.2.1 nc.2.2.2.2 e) nc.1) fp (Nat.le_refl _) nw
    refine ⟨.ref s.heap.objs.size, _, I', rfl, ⟨_, u, w', rfl, I.hok.fresh (Nat.le_refl _), rfl, fun l' h => ?_, fun l' h => ?_⟩, ⟨⟨f1', off _ _ (fk _ _ S.TIz S.TITO S.TIi1 S.TIi2 g2) S.TIz⟩, ⟨x', y', off _ _ f3 S.TOz⟩, f4.1.at fun o e => off _ _ e (Ne.symm S.zi1), f5.1.at fun o e => off _ _ e (Ne.symm S.zi2)⟩, fun c hc => ?_⟩
    · rw [I.list_inj h hl]; exact eu
    · rw [I.tuple_inj h ht]; exact ew
    · have lt : c < s.heap.objs.size := by
        simp only [List.mem_cons, List.not_mem_nil, or_false] at hc
        obtain ⟨o4, k4, _⟩ := g4
        obtain ⟨o5, k5, _⟩ := g5
        rcases hc with rfl | rfl | rfl | rfl | rfl
        · exact zlt
        · exact Heap.lt_size g2
        · exact Heap.lt_size g3
        · exact Heap.lt_size k4
        · exact Heap.lt_size k5
      rw [upd_ne (Nat.ne_of_lt lt)]
      exact (fp c hc).1
  done := by
    intro X eP ew eK calm i pins s σ H E I fp tn stop
    subst eP ew eK
    obtain ⟨⟨g1, g2⟩, ⟨c', d', g3⟩, g4, g5⟩ := tn
    obtain ⟨us, ws, hl, ht, el, ei⟩ := stop
    obtain ⟨A1, r1, p1, _⟩ := I.list hl
    obtain ⟨A2, r2, p2, _⟩ := I.tuple ht
    have hh : X.A.in1.handled = none := I.ok.hd calm
    have D1 := Draws.list (prog := X.prog) (w := X.w) hh j1 l n1 A1.toArray
    have D2 := Draws.tuple (prog := X.prog) (w := X.w) hh j2 t n2 A2.toArray
    have l1 : A1.toArray.size = us.length := by rw [List.size_toArray]; exact r1.length.symm
    have l2 : A2.toArray.size = ws.length := by rw [List.size_toArray]; exact r2.length.symm
    refine wpAny_pyNext_zipD2_end S D1 D2 g1 g2 g3 ⟨g4, p1.isList⟩ ⟨g5, p2⟩ (by omega) (by omega) (by omega) fun h' tk fk => ⟨rfl, I.turnedL (ch := [z, ta, tb, j1, j2]) (fun c o nc e => ?_) fp⟩
    simp only [List.mem_cons, List.not_mem_nil, or_false, not_or] at nc
    exact fk c o nc.1 nc.2.2.1 nc.2.2.2.1 nc.2.2.2.2 e
  self := fun A i s Q E tn h => wpAny_pyIter_zip tn.1.1 h
def iZipM (K : PySem.W.Frag) (ta : TA) : TI := fun σ H R => ta σ H fun vs H1 => ∃ l t us ws, vs = [.ref l, .ref t] ∧ SqL K H1 l us ∧ SqT K H1 t ws ∧ R (ItzM K l t) H1
theorem pi_zipMK {X : Cx} (K : PySem.W.Frag) {e1 e2 : Expr} {ta : TA} {p q r : Pos} {es : List Expr} {n : Nat} (hg : Gl X "zip") (hm : X.mg "zip" = none) (ha : PA X [e1, e2] ta) (hK : X.K = K := by rfl)
    (hs : starEach [e1, e2] X.env = (false, eval e1 X.env) :: starEach [e2] X.env := by rfl) (hp : (backTo q (starEach [e2] X.env)).any (·.1) = false := by rfl) :
    PI X (.Tuple es n r) (.Call (.Name "zip" p) [e1, e2] [] q) (iZipM K ta) := by
  subst hK
  refine ⟨fun pins s σ H R I h => Call_ (ld_blt I hg hm PyProof.Rows.boot_zip (PyProof.Rows.callWith_type1 (thn (ha.run q pins s σ H _ I h) fun vs s1 z => ?_) hs hp))⟩
  obtain ⟨_, H1, I1, rv, l, t, us, ws, rfl, hl, ht, z⟩ := z
  obtain ⟨x, y, rfl, rx, ry⟩ : ∃ x y, vs = [x, y] ∧ RelV (.ref l) x ∧ RelV (.ref t) y := by
    cases rv with
    | cons r1 rr => cases rr with
      | cons r2 rr => cases rr; exact ⟨_, _, rfl, r1, r2⟩
  cases rx
  cases ry
  obtain ⟨A1, r1, p1, _⟩ := I1.list hl
  obtain ⟨A2, r2, p2, _⟩ := I1.tuple ht
  have lb : l < s1.heap.objs.size := p1.lt
  have tb : t < s1.heap.objs.size := by
    obtain ⟨o, e, _⟩ := id p2
    exact Heap.lt_size e
  refine zip_begins2 (begins_list l A1.toArray) (begins_tuple t A2.toArray) p1.isList p2 fun h' g1 g2 g3 g4 g5 _ gk => wpAny_pyIter_zip g1 ?_
  refine ⟨_, [_, _, _, _, _], _, _, H1, rfl, I1.kept (t' := s1.toks) gk, turn_zipM (zip_sep2 (N := s1.heap.objs.size) (fp1 := [l]) (fp2 := [t]) (fun b hb => by rw [List.mem_singleton.mp hb]; exact lb) fun b hb => by rw [List.mem_singleton.mp hb]; exact tb) (Nat.ne_of_lt lb) (Nat.ne_of_lt (Nat.lt_succ_of_lt tb)), ⟨⟨g1, g2⟩, ⟨_, _, g3⟩, ⟨_, g4, rfl, rfl⟩, ⟨_, g5, rfl, rfl⟩⟩, fun b hb => ?_, z⟩
  have hle : s1.heap.objs.size ≤ b := by
    simp only [List.mem_cons, List.not_mem_nil, or_false] at hb
    rcases hb with rfl | rfl | rfl | rfl | rfl <;> first | exact Nat.le_refl _ | exact Nat.le_add_right _ _
  exact I1.fpOk hle (I1.hok.fresh hle)
theorem walk_zipM {K : PySem.W.Frag} {l t : Addr} {us ws : List V} (he : us.length = ws.length) : Walk (ItzM K l t) ws.length (fun H => SqL K H l us ∧ SqT K H t ws) (YPair (fun i => us[i]?) (fun i => ws[i]?)) := by
  refine ⟨fun i _ hi q => ?_, fun _ q => ⟨us, ws, q.1, q.2, he, rfl⟩, fun i H v H' _ q y => ?_⟩
  · exact ⟨us, ws, us[i], ws[i], q.1, q.2, List.getElem?_eq_getElem (he ▸ hi), List.getElem?_eq_getElem hi⟩
  · obtain ⟨U, x, z, e1, e2, e3, f1, f2⟩ := y
    exact ⟨U, x, z, e1, e2, e3, f1 us q.1, f2 ws q.2⟩
/-! ### one of two ways -/
theorem pi_or {X : Cx} {tg l : Expr} {a b : TI} (h1 : PI X tg l a) (h2 : PI X tg l b) : PI X tg l (fun σ H R => a σ H R ∨ b σ H R) :=
  ⟨fun pins s σ H R I h => h.elim (h1.run pins s σ H R I) (h2.run pins s σ H R I)⟩
theorem pe_or2 {X : Cx} {e : Expr} {a b : TE} (h1 : PE X e a) (h2 : PE X e b) : PE X e (fun σ H Q => a σ H Q ∨ b σ H Q) :=
  ⟨fun pins s σ H Q I h => h.elim (h1.run pins s σ H Q I) (h2.run pins s σ H Q I)⟩
theorem pe_dead {X : Cx} {e : Expr} : PE X e (fun _ _ _ => False) := ⟨fun _ _ _ _ _ _ h => h.elim⟩
/-! ### enumerate of a tuple -/
theorem new_enumT (t : Addr) (A : Array Value) :
    Meets (Builtin.«enumerate.__new__» ⟨[.type "enumerate", .ref t], []⟩) (fun _ R s => s.heap.IsTuple t A ∧
      R (.ok (.ret (.ref (s.heap.push { cls := .type "tuple_iterator", data := .fields #[.ref t, .int 0 0] }).objs.size)))
        { s with heap := (s.heap.push { cls := .type "tuple_iterator", data := .fields #[.ref t, .int 0 0] }).push { cls := .type "enumerate", data := .fields #[.none, .bool false, .ref s.heap.objs.size, rawInt 0, .none, .none] } }) :=
  .of_wp fun prog w A' R s h => by
    obtain ⟨hp, g, d, tk, os⟩ := s
    obtain ⟨ht, h⟩ := h
    have sb := sub_enumerate
    have go : ∀ {A'' : Around} {E Q : Value → Shared → Prop}, Q (.ref hp.objs.size) ⟨hp.push { cls := .type "tuple_iterator", data := .fields #[.ref t, .int 0 0] }, g, d, tk, os⟩ → wpAny (model prog w) A'' (pyIter (.ref t)) Q E ⟨hp, g, d, tk, os⟩ :=
      fun q => wpAny_pyIter_tuple (s := ⟨hp, g, d, tk, os⟩) ht q
    wp_walk using go
    refine wpAny_stack_any fun _ => wpAny_pure ?_
    split
    · rename_i c _ _ _ _ _
      cases (c == Value.type "enumerate") <;> (wp_walk using go; exact ⟨_, rfl, h⟩)
    · wp_walk using go
      exact ⟨_, rfl, h⟩
theorem call_enumT {prog : Program} {w : World} {A : Around} {E Q : Value → Shared → Prop} {s : Shared} {t : Addr} {its : Array Value} (ht : s.heap.IsTuple t its)
    (k : ∀ h', IsEnum h' (s.heap.objs.size + 1) s.heap.objs.size 0 .none → h'.IsTupleIter s.heap.objs.size t 0 → (∀ b o, s.heap.get? b = some o → h'.get? b = some o) → Q (.ref (s.heap.objs.size + 1)) { s with heap := h' }) :
    wpAny (model prog w) A (call (.type "enumerate") [.ref t]) Q E s := by
  refine callType_new F.called_enumerate (by decide) (F.typeCall_enumerate_1 _) (F.newCall_enumerate_1 _) (fun obj => F.args_object_init_2 obj _) F.entry_enumerate_new (new_enumT t its) ⟨ht, ?_⟩
  have sz : (s.heap.push { cls := .type "tuple_iterator", data := .fields #[.ref t, .int 0 0] }).objs.size = s.heap.objs.size + 1 := Heap.size_push ..
  have en : IsEnum ((s.heap.push { cls := .type "tuple_iterator", data := .fields #[.ref t, .int 0 0] }).push { cls := .type "enumerate", data := .fields #[.none, .bool false, .ref s.heap.objs.size, rawInt 0, .none, .none] }) (s.heap.objs.size + 1) s.heap.objs.size 0 .none := by
    have z := Heap.get?_push_size (s.heap.push { cls := .type "tuple_iterator", data := .fields #[.ref t, .int 0 0] }) (o := { cls := .type "enumerate", data := .fields #[.none, .bool false, .ref s.heap.objs.size, rawInt 0, .none, .none] }) rfl
    rw [sz] at z
    exact z
  show _ ∧ _
  rw [sz]
  exact ⟨⟨_, en, rfl⟩, k _ en ⟨_, Heap.get?_push_of_some _ (Heap.get?_push_size _ rfl), rfl, rfl⟩ fun b o x => Heap.get?_push_of_some _ (Heap.get?_push_of_some _ x)⟩
def IteT (K : PySem.W.Frag) (t : Addr) : It :=
  ⟨fun i H => ∃ ws w', SqT K H t ws ∧ ws[i]? = some w', fun i H v H' => ∃ T w', v = .ref T ∧ H T = none ∧ H' = upd H T (.tup [.int (i : Nat), w']) ∧ ∀ ws, SqT K H t ws → ws[i]? = some w', fun i H => ∃ ws, SqT K H t ws ∧ i = ws.length⟩
theorem turn_enumT {P : Program} {w : World} {K : PySem.W.Frag} {es : List Expr} {n : Nat} {ps : Pos} {t e j : Addr} (n1 : e ≠ j) (n2 : e ≠ t) (n3 : t ≠ j) :
    Turn P w K (.Tuple es n ps) (IteT K t) [e, j] e (fun i h => (∃ old, IsEnum h e j ((i : Nat) : Int) old) ∧ h.IsTupleIter j t i) where
  mem := List.mem_cons_self ..
  obj := fun i h tn c hc => by
    obtain ⟨⟨old, g1⟩, ⟨o4, g4, _, k4⟩⟩ := tn
    simp only [List.mem_cons, List.not_mem_nil, or_false] at hc
    rcases hc with rfl | rfl
    · exact ⟨_, g1, fun _ e => nomatch e⟩
    · exact ⟨o4, g4, fun _ e => by rw [k4] at e; cases e⟩
  keep := fun i h h' tn k => by
    obtain ⟨⟨old, g1⟩, g4⟩ := tn
    exact ⟨⟨old, k e (by simp) _ g1⟩, g4.at fun o x => k j (by simp) o x⟩
  item := by
    intro X eP ew eK calm i pins s σ H E I fp tn go
    subst eP ew eK
    obtain ⟨⟨old, g1⟩, g5⟩ := tn
    obtain ⟨ws, w', ht, ew⟩ := go
    obtain ⟨A2, r2, p2, _⟩ := I.tuple ht
    obtain ⟨y, ey, ry⟩ := r2.get ew
    have hh : X.A.in1.handled = none := I.ok.hd calm
    have elt : e < s.heap.objs.size := Heap.lt_size g1
    have D2 := Draws.tuple (prog := X.prog) (w := X.w) hh j t n3 A2.toArray
    have b2 : i < A2.toArray.size := by
      have := (List.getElem?_eq_some_iff.mp ey).1
      simpa using this
    have nf : e ∉ [j, t] := by simp [n1, n2]
    refine wpAny_pyNext_enum_itemC D2 g1 ⟨g5, p2⟩ b2 n1 nf fun y' h' tk ey' f1 f5 fT fsz fk => ?_
    have e2 : y' = y := by
      rw [List.getElem?_toArray, ey] at ey'
      exact (Option.some.inj ey').symm
    subst e2
    refine ⟨_, rfl, wpAny_letOwnedTupleGo_enum (s := { s with heap := h', toks := tk + 1 }) f1 fun h'' f1' sb => ?_⟩
    have off : ∀ c o, h'.get? c = some o → c ≠ e → h''.get? c = some o := fun c o x n => (sb.2 c n).trans x
    have fT' := off _ _ fT (Nat.ne_of_gt elt)
    have nw : ObjOk X.prog X.w (upd H s.heap.objs.size (.tup [.int (i : Nat), w'])) h'' s.heap.objs.size (.tup [.int (i : Nat), w']) :=
      ⟨by show 2 ≤ sizeLine; decide, [.int (i : Nat) tk, y'], .cons ⟨_, rfl⟩ (.cons ry .nil), ⟨_, fT', rfl, _, rfl⟩⟩
    have I' : Inv X pins σ (upd H s.heap.objs.size (.tup [.int (i : Nat), w'])) { s with heap := h'', toks := tk + 1 } :=
      I.turnedNew (ch := [e, j]) (fun c o nc x => by
        simp only [List.mem_cons, List.not_mem_nil, or_false, not_or] at nc
        exact off c o (fk c o nc.1 nc.2 x) nc.1) fp (Nat.le_refl _) nw
    refine ⟨.ref s.heap.objs.size, _, I', rfl, ⟨_, w', rfl, I.hok.fresh (Nat.le_refl _), rfl, fun l' h => ?_⟩, ⟨⟨y', ?_⟩, f5.1.at fun o x => off _ _ x (Ne.symm n1)⟩, fun c hc => ?_⟩
    · rw [I.tuple_inj h ht]; exact ew
    · rw [Int.natCast_succ]; exact f1'
    · have lt : c < s.heap.objs.size := by
        simp only [List.mem_cons, List.not_mem_nil, or_false] at hc
        obtain ⟨o5, k5, _⟩ := g5
        rcases hc with rfl | rfl
        · exact elt
        · exact Heap.lt_size k5
      rw [upd_ne (Nat.ne_of_lt lt)]
      exact (fp c hc).1
  done := by
    intro X eP ew eK calm i pins s σ H E I fp tn stop
    subst eP ew eK
    obtain ⟨⟨old, g1⟩, g5⟩ := tn
    obtain ⟨ws, ht, ei⟩ := stop
    obtain ⟨A2, r2, p2, _⟩ := I.tuple ht
    have hh : X.A.in1.handled = none := I.ok.hd calm
    have D2 := Draws.tuple (prog := X.prog) (w := X.w) hh j t n3 A2.toArray
    have l2 : A2.toArray.size = ws.length := by rw [List.size_toArray]; exact r2.length.symm
    have ei : i = A2.toArray.size := by omega
    subst ei
    refine wpAny_pyNext_enum_endD D2 g1 ⟨g5, p2⟩ fun h' fk => ⟨rfl, I.turnedL (t' := s.toks) (ch := [e, j]) (fun c o nc x => ?_) fp⟩
    simp only [List.mem_cons, List.not_mem_nil, or_false, not_or] at nc
    exact fk c o nc.2 x
  self := fun A i s Q E tn h => by
    obtain ⟨⟨old, g1⟩, _⟩ := tn
    exact wpAny_pyIter_enum g1 h
def iEnumT (K : PySem.W.Frag) (ta : TA) : TI := fun σ H R => ta σ H fun vs H1 => ∃ t ws, vs = [.ref t] ∧ SqT K H1 t ws ∧ R (IteT K t) H1
theorem pi_enumTK {X : Cx} (K : PySem.W.Frag) {e1 : Expr} {ta : TA} {p q r : Pos} {es : List Expr} {n : Nat} (hg : Gl X "enumerate") (hm : X.mg "enumerate" = none) (ha : PA X [e1] ta) (hK : X.K = K := by rfl)
    (hs : starEach [e1] X.env = [(false, eval e1 X.env)] := by rfl) :
    PI X (.Tuple es n r) (.Call (.Name "enumerate" p) [e1] [] q) (iEnumT K ta) := by
  subst hK
  refine ⟨fun pins s σ H R I h => Call_ (ld_blt I hg hm boot_enumerate (PyProof.Rows.callWith_type1 (thn (ha.run q pins s σ H _ I h) fun vs s1 z => ?_) hs rfl))⟩
  obtain ⟨_, H1, I1, rv, t, ws, rfl, ht, z⟩ := z
  obtain ⟨y, rfl, ry⟩ := vals1 rv
  cases ry
  obtain ⟨A2, r2, p2, _⟩ := I1.tuple ht
  have tb : t < s1.heap.objs.size := by
    obtain ⟨o, e, _⟩ := id p2
    exact Heap.lt_size e
  refine call_enumT (its := A2.toArray) p2 fun h' g1 g4 gk => wpAny_pyIter_enum g1 ?_
  refine ⟨_, [_, _], _, _, H1, rfl, I1.kept (t' := s1.toks) gk, turn_enumT (Nat.succ_ne_self _) (Ne.symm (Nat.ne_of_lt (Nat.lt_succ_of_lt tb))) (Nat.ne_of_lt tb), ⟨⟨_, g1⟩, g4⟩, fun b hb => ?_, z⟩
  have hle : s1.heap.objs.size ≤ b := by
    simp only [List.mem_cons, List.not_mem_nil, or_false] at hb
    rcases hb with rfl | rfl <;> first | exact Nat.le_refl _ | exact Nat.le_add_right _ _
  exact I1.fpOk hle (I1.hok.fresh hle)
theorem walk_enumT {K : PySem.W.Frag} {t : Addr} {ws : List V} : Walk (IteT K t) ws.length (fun H => SqT K H t ws) (YPair (fun i => some (.int (i : Nat))) (fun i => ws[i]?)) := by
  refine ⟨fun i _ hi q => ⟨ws, ws[i], q, List.getElem?_eq_getElem hi⟩, fun _ q => ⟨ws, q, rfl⟩, fun i H v H' _ q y => ?_⟩
  obtain ⟨U, z, e1, e2, e3, f2⟩ := y
  exact ⟨U, _, z, e1, e2, e3, rfl, f2 ws q⟩
/-! ### the place of an int in a tuple of ints -/
def rTix (K : PySem.W.Frag) (x : V) (xs : List V) (H : Hp) (Q : VK) : Prop := ∃ p, ∃ ys : List Int, ∃ z j, x = .ref p ∧ xs = [.int z] ∧ SqT K H p (ys.map V.int) ∧ ys[j]? = some z ∧ (∀ m, m < j → ys[m]? ≠ some z) ∧ Q (.int (j : Nat)) H
theorem mt_tidx {X : Cx} (K : PySem.W.Frag) (hK : X.K = K := by rfl) : MtR X "tuple.index" (rTix K) := by
  subst hK
  intro pins s σ H x xs v us Q I rx rs h
  obtain ⟨p, ys, z, j, rfl, rfl, hs, hy, hf, q⟩ := h
  cases rx
  obtain ⟨u, rfl, t, rfl⟩ := vals1 rs
  obtain ⟨A, r, pt, _⟩ := I.tuple hs
  obtain ⟨⟨c, dd, dt, sl⟩, ho, hc, n, hd⟩ := pt
  simp only at hc hd
  subst hc hd
  have hl : A.toArray.size = ys.length := by rw [List.size_toArray, ← r.length, List.length_map]
  have lt : j < A.toArray.size := hl ▸ (List.getElem?_eq_some_iff.mp hy).1
  have get : ∀ (m : Nat) (hm : m < A.toArray.size), ∃ i t', ys[m]? = some i ∧ A.toArray[m] = Value.int i t' := fun m hm => by
    have hm' : m < ys.length := hl ▸ hm
    obtain ⟨w, hw, t', hw'⟩ := r.get (i := m) (x := .int ys[m]) (by simp [hm'])
    refine ⟨ys[m], t', List.getElem?_eq_getElem hm', ?_⟩
    rw [← hw', ← (List.getElem?_eq_some_iff.mp hw).2]
    rfl
  have fl : (ys.map V.int).all flatV = true := by
    rw [List.all_map]
    exact List.all_eq_true.mpr fun _ _ => rfl
  refine call_meets PySem.F.slot_tuple_index ⟨_, ho, rfl⟩ PySem.F.entry_tuple_index (PySem.F.args_tuple_index_2 _ _) (_root_.TI.tuple_indexAt p A.toArray n dd sl (.int z t) (eqU (.int z)) j lt ?_ ?_)
    ⟨ho, fun w hw => mem_eqAt (x := .int z) ⟨t, rfl⟩ rfl r fl w (by simpa using hw), ⟨.int (j : Nat), H, I.tok _, ⟨_, rfl⟩, q⟩⟩
  · obtain ⟨i, t', e1, e2⟩ := get j lt
    rw [hy] at e1
    cases e1
    rw [e2]
    exact beq_self_eq_true z
  · intro m hm hmj
    obtain ⟨i, t', e1, e2⟩ := get m hm
    rw [e2]
    exact beq_eq_false_iff_ne.mpr fun e => hf m hmj (e ▸ e1)
end Wit

namespace Wit
open PySem PySem.Spec PyProof.Rows L2 PySem.W
/-! ### a != b by the class's own == -/
section
variable {prog : Program} {w : World} {A : Around} {E : Value → Shared → Prop} {s : Shared} {K : Frag} {x C f : Addr} {ox : Obj} {od : Option Obj} {b : Value}
theorem bound_blt {M : Model} {name : Str} {id : String} {args : List Value} {Q : Option Value → Shared → Prop} (X : K.In s.heap) (I : InstAt s.heap x ox C od) (hs : findIn K (.ref C) name = some (some (.builtin id)))
    (hb : ∀ self, bindSpecial (.builtin id) self = pure (.builtin id, [self])) (h : wpAny M A (call (.builtin id) (.ref x :: args)) (fun v => Q (some v)) E s) : wpAny M A (callSpecialIfBound? (.ref x) name args) Q E s := by
  simp only [callSpecialIfBound?, bindSpecialIfBound?]
  refine wpAny_holding (wpAny_bind (wpAny_bind (wpAny_bind (I.type.here ((looks_findIn X hs).here ?_)))))
  simp only [hb]
  refine wpAny_bind (wpAny_askSetting (wpAny_ite ?_))
  have last : wpAny M A (call (.builtin id) ([.ref x] ++ args) >>= fun v => pure (some v)) Q E s := wpAny_bind (wpAny_mono h (fun v s' z => wpAny_pure z) fun _ _ z => z)
  split
  · exact wpAny_bind (wpAny_pure (wpAny_pure last))
  · exact wpAny_tryCatch (wpAny_bind (wpAny_pure (wpAny_pure last)))
theorem one_ne {Q : Value → Shared → Prop} (hu : A.in1.units < cLine) (X : K.In s.heap) (I : InstAt s.heap x ox C od) (hm : mroIn K C (.type "object") = some true) (hs : findIn K (.ref C) "__eq__" = some (some (.ref f))) (hf : isFn K (.ref f) = true)
    (h : wpAny (model prog w) A.in1 (call (.ref f) [.ref x, b]) (fun v s' => v = .bool true ∧ Q (.bool false) s') E s) : wpAny (model prog w) A (call (.builtin "object.__ne__") [.ref x, b]) Q E s := by
  refine wpAny_call (codeAny_call_builtin PySem.F.cmp_object.ne.plain PySem.F.cmpEntry_ne (check_slot (i := "object.__ne__") (owner := "object") (n := "__ne__") PySem.F.cmpKind_ne PySem.F.cmpSplit_ne (I.type.andThen (looks_mroIn X hm)) (PySem.F.cmpArgs_ne _ _) ?_))
  unfold Builtin.«object.__ne__»
  refine wpAny_bind (m := slotArgs "__ne__" 1 _) (wpAny_pure ?_)
  refine wpAny_bind (m := cRoomFor _ _) (wpAny_cRoomFor hu ?_)
  refine wpAny_bind (m := callSpecialIfBound? (.ref x) (Str.ofString "__eq__") _) (ifBound_K X I hs hf (wpAny_mono h (fun r s' hq => ?_) fun _ _ y => y))
  obtain ⟨rfl, q⟩ := hq
  refine wpAny_bind (m := truthy (.bool true)) (wpAny_truthy_bool ?_)
  exact wpAny_pure q
theorem ne_K {h0 : Heap} {L : Addr} {m : Str → Option Value} {Q : Value → Shared → Prop} (hu : A.units + 1 < cLine) (F : Fr h0 L s.heap m) (X0 : K.In h0) (I : InstAt s.heap x ox C od) (hb : Looks (model prog w) s.heap (typeOf b) (.ref C))
    (hn : findIn K (.ref C) "__ne__" = some (some (.builtin "object.__ne__"))) (hm : mroIn K C (.type "object") = some true) (hs : findIn K (.ref C) "__eq__" = some (some (.ref f))) (hf : isFn K (.ref f) = true)
    (h : wpAny (model prog w) A.in1 (call (.ref f) [.ref x, b]) (fun v s' => v = .bool true ∧ Q (.bool false) s') E s) : wpAny (model prog w) A (richCompare .NotEq (.ref x) b) Q E s := by
  have X := X0.keeps F.keep
  have one : wpAny (model prog w) A (tryCompare (.ref x) (cmpInfo .NotEq).2.1 b) (fun r s' => ∃ v, r = some v ∧ Q v s') E s := by
    unfold tryCompare
    refine wpAny_bind (bound_blt X I hn PySem.F.cmp_object.ne.bind (one_ne ?_ X I hm hs hf (wpAny_mono h (fun v s' z => ⟨z.1, wpAny_pure ⟨_, rfl, z.2⟩⟩) fun _ _ e => e)))
    exact hu
  unfold richCompare
  simp only [oneThing_ref]
  refine wpAny_holding (wpAny_bind (wpAny_cRoomFor (Nat.lt_of_succ_lt hu) ?_))
  refine wpAny_bind (I.type.here (wpAny_bind (hb.here ?_)))
  rw [show (Value.ref C != Value.ref C) = false from by simp]
  simp only [Bool.false_eq_true, if_false]
  refine wpAny_bind (wpAny_pure ?_)
  simp only [Bool.false_eq_true, if_false]
  refine wpAny_bind (wpAny_mono one (fun r s' z => ?_) fun _ _ e => e)
  obtain ⟨v, rfl, hq⟩ := z
  exact wpAny_pure hq
end
section
variable {X : Cx} {n : Nat}
/-- x != y, two instances that their own == holds equal -/
def rNeOwn (C : Addr) (R : Addr → Addr → Hp → Prop) : R2 := fun x y H Q => (∃ a b dx dy fs gs, x = .ref a ∧ y = .ref b ∧ H a = some (.ins C dx fs) ∧ H b = some (.ins C dy gs) ∧ R a b H) ∧ ∀ H', Ext H H' → Q (.bl false) H'
theorem op_ownNe {C f : Addr} {fd : FuncData} {ps : List Str} {R : Addr → Addr → Hp → Prop} (F : FnOk X.prog X.w X.K X.mg X.base CX0 n f fd ps (spEq R)) (hs : findIn X.K (.ref C) "__eq__" = some (some (.ref f))) (hf : isFn X.K (.ref f) = true) (hb : Binds X.K fd ps [])
    (hn : findIn X.K (.ref C) "__ne__" = some (some (.builtin "object.__ne__"))) (hm : mroIn X.K C (.type "object") = some true) (hr : Room (n + 1) X.A) : OpR X (compareOp .NotEq) (rNeOwn C R) := by
  intro pins s σ H x y v u Q I rx ry hq
  obtain ⟨⟨a, b, dx, dy, fs, gs, rfl, rfl, ha, hb', hR⟩, q⟩ := hq
  cases rx
  cases ry
  show wpAny (model X.prog X.w) X.A (richCompare .NotEq (.ref a) (.ref b)) (EP X pins σ Q) X.xe s
  obtain ⟨_, J, _⟩ := ins_get I.hok ha
  obtain ⟨_, J', _⟩ := ins_get I.hok hb'
  obtain ⟨od, J, _⟩ := J.look
  obtain ⟨od', J', _⟩ := J'.look
  obtain ⟨m, hF⟩ := I.fr
  have un : X.A.units + 1 < cLine := by have := hr.un; omega
  refine ne_K un hF I.ok.mod.kin J J'.type hn hm hs hf ?_
  have hsp : spEq R [.ref a, .ref b] H (fun v H' => v = .bl true ∧ Ext H H') L2.E0 := ⟨a, b, rfl, hR, fun H' e => ⟨rfl, e⟩⟩
  have hl := F.len _ _ _ _ hsp
  have e0 : Env0 X.prog X.w X.K X.mg X.base X.A.in1 X.stack s H := I.env0.in1
  refine wpAny_call (codeAny_mono (F.run X.A.in1 X.stack s H ⟨[.ref a, .ref b], []⟩ [.ref a, .ref b] [.ref a, .ref b] _ L2.E0 hr.in1 e0 (by
    have z := hb s [.ref a, .ref b] I.kIn (by simpa using hl)
    simpa using z) (.cons rfl (.cons rfl .nil)) hsp) fun r s' h => ?_)
  cases r with
  | error e => exact pass0 pins σ H s e s' I h
  | ok fl =>
    cases fl with
    | ret w =>
      obtain ⟨z, H', I', rz, ez, ex⟩ := I.after h
      subst ez
      cases rz
      exact ⟨rfl, .bl false, H', I', rfl, q H' ex⟩
    | next => exact h.elim
    | brk => exact h.elim
    | cont => exact h.elim
end
section
variable {X : Cx} {K : PySem.W.Frag} {mg : Str → Option Value} {k : Nat} {sp : Sp} {fe e : Expr} {es : List Expr} {t : TA} {tf : TE} {pos : Pos} {C : Addr}
theorem pe_callI {P : Program} {w : World} {base : Heap} {ps : List Str} (hf : PE X fe tf) (own : ownB K C "__call__" = true) (F : ∃ fd, Binds K fd ps [] ∧ FnOk P w K mg base CX0 k (He.ma K C "__call__") fd ps sp) (hr : Room k X.A) (ha : PA X (e :: es) t)
    (hP : X.prog = P := by rfl) (hw : X.w = w := by rfl) (hK : X.K = K := by rfl) (hmg : X.mg = mg := by rfl) (hb : X.base = base := by rfl)
    (ht : eval (.Call fe (e :: es) [] pos) X.env = (do callWith pos (← eval fe X.env) [] (backTo pos (starEach (e :: es) X.env)) (backToKw pos (keywordEach [] X.env))) := by rfl)
    (he : starEach (e :: es) X.env = (false, eval e X.env) :: starEach es X.env := by rfl) (hpl : (backTo pos (starEach es X.env)).any (·.1) = false := by rfl) : PE X (.Call fe (e :: es) [] pos) (StX.tCallO X C (fun vs H Q E => sp (vs ++ []) H Q E) L2.E0 tf t) := by
  subst hP hw hK hmg hb
  obtain ⟨fd, hbd, F⟩ := F
  obtain ⟨o1, o2, _, o4⟩ := ownB_ok own
  exact StX.pe_callO (C := C) (E := L2.E0) hf ⟨o1, o2, o4⟩ (FnOk.raw F hbd .nil) hr pass0 ha ht he hpl
end
end Wit

namespace Wit
open PySem PySem.Spec PyProof.Rows L2
section
variable {P : Program} {w : World} {K : PySem.W.Frag} {mg : Str → Option Value} {base : Heap}

/-! ### the field -/
/-- what joined gives -/
def jn (k : Kd) (i j : Int) : Int := if k.q = k.p then i % (k.p : Int) else i % (k.p : Int) + (k.p : Int) * (j % (k.p : Int))
theorem p_pos (k : Kd) : (0 : Int) < (k.p : Int) := by cases k <;> decide
theorem p_small (k : Kd) : (k.p : Int) < 1073741824 := by cases k <;> decide
theorem p_64 (k : Kd) : -(2 ^ 64) < (k.p : Int) ∧ (k.p : Int) < 2 ^ 64 := by cases k <;> decide
theorem el_64 {k : Kd} (a : El k) : -(2 ^ 64) < (a.val : Int) ∧ (a.val : Int) < 2 ^ 64 := by
  have h1 := a.lt
  have h2 := k.q_le
  omega
theorem qp_int (k : Kd) : decide (V.int (k.q : Int) = V.int (k.p : Int)) = decide (k.q = k.p) := by cases k <;> decide

/-- an int or a bool: is it an int that is no bool -/
def p_is_integer (v : V) (H : Hp) (Q : VK) : Prop := ∃ i : Int, v = .int i ∧ Q (.bl true) H
theorem c_is_integer (T : Tx K mg) : Cal P w K mg base 1 "is_integer" ["value"] (sp1 p_is_integer) :=
  cal_of (d := d_is_integer) (lv := 0) (i := 17) (j := 17) T rfl rfl rfl rfl rfl (keep_of (d := d_is_integer) (i := 17) T rfl) (S := ⟨rfl, rfl, rfl, by decide +kernel, rfl, by decide +kernel, by decide +kernel⟩) (N := ["value"]) (fun _ _ _ _ _ _ us hl => match us, hl with | [_], _ => rfl) len1 <| fun f cdv A outer s H vs Q E hr h => by
    obtain ⟨v0, rfl, h⟩ := h
    have nd : (["value"] : List Str).Nodup := by decide +kernel
    refine ⟨_, (pss_one (ps_ret (pe_and (pe_callB (call_isiK1 K) (by rfl) T.isinstance (by decide +kernel) (pa_cons (pv 0) (pa_cons (pe_bltn (v := .ty "int") (u := .type "int") (by rfl) T.int (by decide +kernel) rfl) pa_nil))) (pe_one (pe_not (pe_callB (call_isiK1 K) (by rfl) T.isinstance (by decide +kernel) (pa_cons (pv 0) (pa_cons (pe_bltn (v := .ty "bool") (u := .type "bool") (by rfl) T.bool (by decide +kernel) rfl) pa_nil)))))))), ?_⟩
    obtain ⟨i, rfl, q⟩ := h
    refine ⟨_, rfl, _, _, _, _, true, rfl, .ty _, .base (.int _), kit_ty (by decide +kernel), true, rfl, iteT ?_⟩
    exact ⟨_, rfl, _, _, _, _, false, rfl, .ty _, .base (.int _), kit_ty (by decide +kernel), false, rfl, q⟩


def p_Field_joined (K : PySem.W.Frag) (a b c : V) (H : Hp) (Q : VK) : Prop := ∃ (k : Kd) (i j : Int), Fd K H a k ∧ b = .int i ∧ c = .int j ∧ Q (.int (jn k i j)) H
theorem m_Field_joined (T : Tx K mg) : CalM P w K mg base 1 "Field" "joined" ["self", "low", "high"] (sp3 (p_Field_joined K)) :=
  calM_of (d := d_Field_joined) (lv := 0) (i := 71) (j := 73) (l := 69) T rfl rfl rfl rfl rfl rfl (S := ⟨rfl, rfl, rfl, by decide +kernel, rfl, by decide +kernel, by decide +kernel⟩) (N := ["self", "low", "high"]) (fun _ _ _ _ _ _ us hl => match us, hl with | [_, _, _], _ => rfl) len3 <| fun f cdv A outer s H vs Q E hr h => by
    obtain ⟨v0, v1, v2, rfl, h⟩ := h
    have nd : (["self", "low", "high"] : List Str).Nodup := by decide +kernel
    refine ⟨_, (pss_cons (ps_if (pt_cmpR op_eq (pe_fldK K (pv 0)) (pe_fldK K (pv 0)) (nomark _)) (pss_one (ps_ret (pe_op op_mod (pv 1) (pe_fldK K (pv 0))))) pss_nil) (pss_one (ps_ret (pe_op op_add (pe_op op_mod (pv 1) (pe_fldK K (pv 0))) (pe_op op_mul (pe_fldK K (pv 0)) (pe_op op_mod (pv 2) (pe_fldK K (pv 0)))))))), ?_⟩
    obtain ⟨k, i, j, ⟨a, dx, rfl, ha⟩, rfl, rfl, q⟩ := h
    refine ⟨_, rfl, rd_q T ha ?_⟩
    refine ⟨_, rfl, rd_p T ha ?_⟩
    refine ⟨rfl, _, rfl, ?_⟩
    rw [qp_int]
    refine ite2 (fun e => ?_) fun e => ?_
    · have e := of_decide_eq_true e
      refine ⟨_, rfl, _, rfl, rd_p T ha ?_⟩
      refine ⟨_, _, rfl, rfl, p_pos k, ?_⟩
      unfold jn at q
      rw [if_pos e] at q
      exact q
    · have e := of_decide_eq_false (by simpa using e)
      refine ⟨_, rfl, _, rfl, rd_p T ha ?_⟩
      refine ⟨_, _, rfl, rfl, p_pos k, ?_⟩
      refine ⟨_, rfl, rd_p T ha ?_⟩
      refine ⟨_, rfl, _, rfl, rd_p T ha ?_⟩
      refine ⟨_, _, rfl, rfl, p_pos k, _, _, rfl, rfl, .inl (p_64 k), _, _, rfl, rfl, ?_⟩
      unfold jn at q
      rw [if_neg e] at q
      exact q


end
end Wit

namespace Wit
open PySem PySem.Spec PyProof.Rows L2
section
variable {P : Program} {w : World} {K : PySem.W.Frag} {mg : Str → Option Value} {base : Heap}

/-- the field object's parts, whatever name it goes by -/
theorem rF_q {H : Hp} {v : V} {k : Kd} {Q : V → Prop} (T : Tx K mg) (hf : Fd K H v k) (z : Q (.int (k.q : Int))) : ∃ a' C dx' fs u, v = .ref a' ∧ H a' = some (.ins C dx' fs) ∧ Cls K C ∧ NoAttr K C "q" ∧ fs.lookup ("q" : Str) = some u ∧ Q u := by
  obtain ⟨a, dx, rfl, ha⟩ := hf
  exact rd_q T ha z
theorem rF_p {H : Hp} {v : V} {k : Kd} {Q : V → Prop} (T : Tx K mg) (hf : Fd K H v k) (z : Q (.int (k.p : Int))) : ∃ a' C dx' fs u, v = .ref a' ∧ H a' = some (.ins C dx' fs) ∧ Cls K C ∧ NoAttr K C "p" ∧ fs.lookup ("p" : Str) = some u ∧ Q u := by
  obtain ⟨a, dx, rfl, ha⟩ := hf
  exact rd_p T ha z
theorem mF {H : Hp} {v : V} {k : Kd} {m : Str} {R : Prop} (hf : Fd K H v k) (hm : (fdF k).lookup m = none) (z : R) : ∃ a dx fs, v = .ref a ∧ H a = some (.ins (He.ga K "Field") dx fs) ∧ fs.lookup m = none ∧ R := by
  obtain ⟨a, dx, rfl, ha⟩ := hf
  exact ⟨a, dx, _, rfl, ha, hm, z⟩
theorem jn_add : ∀ (k : Kd) (x y : El k), jn k ((x.val : Int) % (k.p : Int) + (y.val : Int) % (k.p : Int)) ((x.val : Int) / (k.p : Int) + (y.val : Int) / (k.p : Int)) = (((x + y : El k)).val : Int) := by
  intro k; cases k <;> decide +kernel
theorem jn_neg : ∀ (k : Kd) (x : El k), jn k (-((x.val : Int) % (k.p : Int))) (-((x.val : Int) / (k.p : Int))) = (((-x : El k)).val : Int) := by
  intro k; cases k <;> decide +kernel
theorem ml_one : ∀ (k : Kd) (x y : El k), k.q = k.p → ((x.val : Int) * (y.val : Int)) % (k.p : Int) = ((x * y : El k).val : Int) := by
  intro k; cases k <;> decide +kernel
theorem ml_two : ∀ (k : Kd) (x y : El k), ¬ k.q = k.p → jn k ((x.val : Int) % (k.p : Int) * ((y.val : Int) % (k.p : Int)) - (x.val : Int) / (k.p : Int) * ((y.val : Int) / (k.p : Int))) ((x.val : Int) % (k.p : Int) * ((y.val : Int) / (k.p : Int)) + (x.val : Int) / (k.p : Int) * ((y.val : Int) % (k.p : Int))) = ((x * y : El k).val : Int) := by
  intro k; cases k <;> decide +kernel
theorem p_div (k : Kd) {i : Int} : CDiv i (k.p : Int) := by cases k <;> exact ⟨by decide, by decide⟩
theorem qI {i j : Int} {Q : VK} {H : Hp} (e : i = j) (q : Q (.int j) H) : Q (.int i) H := e ▸ q
theorem mod_64 (k : Kd) (i : Int) : -(2 ^ 64) < i % (k.p : Int) ∧ i % (k.p : Int) < 2 ^ 64 := by
  have h1 := p_pos k
  have h2 := p_small k
  have h3 := Int.emod_nonneg i (Int.ne_of_gt h1)
  have h4 := Int.emod_lt_of_pos i h1
  omega
theorem div_64 {k : Kd} (x : El k) : -(2 ^ 64) < (x.val : Int) / (k.p : Int) ∧ (x.val : Int) / (k.p : Int) < 2 ^ 64 := by
  have h := el_64 x
  have h1 : (0 : Int) ≤ (x.val : Int) / (k.p : Int) := Int.ediv_nonneg (by omega) (Int.le_of_lt (p_pos k))
  have h2 : (x.val : Int) / (k.p : Int) ≤ (x.val : Int) := Int.ediv_le_self _ (by omega)
  omega
theorem p_two (k : Kd) : decide (V.int (k.p : Int) = V.int 2) = false := by cases k <;> decide

def p_Field_add (K : PySem.W.Frag) (a b c : V) (H : Hp) (Q : VK) : Prop := ∃ (k : Kd) (x y : El k), Fd K H a k ∧ b = iv x ∧ c = iv y ∧ Q (iv (x + y)) H
theorem m_Field_add (T : Tx K mg) : CalM P w K mg base 2 "Field" "add" ["self", "a", "b"] (sp3 (p_Field_add K)) :=
  calM_of (d := d_Field_add) (lv := 1) (i := 72) (j := 74) (l := 69) T rfl rfl rfl rfl rfl rfl (S := ⟨rfl, rfl, rfl, by decide +kernel, rfl, by decide +kernel, by decide +kernel⟩) (N := ["self", "a", "b"]) (fun _ _ _ _ _ _ us hl => match us, hl with | [_, _, _], _ => rfl) len3 <| fun f cdv A outer s H vs Q E hr h => by
    obtain ⟨v0, v1, v2, rfl, h⟩ := h
    have nd : (["self", "a", "b"] : List Str).Nodup := by decide +kernel
    refine ⟨_, (pss_one (ps_ret (pe_calM (pv 0) (m_Field_joined T) (hr.mono (by decide)) (pa_cons (pe_op op_add (pe_op op_mod (pv 1) (pe_fldK K (pv 0))) (pe_op op_mod (pv 2) (pe_fldK K (pv 0)))) (pa_cons (pe_op op_add (pe_op op_fdiv (pv 1) (pe_fldK K (pv 0))) (pe_op op_fdiv (pv 2) (pe_fldK K (pv 0)))) pa_nil))))), ?_⟩
    obtain ⟨k, x, y, hf, rfl, rfl, q⟩ := h
    refine ⟨_, rfl, mF hf (fd_no k) ?_⟩
    refine ⟨_, rfl, _, rfl, rF_p T hf ⟨_, _, rfl, rfl, p_pos k, _, rfl, _, rfl, rF_p T hf ⟨_, _, rfl, rfl, p_pos k, _, _, rfl, rfl, ?_⟩⟩⟩
    refine ⟨_, rfl, _, rfl, rF_p T hf ⟨_, _, rfl, rfl, p_div k, _, rfl, _, rfl, rF_p T hf ⟨_, _, rfl, rfl, p_div k, _, _, rfl, rfl, ?_⟩⟩⟩
    refine ⟨_, _, _, rfl, k, _, _, hf, rfl, rfl, ?_⟩
    exact qI (jn_add k x y) q


def p_Field_negative (K : PySem.W.Frag) (a b : V) (H : Hp) (Q : VK) : Prop := ∃ (k : Kd) (x : El k), Fd K H a k ∧ b = iv x ∧ Q (iv (-x)) H
theorem m_Field_negative (T : Tx K mg) : CalM P w K mg base 2 "Field" "negative" ["self", "a"] (sp2 (p_Field_negative K)) :=
  calM_of (d := d_Field_negative) (lv := 1) (i := 73) (j := 75) (l := 69) T rfl rfl rfl rfl rfl rfl (S := ⟨rfl, rfl, rfl, by decide +kernel, rfl, by decide +kernel, by decide +kernel⟩) (N := ["self", "a"]) (fun _ _ _ _ _ _ us hl => match us, hl with | [_, _], _ => rfl) len2 <| fun f cdv A outer s H vs Q E hr h => by
    obtain ⟨v0, v1, rfl, h⟩ := h
    have nd : (["self", "a"] : List Str).Nodup := by decide +kernel
    refine ⟨_, (pss_one (ps_ret (pe_calM (pv 0) (m_Field_joined T) (hr.mono (by decide)) (pa_cons (pe_un un_neg (pe_op op_mod (pv 1) (pe_fldK K (pv 0)))) (pa_cons (pe_un un_neg (pe_op op_fdiv (pv 1) (pe_fldK K (pv 0)))) pa_nil))))), ?_⟩
    obtain ⟨k, x, hf, rfl, q⟩ := h
    refine ⟨_, rfl, mF hf (fd_no k) ?_⟩
    refine ⟨_, rfl, _, rfl, rF_p T hf ⟨_, _, rfl, rfl, p_pos k, _, rfl, ?_⟩⟩
    refine ⟨_, rfl, _, rfl, rF_p T hf ⟨_, _, rfl, rfl, p_div k, _, rfl, ?_⟩⟩
    refine ⟨_, _, _, rfl, k, _, _, hf, rfl, rfl, ?_⟩
    exact qI (jn_neg k x) q


def p_Field_multiply (K : PySem.W.Frag) (a b c : V) (H : Hp) (Q : VK) : Prop := ∃ (k : Kd) (x y : El k), Fd K H a k ∧ b = iv x ∧ c = iv y ∧ Q (iv (x * y)) H
theorem m_Field_multiply (T : Tx K mg) : CalM P w K mg base 2 "Field" "multiply" ["self", "a", "b"] (sp3 (p_Field_multiply K)) :=
  calM_of (d := d_Field_multiply) (lv := 1) (i := 74) (j := 76) (l := 69) T rfl rfl rfl rfl rfl rfl (S := ⟨rfl, rfl, rfl, by decide +kernel, rfl, by decide +kernel, by decide +kernel⟩) (N := ["self", "a", "b", "low", "high", "own", "top", "middle"]) (fun _ _ _ _ _ _ us hl => match us, hl with | [_, _, _], _ => rfl) len3 <| fun f cdv A outer s H vs Q E hr h => by
    obtain ⟨v0, v1, v2, rfl, h⟩ := h
    have nd : (["self", "a", "b", "low", "high", "own", "top", "middle"] : List Str).Nodup := by decide +kernel
    refine ⟨_, (pss_cons (ps_if (pt_cmpR op_eq (pe_fldK K (pv 0)) (pe_fldK K (pv 0)) (nomark _)) (pss_one (ps_ret (pe_op op_mod (pe_op op_mul (pv 1) (pv 2)) (pe_fldK K (pv 0))))) pss_nil) (pss_cons (ps_par (i := 3) (j := 4) rfl nd rfl rfl (by decide) rfl rfl (pa_cons (pe_op op_mod (pv 1) (pe_fldK K (pv 0))) (pa_cons (pe_op op_fdiv (pv 1) (pe_fldK K (pv 0))) pa_nil)) (by rfl)) (pss_cons (ps_par (i := 5) (j := 6) rfl nd rfl rfl (by decide) rfl rfl (pa_cons (pe_op op_mod (pv 2) (pe_fldK K (pv 0))) (pa_cons (pe_op op_fdiv (pv 2) (pe_fldK K (pv 0))) pa_nil)) (by rfl)) (pss_cons (ps_set (i := 7) nd rfl (Or.inl rfl) (pe_op op_add (pe_op op_mul (pv 3) (pv 6)) (pe_op op_mul (pv 4) (pv 5)))) (pss_cons (ps_if (pt_cmpR op_eq (pe_fldK K (pv 0)) pe_int (nomark _)) (pss_one (ps_ret (pe_calM (pv 0) (m_Field_joined T) (hr.mono (by decide)) (pa_cons (pe_op op_add (pe_op op_mul (pv 3) (pv 5)) (pe_op op_mul (pv 4) (pv 6))) (pa_cons (pe_op op_add (pv 7) (pe_op op_mul (pv 4) (pv 6))) pa_nil))))) pss_nil) (pss_one (ps_ret (pe_calM (pv 0) (m_Field_joined T) (hr.mono (by decide)) (pa_cons (pe_op op_sub (pe_op op_mul (pv 3) (pv 5)) (pe_op op_mul (pv 4) (pv 6))) (pa_cons (pv 7) pa_nil)))))))))), ?_⟩
    obtain ⟨k, x, y, hf, rfl, rfl, q⟩ := h
    refine ⟨_, rfl, rF_q T hf ⟨_, rfl, rF_p T hf ⟨rfl, _, rfl, ?_⟩⟩⟩
    rw [qp_int]
    refine ite2 (fun e => ?_) fun e => ?_
    · have e := of_decide_eq_true e
      refine ⟨_, rfl, _, rfl, ⟨_, _, rfl, rfl, .inl (el_64 x), _, rfl, rF_p T hf ⟨_, _, rfl, rfl, p_pos k, ?_⟩⟩⟩
      exact qI (ml_one k x y e) q
    · have e := of_decide_eq_false (by simpa using e)
      refine ⟨_, rfl, _, rfl, rF_p T hf ⟨_, _, rfl, rfl, p_pos k, _, rfl, _, rfl, rF_p T hf ⟨_, _, rfl, rfl, p_div k, _, _, rfl, ?_⟩⟩⟩
      refine ⟨_, rfl, _, rfl, rF_p T hf ⟨_, _, rfl, rfl, p_pos k, _, rfl, _, rfl, rF_p T hf ⟨_, _, rfl, rfl, p_div k, _, _, rfl, ?_⟩⟩⟩
      refine ⟨_, rfl, _, rfl, ⟨_, _, rfl, rfl, .inl (mod_64 k _), _, rfl, _, rfl, ⟨_, _, rfl, rfl, .inl (div_64 x), _, _, rfl, rfl, ?_⟩⟩⟩
      refine ⟨_, rfl, rF_p T hf ⟨rfl, _, rfl, ?_⟩⟩
      rw [p_two]
      refine iteF ?_
      refine ⟨_, rfl, mF hf (fd_no k) ?_⟩
      refine ⟨_, rfl, _, rfl, ⟨_, _, rfl, rfl, .inl (mod_64 k _), _, rfl, _, rfl, ⟨_, _, rfl, rfl, .inl (div_64 x), _, _, rfl, rfl, _, rfl, ?_⟩⟩⟩
      refine ⟨_, _, _, rfl, k, _, _, hf, rfl, rfl, ?_⟩
      exact qI (ml_two k x y e) q


end
end Wit

namespace Wit
open PySem PySem.Spec PyProof.Rows L2
section
variable {P : Program} {w : World} {K : PySem.W.Frag} {mg : Str → Option Value} {base : Heap}

theorem walk_rg {n : Nat} : Walk (Itr 0 n) n (fun _ => True) (YFn fun i => .int (i : Int)) :=
  walk_range.mono (fun _ h => h) fun i H x H' _ _ y => ⟨y.1, y.2.trans (congrArg V.int (Int.zero_add _))⟩
theorem walk_zipT {a b : Addr} {xs ys : List V} {n : Nat} (hn : n = min xs.length ys.length) : Walk (RZ.ItzT K a b) n (fun H => SqT K H a xs ∧ SqT K H b ys) (YPair (fun i => xs[i]?) (fun i => ys[i]?)) := by
  subst hn
  refine ⟨fun i _ hi q => ?_, fun _ q => ⟨xs, ys, q.1, q.2, by omega⟩, fun i H v H' _ q y => ?_⟩
  · have l1 : i < xs.length := by omega
    have l2 : i < ys.length := by omega
    exact ⟨xs, ys, xs[i], ys[i], q.1, q.2, List.getElem?_eq_getElem l1, List.getElem?_eq_getElem l2⟩
  · obtain ⟨U, x, z, e1, e2, e3, f1, f2⟩ := y
    exact ⟨U, x, z, e1, e2, e3, f1 xs q.1, f2 ys q.2⟩
theorem tq {H : Hp} {a : Addr} {xs : List V} (h : H a = some (.tup xs)) : SqT K H a xs := .inl (.inl h)
theorem lq' {H : Hp} {a : Addr} {xs : List V} (h : H a = some (.lst xs)) : SqL K H a xs := .inl (.inl h)
section
variable {J : It} {n : Nat} {G : Hp → Prop} {Y : Nat → Hp → V → Hp → Prop}
/-- the tuple of a comprehension -/
theorem lc_tup (w : Walk J n G Y) {g : TG} {te : TE} {vs : List Nat} {σ σ0 : L2.St} {H1 : Hp} {Q : VK} (R : Nat → V → Hp → Prop) (hn : n < sizeLine) (hG : ∀ H, Same H1 H → G H) (hR : ∀ i y H H', KT H H' → R i y H → R i y H')
    (hY : ∀ i H x H', Y i H x H' → Same H H')
    (hs : ∀ (i : Nat) (x : V) (H H' : Hp) (yes : V → Hp → Prop), i < n → Same H1 H → Same H1 H' → Y i H x H' → (∀ y H4, Same H' H4 → R i y H4 → yes y H4) → g x (wipe σ vs) H' fun σ2 H2 => wipe σ2 vs = wipe σ vs ∧ te σ2 H2 fun y H4 => yes y H4)
    (gm : ∀ x σ H Z Z', (∀ σ' H', Z σ' H' → Z' σ' H') → g x σ H Z → g x σ H Z')
    (hd : ∀ p H' ys, Same H1 H' → H' p = some (.tup ys) → Paired (fun i y => R i y H') (List.range n) ys → Q (.ref p) H') :
    ∀ D, H1 D = none → ∃ W : Nat → Nat → Hp → Prop, (∃ m, W 0 m (upd H1 D (.lst []))) ∧ ∀ i m H, W i m H →
      (J.stop i H ∧ tNil σ0 H fun xs H2 => rTupO K (.ref D :: xs) H2 Q) ∨ (J.go i H ∧ ∃ Nx : Hp → Prop, (∀ H', Nx H' → ∃ m', m' < m ∧ W (i + 1) m' H') ∧ ∀ x H', J.yld i H x H' → g x (wipe σ vs) H' fun σ2 H2 => wipe σ2 vs = wipe σ vs ∧ tYes σ2 H2 fun b H3 =>
        if b = true then te σ2 H3 fun y H4 => ∃ acc, H4 D = some (.lst acc) ∧ acc.length < sizeLine ∧ Nx (upd H4 D (.lst (acc ++ [y]))) else Nx H3) :=
  lc_map w (Q := fun v H => rTupO K [v] H Q) R hn hG hR hY hs gm fun D H' ys s1 hD e pr => ⟨D, ys, rfl, .inl ⟨lq' e, fun l hl => hd l _ ys (s1.upd (s1.free hl)) upd_same (Paired.imp' (fun a b z => hR a b _ _ (kt_new hl) z) pr)⟩⟩
/-- the list of a comprehension -/
theorem lc_lst (w : Walk J n G Y) {g : TG} {te : TE} {vs : List Nat} {σ : L2.St} {H1 : Hp} {Q : VK} (R : Nat → V → Hp → Prop) (hn : n < sizeLine) (hG : ∀ H, Same H1 H → G H) (hR : ∀ i y H H', KT H H' → R i y H → R i y H')
    (hY : ∀ i H x H', Y i H x H' → Same H H')
    (hs : ∀ (i : Nat) (x : V) (H H' : Hp) (yes : V → Hp → Prop), i < n → Same H1 H → Same H1 H' → Y i H x H' → (∀ y H4, Same H' H4 → R i y H4 → yes y H4) → g x (wipe σ vs) H' fun σ2 H2 => wipe σ2 vs = wipe σ vs ∧ te σ2 H2 fun y H4 => yes y H4)
    (gm : ∀ x σ H Z Z', (∀ σ' H', Z σ' H' → Z' σ' H') → g x σ H Z → g x σ H Z')
    (hd : ∀ p H' ys, Same H1 H' → H' p = some (.lst ys) → Paired (fun i y => R i y H') (List.range n) ys → Q (.ref p) H') :
    ∀ D, H1 D = none → ∃ W : Nat → Nat → Hp → Prop, (∃ m, W 0 m (upd H1 D (.lst []))) ∧ ∀ i m H, W i m H →
      (J.stop i H ∧ Q (.ref D) H) ∨ (J.go i H ∧ ∃ Nx : Hp → Prop, (∀ H', Nx H' → ∃ m', m' < m ∧ W (i + 1) m' H') ∧ ∀ x H', J.yld i H x H' → g x (wipe σ vs) H' fun σ2 H2 => wipe σ2 vs = wipe σ vs ∧ tYes σ2 H2 fun b H3 =>
        if b = true then te σ2 H3 fun y H4 => ∃ acc, H4 D = some (.lst acc) ∧ acc.length < sizeLine ∧ Nx (upd H4 D (.lst (acc ++ [y]))) else Nx H3) :=
  lc_map w R hn hG hR hY hs gm fun D H' ys s1 _ e pr => hd D H' ys s1 e pr
end
theorem gPair_mono {i j : Nat} (x : V) (σ : L2.St) (H : Hp) (Z Z' : L2.St → Hp → Prop) (h : ∀ σ' H', Z σ' H' → Z' σ' H') (q : gTup K 2 (gCons (gName i) (gCons (gName j) gNil)) x σ H Z) : gTup K 2 (gCons (gName i) (gCons (gName j) gNil)) x σ H Z' := by
  obtain ⟨a, xs, e1, e2, e3, u, r, e4, u2, r2, e5, e6, q⟩ := q
  exact ⟨a, xs, e1, e2, e3, u, r, e4, u2, r2, e5, e6, h _ _ q⟩
theorem upd_none {H : Hp} {p : Addr} {o : HO} (h : H p = none) : Same H (upd H p o) := same_upd h
theorem q_rg (k : Kd) : -(2 ^ 62) ≤ (k.q : Int) ∧ (k.q : Int) < 2 ^ 62 := by cases k <;> decide
theorem q_small (k : Kd) : k.q < sizeLine := small_n (Nat.le_trans k.q_le (by decide))
theorem q_nat (k : Kd) : (k.q : Int).toNat = k.q := Int.toNat_natCast _
theorem el_of {k : Kd} {i : Nat} (h : i < k.q) : ((El.of k i).val : Int) = (i : Int) := congrArg _ (Nat.mod_eq_of_lt h)
theorem iv_of {k : Kd} {i : Nat} (h : i < k.q) : V.int (i : Int) = iv (El.of k i) := by show _ = V.int _; rw [el_of h]
theorem val_one (k : Kd) : (1 : El k).val = 1 := by cases k <;> decide +kernel
theorem val_zero (k : Kd) : (0 : El k).val = 0 := by cases k <;> decide +kernel
theorem iv_one (k : Kd) : V.int 1 = iv (1 : El k) := by show _ = V.int _; rw [val_one]; rfl
theorem iv_zero (k : Kd) : V.int 0 = iv (0 : El k) := by show _ = V.int _; rw [val_zero]; rfl
theorem iv_eq0 {k : Kd} (x : El k) : decide (iv x = V.int 0) = decide (x = 0) := by
  rw [iv_zero k]
  exact decide_eq_decide.mpr iv_inj
def pwr {k : Kd} : Nat → El k → El k → Nat → El k
  | 0, f, _, _ => f
  | m + 1, f, a, n => if n = 0 then f else pwr m (if n % 2 = 1 then f * a else f) (a * a) (n / 2)
theorem pwr_inv : ∀ (k : Kd) (x : El k), pwr 3 1 x (k.q - 2) = x⁻¹ := by
  intro k; cases k <;> decide +kernel
def lefts (i : Nat) (σ : L2.St) : Nat := match σ[i]? with
  | some (some (.int z)) => z.toNat
  | _ => 0

def p_Field_power (K : PySem.W.Frag) (a b c : V) (H : Hp) (Q : VK) : Prop := ∃ (k : Kd) (x : El k) (n : Nat), Fd K H a k ∧ b = iv x ∧ c = .int n ∧ n < 8 ∧ Q (iv (pwr 3 1 x n)) H
theorem m_Field_power (T : Tx K mg) : CalM P w K mg base 3 "Field" "power" ["self", "a", "k"] (sp3 (p_Field_power K)) :=
  calM_of (d := d_Field_power) (lv := 2) (i := 75) (j := 77) (l := 69) T rfl rfl rfl rfl rfl rfl (S := ⟨rfl, rfl, rfl, by decide +kernel, rfl, by decide +kernel, by decide +kernel⟩) (N := ["self", "a", "k", "found", "left"]) (fun _ _ _ _ _ _ us hl => match us, hl with | [_, _, _], _ => rfl) len3 <| fun f cdv A outer s H vs Q E hr h => by
    obtain ⟨v0, v1, v2, rfl, h⟩ := h
    have nd : (["self", "a", "k", "found", "left"] : List Str).Nodup := by decide +kernel
    refine ⟨_, (pss_cons (ps_set (i := 3) nd rfl (Or.inl rfl) pe_int) (pss_cons (ps_set (i := 4) nd rfl (Or.inl rfl) (pv 2)) (pss_cons (ps_while PassesOwn.never (pt_cmpR op_gt (pv 4) pe_int (nomark _)) (pss_cons (ps_if (pt_cmpR op_eq (pe_op op_mod (pv 4) pe_int) pe_int (nomark _)) (pss_one (ps_set (i := 3) nd rfl (Or.inl rfl) (pe_calM (pv 0) (m_Field_multiply T) (hr.mono (by decide)) (pa_cons (pv 3) (pa_cons (pv 1) pa_nil))))) pss_nil) (pss_cons (ps_set (i := 1) nd rfl (Or.inl rfl) (pe_calM (pv 0) (m_Field_multiply T) (hr.mono (by decide)) (pa_cons (pv 1) (pa_cons (pv 1) pa_nil)))) (pss_one (ps_set (i := 4) nd rfl (Or.inl rfl) (pe_op op_fdiv (pv 4) pe_int)))))) (pss_one (ps_ret (pv 3)))))), ?_⟩
    obtain ⟨k, x, n, hf, rfl, rfl, hn, q⟩ := h
    refine ⟨_, rfl, ?_⟩
    refine while_by (fun σ H' => H' = H ∧ ∃ (m : Nat) (f a : El k) (l : Nat), σ = [some v0, some (iv a), some (.int n), some (iv f), some (.int l)] ∧ l < 2 ^ m ∧ pwr m f a l = pwr 3 1 x n) (fun σ _ => lefts 4 σ) ⟨rfl, 3, 1, x, n, ?_, hn, rfl⟩ (fun σ H' hp => ?_) fun σ H' Z Z' z hh => ?_
    · show [some v0, some (iv x), some (.int n), some (V.int 1), some (.int n)] = _
      rw [iv_one k]
    · obtain ⟨rfl, m, f, a, l, rfl, hl, e⟩ := hp
      refine ⟨_, rfl, _, _, rfl, rfl, _, rfl, ?_⟩
      refine ite2 (fun c => ?_) fun c => ?_
      · have c : (0 : Int) < (l : Int) := of_decide_eq_true c
        cases m with
        | zero => simp at hl; omega
        | succ m =>
        have e2 : pwr (m + 1) f a l = pwr m (if l % 2 = 1 then f * a else f) (a * a) (l / 2) := if_neg (by omega)
        have hm : l / 2 < 2 ^ m := by
          have : 2 ^ (m + 1) = 2 * 2 ^ m := by rw [Nat.pow_succ, Nat.mul_comm]
          omega
        rw [e2] at e
        refine ⟨_, rfl, ⟨_, _, rfl, rfl, (by decide : (0 : Int) < 2), rfl, _, rfl, ?_⟩⟩
        refine ite2 (fun d => ?_) fun d => ?_
        · have d : (l : Int) % 2 = 1 := V.int.inj (of_decide_eq_true d)
          rw [if_pos (by omega)] at e
          refine ⟨_, rfl, mF hf (fd_no k) ⟨_, rfl, _, rfl, ⟨_, _, _, rfl, k, _, _, hf, rfl, rfl, ?_⟩⟩⟩
          refine ⟨_, rfl, mF hf (fd_no k) ⟨_, rfl, _, rfl, ⟨_, _, _, rfl, k, _, _, hf, rfl, rfl, ?_⟩⟩⟩
          refine ⟨_, rfl, _, _, rfl, rfl, ⟨by decide, by decide⟩, ⟨rfl, m, f * a, a * a, l / 2, rfl, hm, e⟩, ?_⟩
          show ((l : Int) / 2).toNat < (l : Int).toNat
          omega
        · have d : ¬ (l : Int) % 2 = 1 := fun z => d (decide_eq_true (congrArg V.int z))
          rw [if_neg (by omega)] at e
          refine ⟨_, rfl, mF hf (fd_no k) ⟨_, rfl, _, rfl, ⟨_, _, _, rfl, k, _, _, hf, rfl, rfl, ?_⟩⟩⟩
          refine ⟨_, rfl, _, _, rfl, rfl, ⟨by decide, by decide⟩, ⟨rfl, m, f, a * a, l / 2, rfl, hm, e⟩, ?_⟩
          show ((l : Int) / 2).toNat < (l : Int).toNat
          omega
      · have c : ¬ (0 : Int) < (l : Int) := fun z => c (decide_eq_true z)
        have e3 : pwr m f a l = f := by
          cases m with
          | zero => rfl
          | succ m => exact if_pos (by omega)
        rw [e3] at e
        refine ⟨_, rfl, ?_⟩
        rw [e]
        exact q
    · obtain ⟨v, e, i, j, e1, e2, k, e3, q⟩ := hh
      exact ⟨v, e, i, j, e1, e2, k, e3, z _ _ q⟩


def p_Field_inverse (K : PySem.W.Frag) (a b : V) (H : Hp) (Q : VK) : Prop := ∃ (k : Kd) (x : El k), Fd K H a k ∧ b = iv x ∧ x ≠ 0 ∧ Q (iv x⁻¹) H
theorem m_Field_inverse (T : Tx K mg) : CalM P w K mg base 4 "Field" "inverse" ["self", "a"] (sp2 (p_Field_inverse K)) :=
  calM_of (d := d_Field_inverse) (lv := 3) (i := 76) (j := 78) (l := 69) T rfl rfl rfl rfl rfl rfl (S := ⟨rfl, rfl, rfl, by decide +kernel, rfl, by decide +kernel, by decide +kernel⟩) (N := ["self", "a"]) (fun _ _ _ _ _ _ us hl => match us, hl with | [_, _], _ => rfl) len2 <| fun f cdv A outer s H vs Q E hr h => by
    obtain ⟨v0, v1, rfl, h⟩ := h
    have nd : (["self", "a"] : List Str).Nodup := by decide +kernel
    refine ⟨_, (pss_cons (ps_if (pt_cmpR op_eq (pv 1) pe_int (nomark _)) (pss_one ps_never) pss_nil) (pss_one (ps_ret (pe_calM (pv 0) (m_Field_power T) (hr.mono (by decide)) (pa_cons (pv 1) (pa_cons (pe_op op_sub (pe_fldK K (pv 0)) pe_int) pa_nil)))))), ?_⟩
    obtain ⟨k, x, hf, rfl, hx, q⟩ := h
    refine ⟨_, rfl, rfl, _, rfl, ?_⟩
    rw [iv_eq0, decide_eq_false hx]
    refine iteF ?_
    refine ⟨_, rfl, mF hf (fd_no k) ⟨_, rfl, _, rfl, rF_q T hf ⟨_, _, rfl, rfl, ⟨_, _, _, rfl, k, x, k.q - 2, hf, rfl, ?_, ?_, ?_⟩⟩⟩⟩
    · cases k <;> rfl
    · cases k <;> decide
    · rw [pwr_inv]
      exact q


def p_Field_squares (K : PySem.W.Frag) (a : V) (H : Hp) (Q : VK) : Prop := ∃ (k : Kd), Fd K H a k ∧ ∀ p H', Same H H' → H' p = some (.lst ((List.range k.q).map fun i => iv (El.of k i * El.of k i))) → Q (.ref p) H'
theorem m_Field_squares (T : Tx K mg) : CalM P w K mg base 3 "Field" "squares" ["self"] (sp1 (p_Field_squares K)) :=
  calM_of (d := d_Field_squares) (lv := 2) (i := 77) (j := 79) (l := 69) T rfl rfl rfl rfl rfl rfl (S := ⟨rfl, rfl, rfl, by decide +kernel, rfl, by decide +kernel, by decide +kernel⟩) (N := ["self", "a"]) (fun _ _ _ _ _ _ us hl => match us, hl with | [_], _ => rfl) len1 <| fun f cdv A outer s H vs Q E hr h => by
    obtain ⟨v0, rfl, h⟩ := h
    have nd : (["self", "a"] : List Str).Nodup := by decide +kernel
    refine ⟨_, (pss_one (ps_ret (pe_lc (own := [("a", 1)]) (g := (gName 1)) (tt := tYes) rfl nd (pi_range1 (by rfl) T.range (pa_cons (pe_fldK K (pv 0)) pa_nil)) (blkOk_by (by kernel_rfl)) (fun _ _ _ _ _ => (pg_name (i := 1) nd rfl (Or.inl rfl))) (fun _ _ _ _ _ => pts_nil) (fun _ _ _ _ _ => (pe_calM (pv 0) (m_Field_multiply T) (hr.mono (by decide)) (pa_cons (pv 1) (pa_cons (pv 1) pa_nil))))))), ?_⟩
    obtain ⟨k, hf, q⟩ := h
    refine ⟨_, rfl, rF_q T hf ⟨_, rfl, (q_rg k).1, (q_rg k).2, ?_⟩⟩
    rw [q_nat]
    refine lc_lst walk_rg (fun i y _ => y = iv (El.of k i * El.of k i)) (q_small k) (fun _ _ => trivial) (fun _ _ _ _ _ z => z) yFn_same (fun i x H1 H2 yes hi s1 s2 hy hyes => ?_) gName_mono fun p H' ys s1 hp pr => ?_
    · obtain ⟨rfl, rfl⟩ := hy
      refine ⟨rfl, ⟨_, rfl, mF (hf.mono s2) (fd_no k) ⟨_, rfl, _, rfl, ⟨_, _, _, rfl, k, _, _, hf.mono s2, iv_of hi, iv_of hi, hyes _ _ (Same.refl _) rfl⟩⟩⟩⟩
    · exact q p H' s1 (by rw [hp, Paired.eq_map pr])


def p_Field_is_square (K : PySem.W.Frag) (a b : V) (H : Hp) (Q : VK) : Prop := ∃ (k : Kd) (x : El k), Fd K H a k ∧ b = iv x ∧ ∀ H', Same H H' → Q (.bl x.sq) H'
theorem m_Field_is_square (T : Tx K mg) : CalM P w K mg base 4 "Field" "is_square" ["self", "a"] (sp2 (p_Field_is_square K)) :=
  calM_of (d := d_Field_is_square) (lv := 3) (i := 78) (j := 80) (l := 69) T rfl rfl rfl rfl rfl rfl (S := ⟨rfl, rfl, rfl, by decide +kernel, rfl, by decide +kernel, by decide +kernel⟩) (N := ["self", "a"]) (fun _ _ _ _ _ _ us hl => match us, hl with | [_, _], _ => rfl) len2 <| fun f cdv A outer s H vs Q E hr h => by
    obtain ⟨v0, v1, rfl, h⟩ := h
    have nd : (["self", "a"] : List Str).Nodup := by decide +kernel
    refine ⟨_, (pss_one (ps_ret (pe_cmpR (op_in_seqK K) (pv 1) (pe_calM0 (pv 0) (m_Field_squares T) (hr.mono (by decide))) (by rfl)))), ?_⟩
    obtain ⟨k, x, hf, rfl, q⟩ := h
    refine ⟨_, rfl, _, rfl, mF hf (fd_no k) ⟨_, rfl, k, hf, fun p H' s1 hp => ⟨p, _, rfl, .inl (lq' hp), rfl, ?_, ?_⟩⟩⟩
    · rw [List.all_map]
      exact List.all_eq_true.mpr fun _ _ => rfl
    · have e : inV (iv x) ((List.range k.q).map fun i => iv (El.of k i * El.of k i)) = x.sq := by
        unfold inV El.sq
        rw [List.any_map]
        congr 1
        funext i
        show decide ((((El.of k i * El.of k i).val : Nat) : Int) = ((x.val : Nat) : Int)) = decide _
        exact decide_eq_decide.mpr ⟨fun z => El.ext (by omega), fun z => by rw [z]⟩
      show Q (.bl (inV (iv x) _)) H'
      rw [e]
      exact q H' s1


def p_Field_is_number (K : PySem.W.Frag) (a b : V) (H : Hp) (Q : VK) : Prop := ∃ (k : Kd) (x : El k), Fd K H a k ∧ b = iv x ∧ Q (.bl true) H
theorem m_Field_is_number (T : Tx K mg) : CalM P w K mg base 2 "Field" "is_number" ["self", "value"] (sp2 (p_Field_is_number K)) :=
  calM_of (d := d_Field_is_number) (lv := 1) (i := 69) (j := 71) (l := 69) T rfl rfl rfl rfl rfl rfl (S := ⟨rfl, rfl, rfl, by decide +kernel, rfl, by decide +kernel, by decide +kernel⟩) (N := ["self", "value"]) (fun _ _ _ _ _ _ us hl => match us, hl with | [_, _], _ => rfl) len2 <| fun f cdv A outer s H vs Q E hr h => by
    obtain ⟨v0, v1, rfl, h⟩ := h
    have nd : (["self", "value"] : List Str).Nodup := by decide +kernel
    refine ⟨_, (pss_one (ps_ret (pe_and (pe_cal (c_is_integer T) (hr.mono (by decide)) (by rfl) (pa_cons (pv 1) pa_nil)) (pe_one (pe_chain op_le op_lt pe_int (pv 1) (pe_fldK K (pv 0))))))), ?_⟩
    obtain ⟨k, x, hf, rfl, q⟩ := h
    refine ⟨_, rfl, _, rfl, _, rfl, true, rfl, iteT ?_⟩
    refine ⟨_, rfl, _, _, rfl, rfl, true, ?_, iteT ?_⟩
    · show V.bl (decide ((0 : Int) ≤ (x.val : Int))) = _
      rw [decide_eq_true (by omega)]
    · refine ⟨_, rfl, rF_q T hf ⟨_, _, rfl, rfl, ?_⟩⟩
      have e : decide ((x.val : Int) < (k.q : Int)) = true := decide_eq_true (by have := x.lt; omega)
      show Q (.bl (decide ((x.val : Int) < (k.q : Int)))) H
      rw [e]
      exact q


def p_Field_numbers (K : PySem.W.Frag) (a : V) (H : Hp) (Q : VK) : Prop := ∃ (k : Kd), Fd K H a k ∧ ∀ p H', Same H H' → H' p = some (.tup ((List.range k.q).map fun i => iv (El.of k i))) → Q (.ref p) H'
theorem m_Field_numbers (T : Tx K mg) : CalM P w K mg base 1 "Field" "numbers" ["self"] (sp1 (p_Field_numbers K)) :=
  calM_of (d := d_Field_numbers) (lv := 0) (i := 70) (j := 72) (l := 69) T rfl rfl rfl rfl rfl rfl (S := ⟨rfl, rfl, rfl, by decide +kernel, rfl, by decide +kernel, by decide +kernel⟩) (N := ["self"]) (fun _ _ _ _ _ _ us hl => match us, hl with | [_], _ => rfl) len1 <| fun f cdv A outer s H vs Q E hr h => by
    obtain ⟨v0, rfl, h⟩ := h
    have nd : (["self"] : List Str).Nodup := by decide +kernel
    refine ⟨_, (pss_one (ps_ret (pe_tupRg rfl (by rfl) T.tuple (prg_1 (by rfl) T.range (pe_fldK K (pv 0)))))), ?_⟩
    obtain ⟨k, hf, q⟩ := h
    refine ⟨_, rfl, rF_q T hf ⟨_, rfl, ?_, fun p hp => ?_⟩⟩
    · exact RgOk.of_le (by decide) (by have := k.q_le; omega) (by decide) (by omega)
    · refine q p _ (same_upd hp) ?_
      rw [upd_same]
      congr 2
      unfold rgV
      rw [Int.sub_zero, q_nat]
      exact List.map_congr_left fun i hi => by rw [Int.zero_add]; exact iv_of (List.mem_range.mp hi)


end
end Wit

namespace Wit
open PySem PySem.Spec PyProof.Rows L2
section
variable {P : Program} {w : World} {K : PySem.W.Frag} {mg : Str → Option Value} {base : Heap}

theorem vl_all {k : Kd} {n : Nat} (x : Vc (El k) n) : (vl x).length = n := vl_len x
/-- two rows walked together -/
theorem walk_two {k : Kd} {n : Nat} {a b : Addr} {x y : Vc (El k) n} : Walk (RZ.ItzT K a b) n (fun H => SqT K H a (vl x) ∧ SqT K H b (vl y)) (YPair (fun i => (vl x)[i]?) (fun i => (vl y)[i]?)) :=
  walk_zipT (by rw [vl_len, vl_len, Nat.min_self])
theorem walk_one {k : Kd} {n : Nat} {a : Addr} {x : Vc (El k) n} : Walk (Itt K a) n (fun H => SqT K H a (vl x)) (YAt (vl x)) := by
  have w := walk_tup (K := K) (a := a) (xs := vl x)
  rw [vl_len] at w
  exact w
theorem row_of {k : Kd} {n : Nat} {H : Hp} {p : Addr} {ys : List V} {x : Vc (El k) n} {f : Nat → El k} (h : H p = some (.tup ys)) (pr : Paired (fun i y => y = iv (f i)) (List.range n) ys) (hf : ∀ i, i < n → f i = x.f i) : Row H (.ref p) x :=
  ⟨p, rfl, by rw [h, vl_eq pr hf]⟩
theorem y_rows {k : Kd} {n : Nat} {x y : Vc (El k) n} {i : Nat} {H H' : Hp} {v : V} (hi : i < n) (h : YPair (fun i => (vl x)[i]?) (fun i => (vl y)[i]?) i H v H') : ∃ U, v = .ref U ∧ H U = none ∧ H' = upd H U (.tup [iv (x.f i), iv (y.f i)]) := by
  obtain ⟨U, u, w', rfl, hU, rfl, e1, e2⟩ := h
  have e1 := (vl_at x hi).symm.trans e1
  have e2 := (vl_at y hi).symm.trans e2
  cases e1
  cases e2
  exact ⟨U, rfl, hU, rfl⟩

def p_unit_row (a b : V) (H : Hp) (Q : VK) : Prop := ∃ (k : Kd) (n i : Nat), a = .int n ∧ b = .int i ∧ n ≤ 1000 ∧ ∀ r H', Same H H' → Row H' r (Vc.un (El k) n i) → Q r H'
theorem c_unit_row (T : Tx K mg) : Cal P w K mg base 1 "unit_row" ["n", "i"] (sp2 p_unit_row) :=
  cal_of (d := d_unit_row) (lv := 0) (i := 1) (j := 1) T rfl rfl rfl rfl rfl (keep_of (d := d_unit_row) (i := 1) T rfl) (S := ⟨rfl, rfl, rfl, by decide +kernel, rfl, by decide +kernel, by decide +kernel⟩) (N := ["n", "i", "k"]) (fun _ _ _ _ _ _ us hl => match us, hl with | [_, _], _ => rfl) len2 <| fun f cdv A outer s H vs Q E hr h => by
    obtain ⟨v0, v1, rfl, h⟩ := h
    have nd : (["n", "i", "k"] : List Str).Nodup := by decide +kernel
    refine ⟨_, (pss_one (ps_ret (pe_callTy (call_tuple_ofK K) (by rfl) T.tuple boot_tuple (pa_cons (pe_lc (own := [("k", 2)]) (g := (gName 2)) (tt := tYes) rfl nd (pi_range1 (by rfl) T.range (pa_cons (pv 0) pa_nil)) (blkOk_by (by kernel_rfl)) (fun _ _ _ _ _ => (pg_name (i := 2) nd rfl (Or.inl rfl))) (fun _ _ _ _ _ => pts_nil) (fun _ _ _ _ _ => (pe_callTy call_int1 (by rfl) T.int boot_int (pa_cons (pe_cmpR op_eq (pv 2) (pv 1) (nomark _)) pa_nil)))) pa_nil)))), ?_⟩
    obtain ⟨k, n, i, rfl, rfl, hn, q⟩ := h
    refine ⟨_, rfl, _, rfl, by omega, by omega, ?_⟩
    rw [Int.toNat_natCast]
    refine lc_tup walk_rg (fun j y _ => y = iv ((Vc.un (El k) n i).f j)) (small_n hn) (fun _ _ => trivial) (fun _ _ _ _ _ z => z) yFn_same (fun j x H1 H2 yes hj s1 s2 hy hyes => ?_) gName_mono fun p H' ys s1 hp pr => ?_
    · obtain ⟨rfl, rfl⟩ := hy
      refine ⟨rfl, _, rfl, _, rfl, rfl, .inr ⟨_, rfl, hyes _ _ (Same.refl _) ?_⟩⟩
      have e : decide (V.int (j : Int) = V.int (i : Int)) = decide (j = i) := decide_eq_decide.mpr ⟨fun z => by injection z with z; omega, fun z => by rw [z]⟩
      rw [e]
      unfold Vc.un
      rw [Vc.of_f hj]
      by_cases c : j = i
      · rw [if_pos c, if_pos (decide_eq_true c)]; exact iv_one k
      · rw [if_neg c, if_neg (by simpa using c)]; exact iv_zero k
    · exact q _ H' s1 (row_of hp pr fun _ _ => rfl)


def p_add (K : PySem.W.Frag) (a b c : V) (H : Hp) (Q : VK) : Prop := ∃ (k : Kd) (n : Nat) (x y : Vc (El k) n), Fd K H a k ∧ Row H b x ∧ Row H c y ∧ n ≤ 1000 ∧ ∀ r H', Same H H' → Row H' r (x + y) → Q r H'
theorem c_add (T : Tx K mg) : Cal P w K mg base 3 "add" ["field", "v", "w"] (sp3 (p_add K)) :=
  cal_of (d := d_add) (lv := 2) (i := 2) (j := 2) T rfl rfl rfl rfl rfl (keep_of (d := d_add) (i := 2) T rfl) (S := ⟨rfl, rfl, rfl, by decide +kernel, rfl, by decide +kernel, by decide +kernel⟩) (N := ["field", "v", "w", "a", "b"]) (fun _ _ _ _ _ _ us hl => match us, hl with | [_, _, _], _ => rfl) len3 <| fun f cdv A outer s H vs Q E hr h => by
    obtain ⟨v0, v1, v2, rfl, h⟩ := h
    have nd : (["field", "v", "w", "a", "b"] : List Str).Nodup := by decide +kernel
    refine ⟨_, (pss_one (ps_ret (pe_callTy (call_tuple_ofK K) (by rfl) T.tuple boot_tuple (pa_cons (pe_lc (own := [("a", 3), ("b", 4)]) (g := (gTup K 2 (gCons (gName 3) (gCons (gName 4) gNil)))) (tt := tYes) rfl nd (pi_zipAK K (by rfl) T.zip (pa_cons (pv 1) (pa_cons (pv 2) pa_nil))) (blkOk_by (by kernel_rfl)) (fun _ _ _ _ _ => (pg_tupK K rfl (pgs_cons (pg_name (i := 3) nd rfl (Or.inl rfl)) (pgs_cons (pg_name (i := 4) nd rfl (Or.inl rfl)) pgs_nil)))) (fun _ _ _ _ _ => pts_nil) (fun _ _ _ _ _ => (pe_calM (pv 0) (m_Field_add T) (hr.mono (by decide)) (pa_cons (pv 3) (pa_cons (pv 4) pa_nil))))) pa_nil)))), ?_⟩
    obtain ⟨k, n, x, y, hf, ⟨ax, rfl, hx⟩, ⟨ay, rfl, hy⟩, hn, q⟩ := h
    refine ⟨_, rfl, _, rfl, _, _, _, _, rfl, .inr ⟨tq hx, tq hy, ?_⟩⟩
    refine lc_tup walk_two (fun j z _ => z = iv (x.f j + y.f j)) (small_n hn) (fun H' s => ⟨tq (s _ _ hx), tq (s _ _ hy)⟩) (fun _ _ _ _ _ z => z) yPair_same (fun j z H1 H2 yes hj s1 s2 hz hyes => ?_) gPair_mono fun p H' ys s1 hp pr => ?_
    · obtain ⟨U, rfl, hU, rfl⟩ := y_rows hj hz
      refine ⟨_, _, rfl, tq upd_same, rfl, _, _, rfl, _, _, rfl, rfl, rfl, ?_⟩
      exact ⟨_, rfl, mF (hf.mono s2) (fd_no k) ⟨_, rfl, _, rfl, ⟨_, _, _, rfl, k, _, _, hf.mono s2, rfl, rfl, hyes _ _ (Same.refl _) rfl⟩⟩⟩
    · exact q _ H' s1 (row_of hp pr fun _ _ => rfl)


def p_scaled (K : PySem.W.Frag) (a b c : V) (H : Hp) (Q : VK) : Prop := ∃ (k : Kd) (n : Nat) (x : Vc (El k) n) (w : El k), Fd K H a k ∧ Row H b x ∧ c = iv w ∧ n ≤ 1000 ∧ ∀ r H', Same H H' → Row H' r (x.sc w) → Q r H'
theorem c_scaled (T : Tx K mg) : Cal P w K mg base 3 "scaled" ["field", "v", "c"] (sp3 (p_scaled K)) :=
  cal_of (d := d_scaled) (lv := 2) (i := 3) (j := 3) T rfl rfl rfl rfl rfl (keep_of (d := d_scaled) (i := 3) T rfl) (S := ⟨rfl, rfl, rfl, by decide +kernel, rfl, by decide +kernel, by decide +kernel⟩) (N := ["field", "v", "c", "a"]) (fun _ _ _ _ _ _ us hl => match us, hl with | [_, _, _], _ => rfl) len3 <| fun f cdv A outer s H vs Q E hr h => by
    obtain ⟨v0, v1, v2, rfl, h⟩ := h
    have nd : (["field", "v", "c", "a"] : List Str).Nodup := by decide +kernel
    refine ⟨_, (pss_one (ps_ret (pe_callTy (call_tuple_ofK K) (by rfl) T.tuple boot_tuple (pa_cons (pe_lc (own := [("a", 3)]) (g := (gName 3)) (tt := tYes) rfl nd (pi_tupK K (pv 1)) (blkOk_by (by kernel_rfl)) (fun _ _ _ _ _ => (pg_name (i := 3) nd rfl (Or.inl rfl))) (fun _ _ _ _ _ => pts_nil) (fun _ _ _ _ _ => (pe_calM (pv 0) (m_Field_multiply T) (hr.mono (by decide)) (pa_cons (pv 3) (pa_cons (pv 2) pa_nil))))) pa_nil)))), ?_⟩
    obtain ⟨k, n, x, w, hf, ⟨ax, rfl, hx⟩, rfl, hn, q⟩ := h
    refine ⟨_, rfl, _, rfl, ⟨_, tq hx⟩, ?_⟩
    refine lc_tup walk_one (fun j z _ => z = iv (x.f j * w)) (small_n hn) (fun H' s => tq (s _ _ hx)) (fun _ _ _ _ _ z => z) yAt_same (fun j z H1 H2 yes hj s1 s2 hz hyes => ?_) gName_mono fun p H' ys s1 hp pr => ?_
    · obtain ⟨rfl, e1⟩ := hz
      rw [vl_at x hj] at e1
      cases e1
      refine ⟨rfl, ?_⟩
      exact ⟨_, rfl, mF (hf.mono s2) (fd_no k) ⟨_, rfl, _, rfl, ⟨_, _, _, rfl, k, _, _, hf.mono s2, rfl, rfl, hyes _ _ (Same.refl _) rfl⟩⟩⟩
    · exact q _ H' s1 (row_of hp pr fun _ _ => rfl)


def p_dot (K : PySem.W.Frag) (a b c : V) (H : Hp) (Q : VK) : Prop := ∃ (k : Kd) (n : Nat) (x y : Vc (El k) n), Fd K H a k ∧ Row H b x ∧ Row H c y ∧ n ≤ 1000 ∧ ∀ H', Same H H' → Q (iv (dot x.f y.f n)) H'
theorem c_dot (T : Tx K mg) : Cal P w K mg base 3 "dot" ["field", "v", "w"] (sp3 (p_dot K)) :=
  cal_of (d := d_dot) (lv := 2) (i := 4) (j := 4) T rfl rfl rfl rfl rfl (keep_of (d := d_dot) (i := 4) T rfl) (S := ⟨rfl, rfl, rfl, by decide +kernel, rfl, by decide +kernel, by decide +kernel⟩) (N := ["field", "v", "w", "found", "a", "b"]) (fun _ _ _ _ _ _ us hl => match us, hl with | [_, _, _], _ => rfl) len3 <| fun f cdv A outer s H vs Q E hr h => by
    obtain ⟨v0, v1, v2, rfl, h⟩ := h
    have nd : (["field", "v", "w", "found", "a", "b"] : List Str).Nodup := by decide +kernel
    refine ⟨_, (pss_cons (ps_set (i := 3) nd rfl (Or.inl rfl) pe_int) (pss_cons (ps_for PassesOwn.never rfl (pi_zipAK K (by rfl) T.zip (pa_cons (pv 1) (pa_cons (pv 2) pa_nil))) (pg_tupK K rfl (pgs_cons (pg_name (i := 4) nd rfl (Or.inl rfl)) (pgs_cons (pg_name (i := 5) nd rfl (Or.inl rfl)) pgs_nil))) (pss_one (ps_set (i := 3) nd rfl (Or.inl rfl) (pe_calM (pv 0) (m_Field_add T) (hr.mono (by decide)) (pa_cons (pv 3) (pa_cons (pe_calM (pv 0) (m_Field_multiply T) (hr.mono (by decide)) (pa_cons (pv 4) (pa_cons (pv 5) pa_nil))) pa_nil)))))) (pss_one (ps_ret (pv 3))))), ?_⟩
    obtain ⟨k, n, x, y, hf, ⟨ax, rfl, hx⟩, ⟨ay, rfl, hy⟩, hn, q⟩ := h
    refine ⟨_, rfl, _, rfl, _, _, _, _, rfl, .inr ⟨tq hx, tq hy, ?_⟩⟩
    refine for_it walk_two (fun i σ H' => Same H H' ∧ ∃ c d, σ = [some v0, some (.ref ax), some (.ref ay), some (iv (dot x.f y.f i)), c, d]) ⟨Same.refl _, none, none, ?_⟩ (fun i σ H' _ hp => ⟨tq (hp.1 _ _ hx), tq (hp.1 _ _ hy)⟩) (fun j z σ H1 H2 hj hp hz => ?_) fun σ H' hp => ?_
    · show [some v0, some (.ref ax), some (.ref ay), some (V.int 0), none, none] = _
      rw [iv_zero k]
      rfl
    · obtain ⟨s1, c, d, rfl⟩ := hp
      obtain ⟨U, rfl, hU, rfl⟩ := y_rows hj hz
      have s2 := s1.upd (o := .tup [iv (x.f j), iv (y.f j)]) (s1.free hU)
      refine ⟨_, _, rfl, tq upd_same, rfl, _, _, rfl, _, _, rfl, rfl, ?_⟩
      refine ⟨_, rfl, mF (hf.mono s2) (fd_no k) ⟨_, rfl, _, rfl, mF (hf.mono s2) (fd_no k) ⟨_, rfl, _, rfl, ⟨_, _, _, rfl, k, _, _, hf.mono s2, rfl, rfl, ?_⟩⟩⟩⟩
      exact ⟨_, _, _, rfl, k, _, _, hf.mono s2, rfl, rfl, s2, _, _, rfl⟩
    · obtain ⟨s1, c, d, rfl⟩ := hp
      exact ⟨_, rfl, q _ s1⟩


end
end Wit

namespace Wit
open PySem PySem.Spec PyProof.Rows L2
section
variable {P : Program} {w : World} {K : PySem.W.Frag} {mg : Str → Option Value} {base : Heap}

theorem rowsP_get {k : Kd} {n : Nat} {H : Hp} {M : List (Vc (El k) n)} {rs : List V} {i : Nat} {y : V} (r : RowsP H M rs) (h : rs[i]? = some y) : Row H y (M.getD i (Vc.nul (El k) n)) := by
  obtain ⟨x, e, q⟩ := Paired.at' r h
  rw [getD_of e]
  exact q
theorem rowsP_at {k : Kd} {n : Nat} {H : Hp} {M : List (Vc (El k) n)} {rs : List V} {i : Nat} (r : RowsP H M rs) (h : i < M.length) : ∃ y, rs[i]? = some y ∧ Row H y (M.getD i (Vc.nul (El k) n)) := by
  obtain ⟨y, e, q⟩ := Paired.at r (List.getElem?_eq_getElem h)
  exact ⟨y, e, rowsP_get r e⟩
theorem rowsP_of {k : Kd} {n m : Nat} {H : Hp} {g : Nat → Vc (El k) n} {ys : List V} (h : Paired (fun i y => Row H y (g i)) (List.range m) ys) : RowsP H ((List.range m).map g) ys := Paired.of_map h
theorem map_range {α β : Type} (f : α → β) (l : List α) (d : α) : l.map f = (List.range l.length).map fun i => f (l.getD i d) := by
  apply List.ext_getElem
  · simp
  · intro i h1 h2
    simp [List.getD]
    rw [List.getElem?_eq_getElem (by simpa using h1)]
    rfl
theorem rows_range {k : Kd} {n : Nat} (M : List (Vc (El k) n)) : M = (List.range M.length).map fun i => M.getD i (Vc.nul (El k) n) := by
  have := map_range id M (Vc.nul (El k) n)
  simpa using this
abbrev RowsE {k : Kd} {n : Nat} (H : Hp) (v : V) (M : List (Vc (El k) n)) : Prop := ∃ a rs, v = .ref a ∧ (H a = some (.tup rs) ∨ H a = some (.lst rs)) ∧ RowsP H M rs
theorem RowsT.e {k : Kd} {n : Nat} {H : Hp} {v : V} {M : List (Vc (El k) n)} (r : RowsT H v M) : RowsE H v M := let ⟨a, rs, e, h, p⟩ := r; ⟨a, rs, e, .inl h, p⟩
theorem RowsL.e {k : Kd} {n : Nat} {H : Hp} {v : V} {M : List (Vc (El k) n)} (r : RowsL H v M) : RowsE H v M := let ⟨a, rs, e, h, p⟩ := r; ⟨a, rs, e, .inr h, p⟩
theorem RowsE.mono {k : Kd} {n : Nat} {H H' : Hp} {v : V} {M : List (Vc (El k) n)} (r : RowsE H v M) (s : Same H H') : RowsE H' v M := let ⟨a, rs, e, h, p⟩ := r; ⟨a, rs, e, h.imp (s _ _) (s _ _), p.kt s.kt⟩
/-- two sequences walked together, the first a tuple or a list -/
theorem zip_two {H : Hp} {a b : Addr} {us ws : List V} {i j : Nat} {σ : L2.St} {R : It → Hp → Prop} (h : H a = some (.tup us) ∨ H a = some (.lst us)) (hb : H b = some (.tup ws)) (he : us.length = ws.length) (e1 : σ[i]? = some (some (.ref a))) (e2 : σ[j]? = some (some (.ref b)))
    (q : ∀ J, Walk J ws.length (fun H' => Same H H') (YPair (fun i => us[i]?) (fun i => ws[i]?)) → R J H) : iZipM K (tCons (tVar i) (tCons (tVar j) tNil)) σ H R ∨ RZ.iZipA K (tCons (tVar i) (tCons (tVar j) tNil)) σ H R := by
  rcases h with h | h
  · exact .inr ⟨_, e1, _, e2, _, _, _, _, rfl, .inr ⟨tq h, tq hb, q _ ((walk_zipT (by rw [he, Nat.min_self])).mono (fun H' s => ⟨tq (s _ _ h), tq (s _ _ hb)⟩) fun _ _ _ _ _ _ y => y)⟩⟩
  · exact .inl ⟨_, e1, _, e2, _, _, _, _, rfl, lq' h, tq hb, q _ ((walk_zipM he).mono (fun H' s => ⟨lq' (s _ _ h), tq (s _ _ hb)⟩) fun _ _ _ _ _ _ y => y)⟩
/-- a sequence walked, a tuple or a list -/
theorem seq_two {H : Hp} {a : Addr} {us : List V} {i : Nat} {σ : L2.St} {R : It → Hp → Prop} (h : H a = some (.tup us) ∨ H a = some (.lst us)) (e1 : σ[i]? = some (some (.ref a)))
    (q : ∀ J, Walk J us.length (fun H' => Same H H') (YAt us) → R J H) : iTup K (tVar i) σ H R ∨ iList K (tVar i) σ H R := by
  rcases h with h | h
  · exact .inl ⟨_, e1, _, rfl, ⟨_, tq h⟩, q _ (walk_tup.mono (fun H' s => tq (s _ _ h)) fun _ _ _ _ _ _ y => y)⟩
  · exact .inr ⟨_, e1, _, rfl, ⟨_, lq' h⟩, q _ (walk_list.mono (fun H' s => lq' (s _ _ h)) fun _ _ _ _ _ _ y => y)⟩
theorem comb_snoc {k : Kd} {n : Nat} (r : Vc (El k) n) : ∀ (l : List (Vc (El k) n)) (w : Nat → El k), comb (l ++ [r]) w = comb l w + r.sc (w l.length)
  | [], w => by
    show r.sc (w 0) + Vc.nul _ _ = Vc.nul _ _ + r.sc (w 0)
    exact v_add_comm _ _
  | x :: l, w => by
    show x.sc (w 0) + comb (l ++ [r]) (fun i => w (i + 1)) = x.sc (w 0) + comb l (fun i => w (i + 1)) + r.sc (w (l.length + 1))
    rw [comb_snoc r l, v_add_assoc]
theorem comb_take {k : Kd} {n : Nat} {M : List (Vc (El k) n)} {i : Nat} (h : i < M.length) (w : Nat → El k) : comb (M.take (i + 1)) w = comb (M.take i) w + (M.getD i (Vc.nul (El k) n)).sc (w i) := by
  have e : M.take (i + 1) = M.take i ++ [M.getD i (Vc.nul (El k) n)] := by
    rw [List.take_add_one, List.getElem?_eq_getElem h]
    simp [List.getD, h]
  rw [e, comb_snoc, List.length_take, Nat.min_eq_left (Nat.le_of_lt h)]
theorem rep_nul {k : Kd} {n : Nat} : (List.replicate n [V.int 0]).flatten = vl (Vc.nul (El k) n) := by
  have e : (List.replicate n [V.int 0]).flatten = List.replicate n (V.int 0) := by
    induction n with
    | zero => rfl
    | succ n ih => rw [List.replicate_succ, List.flatten_cons, ih]; rfl
  rw [e, iv_zero k]
  unfold vl
  apply List.ext_getElem
  · simp
  · intro i h1 h2
    simp
    rfl
theorem y_pair {us ws : List V} {i : Nat} {H H' : Hp} {v : V} (h : YPair (fun i => us[i]?) (fun i => ws[i]?) i H v H') : ∃ U x y, v = .ref U ∧ H U = none ∧ H' = upd H U (.tup [x, y]) ∧ us[i]? = some x ∧ ws[i]? = some y := h
/-- all of a comprehension, true each time -/
theorem lc_all {J : It} {n : Nat} {G : Hp → Prop} {Y : Nat → Hp → V → Hp → Prop} (w : Walk J n G Y) {g : TG} {te : TE} {vs : List Nat} {σ σ0 : L2.St} {H1 : Hp} {Q : VK} (hn : n < sizeLine) (hG : ∀ H, Same H1 H → G H)
    (hY : ∀ i H x H', Y i H x H' → Same H H')
    (hs : ∀ (i : Nat) (x : V) (H H' : Hp) (yes : V → Hp → Prop), i < n → Same H1 H → Same H1 H' → Y i H x H' → (∀ H4, Same H' H4 → yes (.bl true) H4) → g x (wipe σ vs) H' fun σ2 H2 => wipe σ2 vs = wipe σ vs ∧ te σ2 H2 fun y H4 => yes y H4)
    (gm : ∀ x σ H Z Z', (∀ σ' H', Z σ' H' → Z' σ' H') → g x σ H Z → g x σ H Z')
    (hd : ∀ H', Same H1 H' → Q (.bl true) H') :
    ∀ D, H1 D = none → ∃ W : Nat → Nat → Hp → Prop, (∃ m, W 0 m (upd H1 D (.lst []))) ∧ ∀ i m H, W i m H →
      (J.stop i H ∧ tNil σ0 H fun xs H2 => rAll K (.ref D :: xs) H2 Q) ∨ (J.go i H ∧ ∃ Nx : Hp → Prop, (∀ H', Nx H' → ∃ m', m' < m ∧ W (i + 1) m' H') ∧ ∀ x H', J.yld i H x H' → g x (wipe σ vs) H' fun σ2 H2 => wipe σ2 vs = wipe σ vs ∧ tYes σ2 H2 fun b H3 =>
        if b = true then te σ2 H3 fun y H4 => ∃ acc, H4 D = some (.lst acc) ∧ acc.length < sizeLine ∧ Nx (upd H4 D (.lst (acc ++ [y]))) else Nx H3) :=
  lc_map w (Q := fun v H => rAll K [v] H Q) (fun _ z _ => z = .bl true) hn hG (fun _ _ _ _ _ z => z) hY (fun i x H H' yes hi s1 s2 hy hyes => hs i x H H' yes hi s1 s2 hy fun H4 s4 => hyes _ H4 s4 rfl) gm fun D H' ys s1 hD e pr => ⟨D, (List.range n).map fun _ => true, rfl, lq' (by rw [e, Paired.eq_map pr, List.map_map]; rfl), by
    rw [List.all_map]
    have z : (List.range n).all (id ∘ fun _ => true) = true := List.all_eq_true.mpr fun _ _ => rfl
    rw [z]
    exact hd H' s1⟩

def p_combine (K : PySem.W.Frag) (a b c d : V) (H : Hp) (Q : VK) : Prop := ∃ (k : Kd) (n m : Nat) (M : List (Vc (El k) n)) (w : Vc (El k) m), Fd K H a k ∧ RowsE H b M ∧ Row H c w ∧ d = .int n ∧ M.length = m ∧ n ≤ 1000 ∧ m ≤ 1000 ∧ ∀ r H', Same H H' → Row H' r (comb M w.f) → Q r H'
theorem c_combine (T : Tx K mg) : Cal P w K mg base 4 "combine" ["field", "rows", "weights", "width"] (sp4 (p_combine K)) :=
  cal_of (d := d_combine) (lv := 3) (i := 5) (j := 5) T rfl rfl rfl rfl rfl (keep_of (d := d_combine) (i := 5) T rfl) (S := ⟨rfl, rfl, rfl, by decide +kernel, rfl, by decide +kernel, by decide +kernel⟩) (N := ["field", "rows", "weights", "width", "found", "row", "c"]) (fun _ _ _ _ _ _ us hl => match us, hl with | [_, _, _, _], _ => rfl) len4 <| fun f cdv A outer s H vs Q E hr h => by
    obtain ⟨v0, v1, v2, v3, rfl, h⟩ := h
    have nd : (["field", "rows", "weights", "width", "found", "row", "c"] : List Str).Nodup := by decide +kernel
    refine ⟨_, (pss_cons (ps_set (i := 4) nd rfl (Or.inl rfl) (pe_callTy (call_tuple_ofK K) (by rfl) T.tuple boot_tuple (pa_cons (pe_op op_rep (pe_lst (pa_cons pe_int pa_nil)) (pv 3)) pa_nil))) (pss_cons (ps_for PassesOwn.never rfl (pi_or (pi_zipMK K (by rfl) T.zip (pa_cons (pv 1) (pa_cons (pv 2) pa_nil))) (pi_zipAK K (by rfl) T.zip (pa_cons (pv 1) (pa_cons (pv 2) pa_nil)))) (pg_tupK K rfl (pgs_cons (pg_name (i := 5) nd rfl (Or.inl rfl)) (pgs_cons (pg_name (i := 6) nd rfl (Or.inl rfl)) pgs_nil))) (pss_one (ps_set (i := 4) nd rfl (Or.inl rfl) (pe_cal (c_add T) (hr.mono (by decide)) (by rfl) (pa_cons (pv 0) (pa_cons (pv 4) (pa_cons (pe_cal (c_scaled T) (hr.mono (by decide)) (by rfl) (pa_cons (pv 0) (pa_cons (pv 5) (pa_cons (pv 6) pa_nil)))) pa_nil))))))) (pss_one (ps_ret (pv 4))))), ?_⟩
    obtain ⟨k, n, m, M, w', hf, ⟨ar, rs, rfl, hr', hM⟩, ⟨aw, rfl, hw⟩, rfl, hm, hn, hm', q⟩ := h
    refine ⟨by decide, fun lz hlz => ⟨_, rfl, _, _, _, rfl, rfl, upd_same, by omega, by omega, ?_, fun lr hlr => ?_⟩⟩
    · show 1 * _ ≤ _
      rw [Nat.one_mul, Int.toNat_natCast]
      exact Nat.le_trans hn (by decide)
    have sz := upd_none (o := .lst [.int 0]) hlz
    have sr := upd_none (o := .lst (List.replicate ((n : Nat) : Int).toNat [.int 0]).flatten) hlr
    refine ⟨_, _, rfl, .inl ⟨lq' upd_same, fun lt hlt => ?_⟩⟩
    rw [Int.toNat_natCast, rep_nul (k := k)] at *
    have st := upd_none (o := .tup (vl (Vc.nul (El k) n))) hlt
    have s0 := (sz.trans sr).trans st
    have rl : rs.length = (vl w').length := by rw [Paired.len hM, vl_len, hm]
    refine zip_two (hr'.imp (s0 _ _) (s0 _ _)) (s0 _ _ hw) rl rfl rfl fun J wk => ?_
    rw [vl_len] at wk
    refine for_it wk (fun i σ H' => Same _ H' ∧ ∃ acc c d, σ = [some v0, some (.ref ar), some (.ref aw), some (.int n), some acc, c, d] ∧ Row H' acc (comb (M.take i) w'.f)) ⟨Same.refl _, _, none, none, rfl, ⟨_, rfl, upd_same⟩⟩ (fun i σ H' _ hp => hp.1) (fun j z σ H1 H2 hj hp hz => ?_) fun σ H' hp => ?_
    · obtain ⟨s1, acc, c, d, rfl, ha⟩ := hp
      obtain ⟨U, x, y, rfl, hU, rfl, e1, e2⟩ := y_pair hz
      rw [vl_at w' hj] at e2
      cases e2
      have sU := upd_none (o := .tup [x, iv (w'.f j)]) hU
      have s2 := s1.trans sU
      have hx := (rowsP_get hM e1).mono (s0.trans s2)
      refine ⟨_, _, rfl, tq upd_same, rfl, _, _, rfl, _, _, rfl, rfl, ?_⟩
      refine ⟨_, rfl, _, rfl, _, rfl, _, rfl, _, rfl, ?_⟩
      refine ⟨_, _, _, rfl, k, n, _, _, hf.mono (s0.trans s2), hx, rfl, hn, fun r H3 s3 hr3 => ?_⟩
      refine ⟨_, _, _, rfl, k, n, _, _, hf.mono ((s0.trans s2).trans s3), ha.mono (sU.trans s3), hr3, hn, fun r' H4 s4 hr4 => ?_⟩
      refine ⟨(s2.trans s3).trans s4, r', _, _, rfl, ?_⟩
      rw [comb_take (by omega)]
      exact hr4
    · obtain ⟨s1, acc, c, d, rfl, ha⟩ := hp
      rw [List.take_of_length_le (by omega)] at ha
      exact ⟨_, rfl, q _ _ (s0.trans s1) ha⟩


def p_cleared (K : PySem.W.Frag) (a b c d : V) (H : Hp) (Q : VK) : Prop := ∃ (k : Kd) (n at' : Nat) (x y : Vc (El k) n), Fd K H a k ∧ Row H b x ∧ Row H c y ∧ d = .int at' ∧ at' < n ∧ n ≤ 1000 ∧ ∀ r H', Same H H' → Row H' r (clr y at' x) → Q r H'
theorem c_cleared (T : Tx K mg) : Cal P w K mg base 4 "cleared" ["field", "row", "lead", "at"] (sp4 (p_cleared K)) :=
  cal_of (d := d_cleared) (lv := 3) (i := 6) (j := 6) T rfl rfl rfl rfl rfl (keep_of (d := d_cleared) (i := 6) T rfl) (S := ⟨rfl, rfl, rfl, by decide +kernel, rfl, by decide +kernel, by decide +kernel⟩) (N := ["field", "row", "lead", "at"]) (fun _ _ _ _ _ _ us hl => match us, hl with | [_, _, _, _], _ => rfl) len4 <| fun f cdv A outer s H vs Q E hr h => by
    obtain ⟨v0, v1, v2, v3, rfl, h⟩ := h
    have nd : (["field", "row", "lead", "at"] : List Str).Nodup := by decide +kernel
    refine ⟨_, (pss_one (ps_ret (pe_cal (c_add T) (hr.mono (by decide)) (by rfl) (pa_cons (pv 0) (pa_cons (pv 1) (pa_cons (pe_cal (c_scaled T) (hr.mono (by decide)) (by rfl) (pa_cons (pv 0) (pa_cons (pv 2) (pa_cons (pe_calM (pv 0) (m_Field_negative T) (hr.mono (by decide)) (pa_cons (pe_ix (ix_tupK K) (pv 1) (pv 3) (fun _ _ => rfl)) pa_nil)) pa_nil)))) pa_nil)))))), ?_⟩
    obtain ⟨k, n, at', x, y, hf, ⟨ax, rfl, hx⟩, hy, rfl, hi, hn, q⟩ := h
    refine ⟨_, rfl, _, rfl, _, rfl, _, rfl, ?_⟩
    refine ⟨_, rfl, mF hf (fd_no k) ⟨_, rfl, _, rfl, ⟨_, _, _, _, rfl, rfl, tq hx, atI_nat (vl_at x hi), ⟨_, _, rfl, k, _, hf, rfl, ?_⟩⟩⟩⟩
    refine ⟨_, _, _, rfl, k, n, _, _, hf, hy, rfl, hn, fun r H3 s3 hr3 => ?_⟩
    exact ⟨_, _, _, rfl, k, n, _, _, hf.mono s3, ⟨ax, rfl, s3 _ _ hx⟩, hr3, hn, fun r' H4 s4 hr4 => q r' H4 (s3.trans s4) hr4⟩


def p_moved (K : PySem.W.Frag) (a b c d : V) (H : Hp) (Q : VK) : Prop := ∃ (k : Kd) (n m : Nat) (M : List (Vc (El k) n)) (w : Vc (El k) m), Fd K H a k ∧ RowsE H c M ∧ Row H b w ∧ d = .int n ∧ M.length = m ∧ n ≤ 1000 ∧ m ≤ 1000 ∧ ∀ r H', Same H H' → Row H' r (ap M w) → Q r H'
theorem c_moved (T : Tx K mg) : Cal P w K mg base 5 "moved" ["field", "v", "rows", "width"] (sp4 (p_moved K)) :=
  cal_of (d := d_moved) (lv := 4) (i := 11) (j := 11) T rfl rfl rfl rfl rfl (keep_of (d := d_moved) (i := 11) T rfl) (S := ⟨rfl, rfl, rfl, by decide +kernel, rfl, by decide +kernel, by decide +kernel⟩) (N := ["field", "v", "rows", "width"]) (fun _ _ _ _ _ _ us hl => match us, hl with | [_, _, _, _], _ => rfl) len4 <| fun f cdv A outer s H vs Q E hr h => by
    obtain ⟨v0, v1, v2, v3, rfl, h⟩ := h
    have nd : (["field", "v", "rows", "width"] : List Str).Nodup := by decide +kernel
    refine ⟨_, (pss_one (ps_ret (pe_cal (c_combine T) (hr.mono (by decide)) (by rfl) (pa_cons (pv 0) (pa_cons (pv 2) (pa_cons (pv 1) (pa_cons (pv 3) pa_nil))))))), ?_⟩
    obtain ⟨k, n, m, M, w', hf, hM, hw, rfl, hm, hn, hm', q⟩ := h
    exact ⟨_, rfl, _, rfl, _, rfl, _, rfl, _, _, _, _, rfl, k, n, m, M, w', hf, hM, hw, rfl, hm, hn, hm', q⟩


def p_times (K : PySem.W.Frag) (a b c d : V) (H : Hp) (Q : VK) : Prop := ∃ (k : Kd) (n : Nat) (M N : List (Vc (El k) n)), Fd K H a k ∧ RowsT H b M ∧ RowsT H c N ∧ d = .int n ∧ M.length = n ∧ N.length = n ∧ n ≤ 1000 ∧ ∀ r H', Same H H' → RowsT H' r (M.map (ap N)) → Q r H'
theorem c_times (T : Tx K mg) : Cal P w K mg base 6 "times" ["field", "one", "two", "width"] (sp4 (p_times K)) :=
  cal_of (d := d_times) (lv := 5) (i := 12) (j := 12) T rfl rfl rfl rfl rfl (keep_of (d := d_times) (i := 12) T rfl) (S := ⟨rfl, rfl, rfl, by decide +kernel, rfl, by decide +kernel, by decide +kernel⟩) (N := ["field", "one", "two", "width", "row"]) (fun _ _ _ _ _ _ us hl => match us, hl with | [_, _, _, _], _ => rfl) len4 <| fun f cdv A outer s H vs Q E hr h => by
    obtain ⟨v0, v1, v2, v3, rfl, h⟩ := h
    have nd : (["field", "one", "two", "width", "row"] : List Str).Nodup := by decide +kernel
    refine ⟨_, (pss_one (ps_ret (pe_callTy (call_tuple_ofK K) (by rfl) T.tuple boot_tuple (pa_cons (pe_lc (own := [("row", 4)]) (g := (gName 4)) (tt := tYes) rfl nd (pi_tupK K (pv 1)) (blkOk_by (by kernel_rfl)) (fun _ _ _ _ _ => (pg_name (i := 4) nd rfl (Or.inl rfl))) (fun _ _ _ _ _ => pts_nil) (fun _ _ _ _ _ => (pe_cal (c_moved T) (hr.mono (by decide)) (by rfl) (pa_cons (pv 0) (pa_cons (pv 4) (pa_cons (pv 2) (pa_cons (pv 3) pa_nil))))))) pa_nil)))), ?_⟩
    obtain ⟨k, n, M, N, hf, ⟨am, ms, rfl, hm, hM⟩, hN, rfl, lM, lN, hn, q⟩ := h
    refine ⟨_, rfl, _, rfl, ⟨_, tq hm⟩, ?_⟩
    have lm : ms.length = n := by rw [Paired.len hM, lM]
    refine lc_tup (n := n) (lm ▸ walk_tup) (fun j z H => Row H z (ap N (M.getD j (Vc.nul (El k) n)))) (small_n hn) (fun H' s => tq (s _ _ hm)) (fun _ _ _ _ s z => z.kt s) yAt_same (fun j z H1 H2 yes hj s1 s2 hz hyes => ?_) gName_mono fun p H' ys s1 hp pr => ?_
    · obtain ⟨rfl, e1⟩ := hz
      refine ⟨rfl, _, rfl, _, rfl, _, rfl, _, rfl, ?_⟩
      exact ⟨_, _, _, _, rfl, k, n, n, N, _, hf.mono s2, (RowsT.mono hN s2).e, (rowsP_get hM e1).mono s2, rfl, lN, hn, hn, fun r H3 s3 h3 => hyes r H3 s3 h3⟩
    · refine q _ H' s1 ⟨p, ys, rfl, hp, ?_⟩
      rw [map_range (ap N) M (Vc.nul (El k) n), lM]
      exact rowsP_of pr


def p_identity (a : V) (H : Hp) (Q : VK) : Prop := ∃ (k : Kd) (n : Nat), a = .int n ∧ n ≤ 1000 ∧ ∀ r H', Same H H' → RowsT H' r (ident (El k) n) → Q r H'
theorem c_identity (T : Tx K mg) : Cal P w K mg base 2 "identity" ["n"] (sp1 p_identity) :=
  cal_of (d := d_identity) (lv := 1) (i := 13) (j := 13) T rfl rfl rfl rfl rfl (keep_of (d := d_identity) (i := 13) T rfl) (S := ⟨rfl, rfl, rfl, by decide +kernel, rfl, by decide +kernel, by decide +kernel⟩) (N := ["n", "i"]) (fun _ _ _ _ _ _ us hl => match us, hl with | [_], _ => rfl) len1 <| fun f cdv A outer s H vs Q E hr h => by
    obtain ⟨v0, rfl, h⟩ := h
    have nd : (["n", "i"] : List Str).Nodup := by decide +kernel
    refine ⟨_, (pss_one (ps_ret (pe_callTy (call_tuple_ofK K) (by rfl) T.tuple boot_tuple (pa_cons (pe_lc (own := [("i", 1)]) (g := (gName 1)) (tt := tYes) rfl nd (pi_range1 (by rfl) T.range (pa_cons (pv 0) pa_nil)) (blkOk_by (by kernel_rfl)) (fun _ _ _ _ _ => (pg_name (i := 1) nd rfl (Or.inl rfl))) (fun _ _ _ _ _ => pts_nil) (fun _ _ _ _ _ => (pe_cal (c_unit_row T) (hr.mono (by decide)) (by rfl) (pa_cons (pv 0) (pa_cons (pv 1) pa_nil))))) pa_nil)))), ?_⟩
    obtain ⟨k, n, rfl, hn, q⟩ := h
    refine ⟨_, rfl, _, rfl, by omega, by omega, ?_⟩
    rw [Int.toNat_natCast]
    refine lc_tup walk_rg (fun j y H => Row H y (Vc.un (El k) n j)) (small_n hn) (fun _ _ => trivial) (fun _ _ _ _ s z => z.kt s) yFn_same (fun j x H1 H2 yes hj s1 s2 hy hyes => ?_) gName_mono fun p H' ys s1 hp pr => ?_
    · obtain ⟨rfl, rfl⟩ := hy
      exact ⟨rfl, _, rfl, _, rfl, _, _, rfl, k, n, j, rfl, rfl, hn, hyes⟩
    · exact q _ H' s1 ⟨p, ys, rfl, hp, rowsP_of pr⟩


def p_transposed (a b : V) (H : Hp) (Q : VK) : Prop := ∃ (k : Kd) (n m : Nat) (M : List (Vc (El k) n)), RowsT H a M ∧ b = .int n ∧ M.length = m ∧ n ≤ 1000 ∧ m ≤ 1000 ∧ ∀ r H', Same H H' → RowsT H' r ((List.range n).map fun j => Vc.of m fun i => (M.getD i (Vc.nul (El k) n)).f j) → Q r H'
theorem c_transposed (T : Tx K mg) : Cal P w K mg base 1 "transposed" ["rows", "width"] (sp2 p_transposed) :=
  cal_of (d := d_transposed) (lv := 0) (i := 10) (j := 10) T rfl rfl rfl rfl rfl (keep_of (d := d_transposed) (i := 10) T rfl) (S := ⟨rfl, rfl, rfl, by decide +kernel, rfl, by decide +kernel, by decide +kernel⟩) (N := ["rows", "width", "k", "row"]) (fun _ _ _ _ _ _ us hl => match us, hl with | [_, _], _ => rfl) len2 <| fun f cdv A outer s H vs Q E hr h => by
    obtain ⟨v0, v1, rfl, h⟩ := h
    have nd : (["rows", "width", "k", "row"] : List Str).Nodup := by decide +kernel
    refine ⟨_, (pss_one (ps_ret (pe_callTy (call_tuple_ofK K) (by rfl) T.tuple boot_tuple (pa_cons (pe_lc (own := [("k", 2)]) (g := (gName 2)) (tt := tYes) rfl nd (pi_range1 (by rfl) T.range (pa_cons (pv 1) pa_nil)) (blkOk_by (by kernel_rfl)) (fun _ _ _ _ _ => (pg_name (i := 2) nd rfl (Or.inr rfl))) (fun _ _ _ _ _ => pts_nil) (fun _ _ _ _ _ => (pe_callTy (call_tuple_ofK K) (by rfl) T.tuple boot_tuple (pa_cons (pe_lc (own := [("row", 3)]) (g := (gName 3)) (tt := tYes) rfl nd (pi_tupK K (pv 0)) (blkOk_by (by kernel_rfl)) (fun _ _ _ _ _ => (pg_name (i := 3) nd rfl (Or.inl rfl))) (fun _ _ _ _ _ => pts_nil) (fun _ _ _ _ _ => (pe_ix (ix_tupK K) (pv 3) (pv 2) (fun _ _ => rfl)))) pa_nil)))) pa_nil)))), ?_⟩
    obtain ⟨k, n, m, M, ⟨am, ms, rfl, hm, hM⟩, rfl, lM, hn, hm', q⟩ := h
    have lm : ms.length = m := by rw [Paired.len hM, lM]
    refine ⟨_, rfl, _, rfl, by omega, by omega, ?_⟩
    rw [Int.toNat_natCast]
    refine lc_tup walk_rg (fun j y H => Row H y (Vc.of m fun i => (M.getD i (Vc.nul (El k) n)).f j)) (small_n hn) (fun _ _ => trivial) (fun _ _ _ _ s z => z.kt s) yFn_same (fun j x H1 H2 yes hj s1 s2 hy hyes => ?_) gName_mono fun p H' ys s1 hp pr => ?_
    · obtain ⟨rfl, rfl⟩ := hy
      refine ⟨rfl, _, rfl, _, rfl, ⟨_, tq (s2 _ _ hm)⟩, ?_⟩
      refine lc_tup (n := m) (lm ▸ walk_tup) (fun i z _ => z = iv ((M.getD i (Vc.nul (El k) n)).f j)) (small_n hm') (fun H' s => tq (s _ _ (s2 _ _ hm))) (fun _ _ _ _ s z => z) yAt_same (fun i z H3 H4 yes hi s3 s4 hz hyes => ?_) gName_mono fun p H' ys s3 hp pr => ?_
      · obtain ⟨rfl, e1⟩ := hz
        obtain ⟨ar, rfl, hrow⟩ := (rowsP_get hM e1).mono (s2.trans s4)
        exact ⟨rfl, _, rfl, _, rfl, _, _, _, _, rfl, rfl, tq hrow, atI_nat (vl_at _ hj), hyes _ _ (Same.refl _) rfl⟩
      · exact hyes _ H' s3 (row_of hp pr fun i hi => (Vc.of_f (g := fun i => (M.getD i (Vc.nul (El k) n)).f j) hi).symm)
    · exact q _ H' s1 ⟨p, ys, rfl, hp, rowsP_of pr⟩


def p_is_row (K : PySem.W.Frag) (a b c : V) (H : Hp) (Q : VK) : Prop := ∃ (k : Kd) (n : Nat) (x : Vc (El k) n), Fd K H a k ∧ Row H b x ∧ c = .int n ∧ n ≤ 1000 ∧ ∀ H', Same H H' → Q (.bl true) H'
theorem c_is_row (T : Tx K mg) : Cal P w K mg base 3 "is_row_linear" ["field", "value", "n"] (sp3 (p_is_row K)) :=
  cal_of (d := d_is_row_linear) (lv := 2) (i := 0) (j := 0) T rfl rfl rfl rfl rfl (keep_of (d := d_is_row_linear) (i := 0) T rfl) (S := ⟨rfl, rfl, rfl, by decide +kernel, rfl, by decide +kernel, by decide +kernel⟩) (N := ["field", "value", "n", "item"]) (fun _ _ _ _ _ _ us hl => match us, hl with | [_, _, _], _ => rfl) len3 <| fun f cdv A outer s H vs Q E hr h => by
    obtain ⟨v0, v1, v2, rfl, h⟩ := h
    have nd : (["field", "value", "n", "item"] : List Str).Nodup := by decide +kernel
    refine ⟨_, (pss_one (ps_ret (pe_and (pe_callB (call_isiK1 K) (by rfl) T.isinstance (by decide +kernel) (pa_cons (pv 1) (pa_cons (pe_bltn (v := .ty "tuple") (u := .type "tuple") (by rfl) T.tuple (by decide +kernel) rfl) pa_nil))) (pe_and (pe_cmpR op_eq (pe_callB (call_len_seqK K) (by rfl) T.len PySem.boot_len (pa_cons (pv 1) pa_nil)) (pv 2) (nomark _)) (pe_one (pe_callB (cr_allK K rfl) (by rfl) T.all (by decide +kernel) (pa_cons (pe_lc (own := [("item", 3)]) (g := (gName 3)) (tt := tYes) rfl nd (pi_tupK K (pv 1)) (blkOk_by (by kernel_rfl)) (fun _ _ _ _ _ => (pg_name (i := 3) nd rfl (Or.inl rfl))) (fun _ _ _ _ _ => pts_nil) (fun _ _ _ _ _ => (pe_calM (pv 0) (m_Field_is_number T) (hr.mono (by decide)) (pa_cons (pv 3) pa_nil)))) pa_nil))))))), ?_⟩
    obtain ⟨k, n, x, hf, ⟨ax, rfl, hx⟩, rfl, hn, q⟩ := h
    refine ⟨_, rfl, _, _, _, _, true, rfl, .ty _, .base (.tup hx), kit_ty (by decide +kernel), true, rfl, iteT ?_⟩
    refine ⟨_, rfl, _, _, rfl, .inr (tq hx), _, rfl, rfl, true, ?_, iteT ?_⟩
    · rw [vl_len, decide_eq_true rfl]
    refine ⟨_, rfl, _, rfl, ⟨_, tq hx⟩, ?_⟩
    refine lc_all walk_one (small_n hn) (fun H' s => tq (s _ _ hx)) yAt_same (fun j z H1 H2 yes hj s1 s2 hz hyes => ?_) gName_mono fun H' s1 => q H' s1
    · obtain ⟨rfl, e1⟩ := hz
      rw [vl_at x hj] at e1
      cases e1
      exact ⟨rfl, _, rfl, mF (hf.mono s2) (fd_no k) ⟨_, rfl, _, _, rfl, k, _, hf.mono s2, rfl, hyes _ (Same.refl _)⟩⟩


def p_is_matrix (K : PySem.W.Frag) (a b c : V) (H : Hp) (Q : VK) : Prop := ∃ (k : Kd) (n : Nat) (M : List (Vc (El k) n)), Fd K H a k ∧ RowsT H b M ∧ M.length = n ∧ c = .int n ∧ n ≤ 1000 ∧ ∀ H', Same H H' → Q (.bl true) H'
theorem c_is_matrix (T : Tx K mg) : Cal P w K mg base 4 "is_matrix" ["field", "value", "n"] (sp3 (p_is_matrix K)) :=
  cal_of (d := d_is_matrix) (lv := 3) (i := 14) (j := 14) T rfl rfl rfl rfl rfl (keep_of (d := d_is_matrix) (i := 14) T rfl) (S := ⟨rfl, rfl, rfl, by decide +kernel, rfl, by decide +kernel, by decide +kernel⟩) (N := ["field", "value", "n", "row"]) (fun _ _ _ _ _ _ us hl => match us, hl with | [_, _, _], _ => rfl) len3 <| fun f cdv A outer s H vs Q E hr h => by
    obtain ⟨v0, v1, v2, rfl, h⟩ := h
    have nd : (["field", "value", "n", "row"] : List Str).Nodup := by decide +kernel
    refine ⟨_, (pss_one (ps_ret (pe_and (pe_callB (call_isiK1 K) (by rfl) T.isinstance (by decide +kernel) (pa_cons (pv 1) (pa_cons (pe_bltn (v := .ty "tuple") (u := .type "tuple") (by rfl) T.tuple (by decide +kernel) rfl) pa_nil))) (pe_and (pe_cmpR op_eq (pe_callB (call_len_seqK K) (by rfl) T.len PySem.boot_len (pa_cons (pv 1) pa_nil)) (pv 2) (nomark _)) (pe_one (pe_callB (cr_allK K rfl) (by rfl) T.all (by decide +kernel) (pa_cons (pe_lc (own := [("row", 3)]) (g := (gName 3)) (tt := tYes) rfl nd (pi_tupK K (pv 1)) (blkOk_by (by kernel_rfl)) (fun _ _ _ _ _ => (pg_name (i := 3) nd rfl (Or.inl rfl))) (fun _ _ _ _ _ => pts_nil) (fun _ _ _ _ _ => (pe_cal (c_is_row T) (hr.mono (by decide)) (by rfl) (pa_cons (pv 0) (pa_cons (pv 3) (pa_cons (pv 2) pa_nil)))))) pa_nil))))))), ?_⟩
    obtain ⟨k, n, M, hf, ⟨am, ms, rfl, hm, hM⟩, lM, rfl, hn, q⟩ := h
    have lm : ms.length = n := by rw [Paired.len hM, lM]
    refine ⟨_, rfl, _, _, _, _, true, rfl, .ty _, .base (.tup hm), kit_ty (by decide +kernel), true, rfl, iteT ?_⟩
    refine ⟨_, rfl, _, _, rfl, .inr (tq hm), _, rfl, rfl, true, ?_, iteT ?_⟩
    · rw [lm, decide_eq_true rfl]
    refine ⟨_, rfl, _, rfl, ⟨_, tq hm⟩, ?_⟩
    refine lc_all (n := n) (lm ▸ walk_tup) (small_n hn) (fun H' s => tq (s _ _ hm)) yAt_same (fun j z H1 H2 yes hj s1 s2 hz hyes => ?_) gName_mono fun H' s1 => q H' s1
    · obtain ⟨rfl, e1⟩ := hz
      refine ⟨rfl, _, rfl, _, rfl, _, rfl, ?_⟩
      exact ⟨_, _, _, rfl, k, n, _, hf.mono s2, (rowsP_get hM e1).mono s2, rfl, hn, fun H3 s3 => hyes H3 s3⟩


end
end Wit

namespace Wit
open PySem PySem.Spec PyProof.Rows L2
section
variable {P : Program} {w : World} {K : PySem.W.Frag} {mg : Str → Option Value} {base : Heap}

abbrev LL {k : Kd} {n : Nat} (H : Hp) (a : Addr) (M : List (Vc (El k) n)) : Prop := ∃ rs, H a = some (.lst rs) ∧ RowsP H M rs
abbrev pl (l : List Nat) : List V := l.map fun i => V.int (i : Nat)
theorem LL.mono {k : Kd} {n : Nat} {H H' : Hp} {a : Addr} {M : List (Vc (El k) n)} (r : LL H a M) (s : Same H H') : LL H' a M := let ⟨rs, e, p⟩ := r; ⟨rs, s _ _ e, p.kt s.kt⟩
theorem LL.at {k : Kd} {n : Nat} {H : Hp} {a p : Addr} {xs : List V} {o : HO} {M : List (Vc (El k) n)} (r : LL H a M) (ne : a ≠ p) (hp : H p = some (.lst xs)) : LL (upd H p o) a M := let ⟨rs, e, z⟩ := r; ⟨rs, by rw [upd_ne ne]; exact e, z.kt (kt_lst hp)⟩
section
variable {J : It} {n : Nat} {G : Hp → Prop} {Y : Nat → Hp → V → Hp → Prop}
/-- name = a comprehension -/
theorem lc_set (w : Walk J n G Y) {g : TG} {te : TE} {vs : List Nat} {σ : L2.St} {H1 : Hp} {j : Nat} {nx : L2.St → Hp → Prop} (R : Nat → V → Hp → Prop) (hn : n < sizeLine) (hG : ∀ H, Same H1 H → G H) (hR : ∀ i y H H', KT H H' → R i y H → R i y H')
    (hY : ∀ i H x H', Y i H x H' → Same H H')
    (hs : ∀ (i : Nat) (x : V) (H H' : Hp) (yes : V → Hp → Prop), i < n → Same H1 H → Same H1 H' → Y i H x H' → (∀ y H4, Same H' H4 → R i y H4 → yes y H4) → g x (wipe σ vs) H' fun σ2 H2 => wipe σ2 vs = wipe σ vs ∧ te σ2 H2 fun y H4 => yes y H4)
    (gm : ∀ x σ H Z Z', (∀ σ' H', Z σ' H' → Z' σ' H') → g x σ H Z → g x σ H Z')
    (hd : ∀ p H' ys, Same H1 H' → H1 p = none → H' p = some (.lst ys) → Paired (fun i y => R i y H') (List.range n) ys → nx (σ.set j (some (.ref p))) H') :
    ∀ D, H1 D = none → ∃ W : Nat → Nat → Hp → Prop, (∃ m, W 0 m (upd H1 D (.lst []))) ∧ ∀ i m H, W i m H →
      (J.stop i H ∧ gName j (.ref D) σ H nx) ∨ (J.go i H ∧ ∃ Nx : Hp → Prop, (∀ H', Nx H' → ∃ m', m' < m ∧ W (i + 1) m' H') ∧ ∀ x H', J.yld i H x H' → g x (wipe σ vs) H' fun σ2 H2 => wipe σ2 vs = wipe σ vs ∧ tYes σ2 H2 fun b H3 =>
        if b = true then te σ2 H3 fun y H4 => ∃ acc, H4 D = some (.lst acc) ∧ acc.length < sizeLine ∧ Nx (upd H4 D (.lst (acc ++ [y]))) else Nx H3) :=
  lc_map w (Q := fun v H => gName j v σ H nx) R hn hG hR hY hs gm hd
/-- name = a comprehension with a test -/
theorem fil_set (w : Walk J n G Y) {g : TG} {tt : TT} {te : TE} {vs : List Nat} {σ : L2.St} {H1 : Hp} {j : Nat} {nx : L2.St → Hp → Prop} (R : Nat → V → Hp → Prop) (keep : Nat → Bool) (hn : n < sizeLine) (hG : ∀ H, Same H1 H → G H) (hR : ∀ i y H H', KT H H' → R i y H → R i y H')
    (hY : ∀ i H x H', Y i H x H' → Same H H')
    (hs : ∀ (i : Nat) (x : V) (H H' : Hp) (yes : V → Hp → Prop) (no : Hp → Prop), i < n → Same H1 H → Same H1 H' → Y i H x H' → (∀ y H4, keep i = true → Same H' H4 → R i y H4 → yes y H4) → (∀ H3, keep i = false → Same H' H3 → no H3) →
      g x (wipe σ vs) H' fun σ2 H2 => wipe σ2 vs = wipe σ vs ∧ tt σ2 H2 fun b H3 => if b = true then te σ2 H3 fun y H4 => yes y H4 else no H3)
    (hd : ∀ p H' ys, Same H1 H' → H1 p = none → H' p = some (.lst ys) → Paired (fun i y => R i y H') ((List.range n).filter keep) ys → nx (σ.set j (some (.ref p))) H') :
    ∀ D, H1 D = none → ∃ W : Nat → Nat → Hp → Prop, (∃ m, W 0 m (upd H1 D (.lst []))) ∧ ∀ i m H, W i m H →
      (J.stop i H ∧ gName j (.ref D) σ H nx) ∨ (J.go i H ∧ ∃ Nx : Hp → Prop, (∀ H', Nx H' → ∃ m', m' < m ∧ W (i + 1) m' H') ∧ ∀ x H', J.yld i H x H' → g x (wipe σ vs) H' fun σ2 H2 => wipe σ2 vs = wipe σ vs ∧ tt σ2 H2 fun b H3 =>
        if b = true then te σ2 H3 fun y H4 => ∃ acc, H4 D = some (.lst acc) ∧ acc.length < sizeLine ∧ Nx (upd H4 D (.lst (acc ++ [y]))) else Nx H3) :=
  lc_fil w (Q := fun v H => gName j v σ H nx) R keep hn hG hR hY hs hd
end
theorem filter_range {α : Type} (p : α → Bool) (l : List α) (d : α) : l.filter p = ((List.range l.length).filter fun i => p (l.getD i d)).map fun i => l.getD i d := by
  have e : l = (List.range l.length).map fun i => l.getD i d := by
    have := map_range id l d
    simpa using this
  conv => lhs; rw [e, List.filter_map]
  rfl
theorem red_left {k : Kd} {n : Nat} (M : List (Vc (El k) n)) : ∀ m, (redTo M m).left.length = M.length
  | 0 => rfl
  | m + 1 => by
    show (rstep (redTo M m) m).left.length = _
    unfold rstep
    split
    · exact red_left M m
    · rw [List.length_map]; exact red_left M m
theorem red_piv {k : Kd} {n : Nat} (M : List (Vc (El k) n)) : ∀ m, (redTo M m).piv.length ≤ m
  | 0 => Nat.le_refl _
  | m + 1 => by
    show (rstep (redTo M m) m).piv.length ≤ _
    unfold rstep
    have := red_piv M m
    split
    · omega
    · rw [List.length_append]
      show _ + 1 ≤ _
      omega
theorem iv_ne0 {k : Kd} (x : El k) : decide (iv x = V.int 0) = decide (x = 0) := iv_eq0 x

def p_reduced (K : PySem.W.Frag) (a b c : V) (H : Hp) (Q : VK) : Prop := ∃ (k : Kd) (n : Nat) (M : List (Vc (El k) n)), Fd K H a k ∧ RowsE H b M ∧ c = .int n ∧ M.length ≤ 1000 ∧ n ≤ 1000 ∧
  ∀ p t a2 H', Same H H' → H' p = some (.tup [t, .ref a2]) → RowsT H' t (redT M) → H' a2 = some (.tup (pl (redP M))) → Q (.ref p) H'
theorem c_reduced (T : Tx K mg) : Cal P w K mg base 5 "reduced" ["field", "rows", "width"] (sp3 (p_reduced K)) :=
  cal_of (d := d_reduced) (lv := 4) (i := 7) (j := 7) T rfl rfl rfl rfl rfl (keep_of (d := d_reduced) (i := 7) T rfl) (S := ⟨rfl, rfl, rfl, by decide +kernel, rfl, by decide +kernel, by decide +kernel⟩) (N := ["field", "rows", "width", "left", "table", "pivots", "at", "heads", "lead", "row"]) (fun _ _ _ _ _ _ us hl => match us, hl with | [_, _, _], _ => rfl) len3 <| fun f cdv A outer s H vs Q E hr h => by
    obtain ⟨v0, v1, v2, rfl, h⟩ := h
    have nd : (["field", "rows", "width", "left", "table", "pivots", "at", "heads", "lead", "row"] : List Str).Nodup := by decide +kernel
    refine ⟨_, (pss_cons (ps_setLc (i := 3) (own := [("row", 9)]) (g := (gName 9)) (tt := tYes) rfl nd rfl rfl (sw_true rfl rfl rfl (by decide +kernel)) (pi_or (pi_tupK K (pv 1)) (pi_listK K (pv 1))) (blkOk_by (by kernel_rfl)) (fun _ _ _ _ _ => (pg_name (i := 9) nd rfl (Or.inl rfl))) (fun _ _ _ _ _ => pts_nil) (fun _ _ _ _ _ => (pe_callTy (call_tuple_ofK K) (by rfl) T.tuple boot_tuple (pa_cons (pv 9) pa_nil)))) (pss_cons (ps_set (i := 4) nd rfl (Or.inl rfl) (pe_lst pa_nil)) (pss_cons (ps_set (i := 5) nd rfl (Or.inl rfl) (pe_lst pa_nil)) (pss_cons (ps_for PassesOwn.never rfl (pi_range1 (by rfl) T.range (pa_cons (pv 2) pa_nil)) (pg_name (i := 6) nd rfl (Or.inr rfl)) (pss_cons (ps_setLc (i := 7) (own := [("row", 9)]) (g := (gName 9)) rfl nd rfl rfl (sw_true rfl rfl rfl (by decide +kernel)) (pi_listK K (pv 3)) (blkOk_by (by kernel_rfl)) (fun _ _ _ _ _ => (pg_name (i := 9) nd rfl (Or.inl rfl))) (fun _ _ _ _ _ => (pts_one (pt_cmpR op_ne (pe_ix (ix_tupK K) (pv 9) (pv 6) (fun _ _ => rfl)) pe_int (nomark _)))) (fun _ _ _ _ _ => (pv 9))) (pss_one (ps_if (pt_cmpR op_gt (pe_callB (call_len_seqK K) (by rfl) T.len PySem.boot_len (pa_cons (pv 7) pa_nil)) pe_int (nomark _)) (pss_cons (ps_set (i := 8) nd rfl (Or.inr rfl) (pe_cal (c_scaled T) (hr.mono (by decide)) (by rfl) (pa_cons (pv 0) (pa_cons (pe_ix (ix_listK K) (pv 7) pe_int (fun _ _ => rfl)) (pa_cons (pe_calM (pv 0) (m_Field_inverse T) (hr.mono (by decide)) (pa_cons (pe_ix (ix_tupK K) (pe_ix (ix_listK K) (pv 7) pe_int (fun _ _ => rfl)) (pv 6) (fun _ _ => rfl)) pa_nil)) pa_nil))))) (pss_cons (ps_setLc (i := 3) (own := [("row", 9)]) (g := (gName 9)) (tt := tYes) rfl nd rfl rfl (sw_true rfl rfl rfl (by decide +kernel)) (pi_listK K (pv 3)) (blkOk_by (by kernel_rfl)) (fun _ _ _ _ _ => (pg_name (i := 9) nd rfl (Or.inl rfl))) (fun _ _ _ _ _ => pts_nil) (fun _ _ _ _ _ => (pe_cal (c_cleared T) (hr.mono (by decide)) (by rfl) (pa_cons (pv 0) (pa_cons (pv 9) (pa_cons (pv 8) (pa_cons (pv 6) pa_nil))))))) (pss_cons (ps_set (i := 4) nd rfl (Or.inl rfl) (pe_op op_cat (pe_lc (own := [("row", 9)]) (g := (gName 9)) (tt := tYes) rfl nd (pi_listK K (pv 4)) (blkOk_by (by kernel_rfl)) (fun _ _ _ _ _ => (pg_name (i := 9) nd rfl (Or.inl rfl))) (fun _ _ _ _ _ => pts_nil) (fun _ _ _ _ _ => (pe_cal (c_cleared T) (hr.mono (by decide)) (by rfl) (pa_cons (pv 0) (pa_cons (pv 9) (pa_cons (pv 8) (pa_cons (pv 6) pa_nil))))))) (pe_lst (pa_cons (pv 8) pa_nil)))) (pss_one (ps_expr (pe_bm PySem.F.plainAttrs_list PySem.F.slot_list_append PySem.F.type_list_append mt_append (pv 5) (pa_cons (pv 6) pa_nil))))))) pss_nil)))) (pss_one (ps_ret (pe_tup (pa_cons (pe_callTy (call_tuple_ofK K) (by rfl) T.tuple boot_tuple (pa_cons (pv 4) pa_nil)) (pa_cons (pe_callTy (call_tuple_ofK K) (by rfl) T.tuple boot_tuple (pa_cons (pv 5) pa_nil)) pa_nil))))))))), ?_⟩
    obtain ⟨k, n, M, hf, ⟨ar, rs, rfl, hr', hM⟩, rfl, lM, hn, q⟩ := h
    have lr : rs.length = M.length := Paired.len hM
    refine seq_two hr' rfl fun J wk => ?_
    refine lc_set wk (fun j z H => Row H z (M.getD j (Vc.nul (El k) n))) (small_n (by omega)) (fun H' s => s) (fun _ _ _ _ s z => z.kt s) yAt_same (fun j z H1 H2 yes hj s1 s2 hz hyes => ?_) gName_mono fun aL H1 ys s1 nL hL pr => ?_
    · obtain ⟨rfl, e1⟩ := hz
      obtain ⟨ax, rfl, hx⟩ := (rowsP_get hM e1).mono s2
      exact ⟨rfl, _, rfl, _, _, rfl, .inr ⟨tq hx, hyes _ _ (Same.refl _) ⟨ax, rfl, hx⟩⟩⟩
    have hL1 : LL H1 aL (redTo M 0).left := ⟨ys, hL, by
      show RowsP H1 M ys
      rw [rows_range M]
      rw [lr] at pr
      exact rowsP_of pr⟩
    refine ⟨by decide, fun aT nT => ?_⟩
    have sT := upd_none (o := .lst []) nT
    refine ⟨by decide, fun aP nP => ?_⟩
    have sP := upd_none (o := .lst []) nP
    have s0 := (s1.trans sT).trans sP
    have nPH : H aP = none := (s1.trans sT).free nP
    refine ⟨_, rfl, _, rfl, by omega, by omega, ?_⟩
    rw [Int.toNat_natCast]
    refine for_it walk_rg (fun i σ H' => Same H H' ∧ ∃ aL aT aP c6 c7 c8, σ = [some v0, some (.ref ar), some (.int n), some (.ref aL), some (.ref aT), some (.ref aP), c6, c7, c8, none] ∧ LL H' aL (redTo M i).left ∧ LL H' aT (redTo M i).table ∧ H' aP = some (.lst (pl (redTo M i).piv)) ∧ aL ≠ aP ∧ aT ≠ aP ∧ H aP = none) ?_ (fun _ _ _ _ _ => trivial) (fun i x σ H1 H2 hi hp hx => ?_) fun σ H' hp => ?_
    · refine ⟨s0, aL, aT, aP, none, none, none, rfl, hL1.mono (sT.trans sP), ⟨[], sP _ _ upd_same, .nil⟩, upd_same, ?_, ?_, nPH⟩
      · exact fun e => by rw [← e, (hL1.mono sT).choose_spec.1] at nP; cases nP
      · exact fun e => by rw [← e, upd_same] at nP; cases nP
    · obtain ⟨rfl, rfl⟩ := hx
      obtain ⟨s1, aL, aT, aP, c6, c7, c8, rfl, ⟨ls, eL, pL⟩, ⟨ts, eT, pT⟩, eP, n1, n2, nP⟩ := hp
      have hls : ls.length = M.length := (Paired.len pL).trans (red_left M i)
      have hts : ts.length ≤ n := by
        rw [Paired.len pT, (redTo_inv M i).len]
        exact Nat.le_trans (red_piv M i) (Nat.le_of_lt hi)
      refine ⟨_, rfl, _, rfl, ⟨_, lq' eL⟩, ?_⟩
      refine fil_set walk_list (fun j z H => Row H z ((redTo M i).left.getD j (Vc.nul (El k) n))) (fun j => decide (((redTo M i).left.getD j (Vc.nul (El k) n)).f i ≠ 0)) (small_n (by omega)) (fun H' s => lq' (s _ _ eL)) (fun _ _ _ _ s z => z.kt s) yAt_same (fun j z H3 H4 yes no hj s3 s4 hz hyes hno => ?_) fun aH H2 hs s2 nH eH pH => ?_
      · obtain ⟨rfl, e1⟩ := hz
        obtain ⟨ax, rfl, hx⟩ := (rowsP_get pL e1).mono s4
        refine ⟨rfl, _, rfl, _, rfl, _, _, _, _, rfl, rfl, tq hx, atI_nat (vl_at _ hi), rfl, _, rfl, ?_⟩
        show if (!decide (iv _ = V.int 0)) = true then _ else _
        rw [iv_eq0]
        by_cases c : ((redTo M i).left.getD j (Vc.nul (El k) n)).f i = 0
        · rw [decide_eq_true c]
          exact iteF (hno _ (decide_eq_false (not_not_intro c)) (Same.refl _))
        · rw [decide_eq_false c]
          exact iteT ⟨_, rfl, hyes _ _ (decide_eq_true c) (Same.refl _) ⟨ax, rfl, hx⟩⟩
      · have hh : RowsP H2 (heads (redTo M i).left i) hs := by
          unfold heads
          rw [filter_range _ (redTo M i).left (Vc.nul (El k) n)]
          rw [Paired.len pL] at pH
          exact Paired.of_map pH
        refine ⟨_, rfl, _, _, rfl, .inl (lq' eH), _, _, rfl, rfl, _, rfl, ?_⟩
        cases eh : heads (redTo M i).left i with
        | nil =>
          rw [eh] at hh
          have e0 : hs.length = 0 := Paired.len hh
          rw [e0]
          refine iteF ?_
          have er : redTo M (i + 1) = redTo M i := rstep_nil eh
          exact ⟨s1.trans s2, aL, aT, aP, _, _, c8, rfl, er ▸ ⟨ls, s2 _ _ eL, pL.kt s2.kt⟩, er ▸ ⟨ts, s2 _ _ eT, pT.kt s2.kt⟩, er ▸ s2 _ _ eP, n1, n2, nP⟩
        | cons hd tl =>
          rw [eh] at hh
          obtain ⟨hne, hmem⟩ : hd.f i ≠ 0 ∧ True := ⟨(heads_cons eh).2, trivial⟩
          obtain ⟨vh, rs', rfl, hv⟩ : ∃ vh rs', hs = vh :: rs' ∧ Row H2 vh hd := by
            cases hh with
            | cons a t => exact ⟨_, _, rfl, a⟩
          have e0 : decide ((0 : Int) < ((vh :: rs').length : Nat)) = true := decide_eq_true (by simp)
          rw [e0]
          refine iteT ?_
          obtain ⟨ah, rfl, hv⟩ := hv
          have at0 : atI (V.ref ah :: rs') 0 = some (V.ref ah) := atI_nat (j := 0) rfl
          have f2 := hf.mono (s1.trans s2)
          refine ⟨_, rfl, _, rfl, _, _, _, _, rfl, rfl, lq' eH, at0, _, rfl, mF f2 (fd_no k) ⟨_, rfl, _, _, _, _, rfl, rfl, lq' eH, at0, _, rfl, _, _, _, _, rfl, rfl, tq hv, atI_nat (vl_at _ hi), _, _, rfl, k, _, f2, rfl, hne, ?_⟩⟩
          refine ⟨_, _, _, rfl, k, n, hd, _, f2, ⟨ah, rfl, hv⟩, rfl, hn, fun rl H3 s3 h3 => ?_⟩
          have er : redTo M (i + 1) = ⟨(redTo M i).left.map (clr (hd.sc (hd.f i)⁻¹) i), (redTo M i).table.map (clr (hd.sc (hd.f i)⁻¹) i) ++ [hd.sc (hd.f i)⁻¹], (redTo M i).piv ++ [i]⟩ := rstep_cons eh
          rw [er]
          have s13 := s2.trans s3
          refine ⟨_, rfl, _, rfl, ⟨_, lq' (s13 _ _ eL)⟩, ?_⟩
          refine lc_set walk_list (fun j z H => Row H z (clr (hd.sc (hd.f i)⁻¹) i ((redTo M i).left.getD j (Vc.nul (El k) n)))) (small_n (by omega)) (fun H' s => lq' (s _ _ (s13 _ _ eL))) (fun _ _ _ _ s z => z.kt s) yAt_same (fun j z H5 H6 yes hj s5 s6 hz hyes => ?_) gName_mono fun aL' H4 ls' s4 nL' eL' pL' => ?_
          · obtain ⟨rfl, e1⟩ := hz
            exact ⟨rfl, _, rfl, _, rfl, _, rfl, _, rfl, _, _, _, _, rfl, k, n, i, _, _, hf.mono ((s1.trans s13).trans s6), (rowsP_get pL e1).mono (s13.trans s6), h3.mono s6, rfl, hi, hn, hyes⟩
          have s14 := s13.trans s4
          refine ⟨_, rfl, _, rfl, ⟨_, lq' (s14 _ _ eT)⟩, ?_⟩
          refine lc_lst (Q := fun x H1 => tLst (tCons (tVar 8) tNil) _ H1 fun y H2 => rCat x y H2 _) walk_list (fun j z H => Row H z (clr (hd.sc (hd.f i)⁻¹) i ((redTo M i).table.getD j (Vc.nul (El k) n)))) (small_n (by omega)) (fun H' s => lq' (s _ _ (s14 _ _ eT))) (fun _ _ _ _ s z => z.kt s) yAt_same (fun j z H5 H6 yes hj s5 s6 hz hyes => ?_) gName_mono fun aT' H5 ts' s5 eT' pT' => ?_
          · obtain ⟨rfl, e1⟩ := hz
            exact ⟨rfl, _, rfl, _, rfl, _, rfl, _, rfl, _, _, _, _, rfl, k, n, i, _, _, hf.mono ((s1.trans s14).trans s6), (rowsP_get pT e1).mono (s14.trans s6), h3.mono (s4.trans s6), rfl, hi, hn, hyes⟩
          have lts' : ts'.length = ts.length := (Paired.len pT').trans List.length_range
          refine ⟨_, rfl, (by decide : (1 : Nat) ≤ sizeLine), fun aZ nZ => ⟨_, _, _, _, rfl, rfl, upd_none (o := .lst [rl]) nZ _ _ eT', upd_same, ?_, fun aN nN => ?_⟩⟩
          · rw [lts']
            exact Nat.le_trans (Nat.add_le_add_right (Nat.le_trans hts hn) 1) (by decide)
          have sZ := upd_none (o := .lst [rl]) nZ
          have sN := upd_none (o := .lst (ts' ++ [rl])) nN
          have s15 := ((s14.trans s5).trans sZ).trans sN
          have eP' := s15 _ _ eP
          have lp : (pl (redTo M i).piv).length < sizeLine := by
            rw [List.length_map]
            exact small_n (Nat.le_trans (red_piv M i) (by omega))
          refine ⟨_, rfl, .inl ⟨rfl, _, lq' eP'⟩, _, rfl, _, _, _, rfl, rfl, eP', lp, ?_⟩
          have m1 : aL' ≠ aP := fun e => by
            rw [e, s13 _ _ eP] at nL'
            cases nL'
          have m2 : aN ≠ aP := fun e => by
            rw [e, ((s14.trans s5).trans sZ) _ _ eP] at nN
            cases nN
          have lL : LL H4 aL' ((redTo M i).left.map (clr (hd.sc (hd.f i)⁻¹) i)) := ⟨ls', eL', by
            rw [map_range _ (redTo M i).left (Vc.nul (El k) n), ← Paired.len pL]
            exact rowsP_of pL'⟩
          have lT : LL (upd (upd H5 aZ (.lst [rl])) aN (.lst (ts' ++ [rl]))) aN ((redTo M i).table.map (clr (hd.sc (hd.f i)⁻¹) i) ++ [hd.sc (hd.f i)⁻¹]) := ⟨_, upd_same, Paired.append' (RowsP.kt (by
            rw [map_range _ (redTo M i).table (Vc.nul (El k) n), ← Paired.len pT]
            exact rowsP_of pT') (sZ.trans sN).kt) (.cons (h3.mono (((s4.trans s5).trans sZ).trans sN)) .nil)⟩
          refine ⟨(s1.trans s15).upd nP, aL', aN, aP, _, _, _, rfl, (lL.mono ((s5.trans sZ).trans sN)).at m1 eP', lT.at m2 eP', ?_, m1, m2, nP⟩
          rw [upd_same]
          show some (HO.lst (pl _ ++ [_])) = some (HO.lst (pl (_ ++ [i])))
          rw [pl, pl, List.map_append]
          rfl
    · obtain ⟨s1, aL, aT, aP, c6, c7, c8, rfl, _, ⟨ts, eT, pT⟩, eP, n1, n2, nP⟩ := hp
      refine ⟨_, rfl, _, _, rfl, .inl ⟨lq' eT, fun b1 nb1 => ?_⟩⟩
      have sb1 := upd_none (o := .tup ts) nb1
      refine ⟨_, rfl, _, _, rfl, .inl ⟨lq' (sb1 _ _ eP), fun b2 nb2 => ?_⟩⟩
      have sb2 := upd_none (o := .tup (pl (redTo M n).piv)) nb2
      refine ⟨(by decide : (2 : Nat) ≤ sizeLine), fun b3 nb3 => ?_⟩
      have sb3 := upd_none (o := .tup [.ref b1, .ref b2]) nb3
      exact q b3 (.ref b1) b2 _ (((s1.trans sb1).trans sb2).trans sb3) upd_same ⟨b1, ts, rfl, sb3 _ _ (sb2 _ _ upd_same), pT.kt ((sb1.trans sb2).trans sb3).kt⟩ (sb3 _ _ upd_same)


def p_span (K : PySem.W.Frag) (a b c : V) (H : Hp) (Q : VK) : Prop := ∃ (k : Kd) (n : Nat) (M : List (Vc (El k) n)), Fd K H a k ∧ RowsE H b M ∧ c = .int n ∧ M.length ≤ 1000 ∧ n ≤ 1000 ∧ ∀ r H', Same H H' → RowsT H' r (redT M) → Q r H'
theorem c_span (T : Tx K mg) : Cal P w K mg base 6 "span" ["field", "rows", "width"] (sp3 (p_span K)) :=
  cal_of (d := d_span) (lv := 5) (i := 8) (j := 8) T rfl rfl rfl rfl rfl (keep_of (d := d_span) (i := 8) T rfl) (S := ⟨rfl, rfl, rfl, by decide +kernel, rfl, by decide +kernel, by decide +kernel⟩) (N := ["field", "rows", "width"]) (fun _ _ _ _ _ _ us hl => match us, hl with | [_, _, _], _ => rfl) len3 <| fun f cdv A outer s H vs Q E hr h => by
    obtain ⟨v0, v1, v2, rfl, h⟩ := h
    have nd : (["field", "rows", "width"] : List Str).Nodup := by decide +kernel
    refine ⟨_, (pss_one (ps_ret (pe_ix (ix_tupK K) (pe_cal (c_reduced T) (hr.mono (by decide)) (by rfl) (pa_cons (pv 0) (pa_cons (pv 1) (pa_cons (pv 2) pa_nil)))) pe_int (fun _ _ => rfl)))), ?_⟩
    obtain ⟨k, n, M, hf, hM, rfl, lM, hn, q⟩ := h
    refine ⟨_, rfl, _, rfl, _, rfl, _, _, _, rfl, k, n, M, hf, hM, rfl, lM, hn, fun p t a2 H' s1 e1 ht e2 => ?_⟩
    exact ⟨_, _, _, _, rfl, rfl, tq e1, atI_nat (j := 0) rfl, q _ _ s1 ht⟩


end
end Wit

namespace Wit
open PySem PySem.Spec PyProof.Rows L2
section
variable {P : Program} {w : World} {K : PySem.W.Frag} {mg : Str → Option Value} {base : Heap}

/-! ### equality of rows and of tables of rows -/
def zs {k : Kd} {n : Nat} (x : Vc (El k) n) : List Int := (List.range n).map fun i => ((x.f i).val : Int)
theorem vl_zs {k : Kd} {n : Nat} (x : Vc (El k) n) : vl x = (zs x).map V.int := by
  unfold vl zs
  rw [List.map_map]
  rfl
theorem zs_inj {k : Kd} {n : Nat} {x y : Vc (El k) n} : zs x = zs y ↔ x = y := ⟨fun h => vl_inj (by rw [vl_zs, vl_zs, h]), fun h => by rw [h]⟩
theorem dp_ints {H : Hp} : ∀ l : List Int, DpAll K H (l.map V.int) (l.map PyData.int)
  | [] => .nil
  | i :: l => .cons (.int i) (dp_ints l)
def rowD {k : Kd} {n : Nat} (x : Vc (El k) n) : PyData := .tuple ((zs x).map PyData.int)
theorem dp_row {k : Kd} {n : Nat} {H : Hp} {v : V} {x : Vc (El k) n} (r : Row H v x) : Dp K H v (rowD x) := by
  obtain ⟨a, rfl, h⟩ := r
  rw [vl_zs] at h
  exact .tup (tq h) (dp_ints _)
theorem row_lay {k : Kd} {n : Nat} (x : Vc (El k) n) : (rowD x).canLay0 = true := by
  unfold rowD
  rw [PyData.canLay0]
  exact PySem.W.ke_canLayAll0 _
theorem ints_depth : ∀ l : List Int, PyData.depthAll (l.map PyData.int) = 0
  | [] => rfl
  | i :: l => by rw [List.map_cons, PyData.depthAll, ints_depth l]; rfl
theorem row_depth {k : Kd} {n : Nat} (x : Vc (El k) n) : (rowD x).depth = 1 := by
  unfold rowD
  rw [PyData.depth, ints_depth]
theorem row_shaped {k : Kd} {n : Nat} (x : Vc (El k) n) : SeqAt.shaped (rowD x) = true := by
  unfold SeqAt.shaped
  rw [row_lay, row_depth]
  rfl
instance {k : Kd} {n : Nat} : DecidableEq (Vc (El k) n) := fun _ _ => decidable_of_iff _ zs_inj
theorem row_eqv {k : Kd} {n : Nat} (x y : Vc (El k) n) : PyData.eqv (rowD x) (rowD y) = decide (x = y) := by
  unfold rowD
  rw [PyData.eqv, PySem.W.ked_eqvAll]
  exact decide_eq_decide.mpr zs_inj
theorem ints_shaped (l : List Int) : SeqAt.shaped (.tuple (l.map PyData.int)) = true := by
  unfold SeqAt.shaped
  rw [PyData.canLay0, PySem.W.ke_canLayAll0, PyData.depth, ints_depth]
  rfl
def matD {k : Kd} {n : Nat} (M : List (Vc (El k) n)) : PyData := .tuple (M.map rowD)
theorem dp_rows {k : Kd} {n : Nat} {H : Hp} : ∀ {M : List (Vc (El k) n)} {rs : List V}, RowsP H M rs → DpAll K H rs (M.map rowD)
  | _, _, .nil => .nil
  | _, _, .cons a t => .cons (dp_row a) (dp_rows t)
theorem dp_mat {k : Kd} {n : Nat} {H : Hp} {v : V} {M : List (Vc (El k) n)} (r : RowsT H v M) : Dp K H v (matD M) := by
  obtain ⟨a, rs, rfl, h, p⟩ := r
  exact .tup (tq h) (dp_rows p)
theorem mat_lay {k : Kd} {n : Nat} : ∀ M : List (Vc (El k) n), PyData.canLayAll0 (M.map rowD) = true
  | [] => by rw [List.map_nil, PyData.canLayAll0]
  | x :: M => by rw [List.map_cons, PyData.canLayAll0, row_lay, mat_lay M]; rfl
theorem mat_depth {k : Kd} {n : Nat} : ∀ M : List (Vc (El k) n), PyData.depthAll (M.map rowD) ≤ 1
  | [] => by rw [List.map_nil, PyData.depthAll]; exact Nat.zero_le _
  | x :: M => by
    rw [List.map_cons, PyData.depthAll, row_depth]
    have := mat_depth M
    omega
theorem mat_shaped {k : Kd} {n : Nat} (M : List (Vc (El k) n)) : SeqAt.shaped (matD M) = true := by
  unfold SeqAt.shaped matD
  rw [PyData.canLay0, mat_lay, PyData.depth]
  have := mat_depth M
  exact decide_eq_true (by omega)
theorem mat_eqv {k : Kd} {n : Nat} : ∀ M : List (Vc (El k) n), PyData.eqvAll (M.map rowD) (M.map rowD) = true
  | [] => by rw [List.map_nil, PyData.eqvAll]
  | x :: M => by rw [List.map_cons, PyData.eqvAll, row_eqv, decide_eq_true rfl, mat_eqv M]; rfl
theorem mat_eqv' {k : Kd} {n : Nat} (M : List (Vc (El k) n)) : PyData.eqv (matD M) (matD M) = true := by
  unfold matD
  rw [PyData.eqv]
  exact mat_eqv M
theorem ixN_n {n j : Nat} (h : j < n) : ixN n (j : Int) = some j := by
  unfold ixN
  rw [if_pos (by omega), if_pos (by omega)]
  rfl
theorem found_len {k : Kd} {n : Nat} (M : List (Vc (El k) n)) : (found M).length ≤ n := by
  unfold found free
  rw [List.length_map]
  exact Nat.le_trans (List.length_filter_le _ _) (Nat.le_of_eq List.length_range)
/-! ### the kernel -/
theorem kset_snoc {k : Kd} {n : Nat} (fr : Nat) (line : Vc (El k) n) (a : Nat) : ∀ (l : List (Vc (El k) n × Nat)) (g : Nat → El k), kset fr (l ++ [(line, a)]) g = fun i => if i = a then -(line.f fr) else kset fr l g i
  | [], _ => rfl
  | (x, b) :: l, g => kset_snoc fr line a l _
theorem set_range {n a : Nat} (f : Nat → V) (y : V) : ((List.range n).map f).set a y = (List.range n).map fun i => if i = a then y else f i := by
  apply List.ext_getElem
  · simp
  · intro i h1 h2
    simp only [List.getElem_set, List.getElem_map, List.getElem_range]
    by_cases c : a = i
    · rw [if_pos c, if_pos c.symm]
    · rw [if_neg c, if_neg (Ne.symm c)]
theorem in_pl (i : Nat) : ∀ l : List Nat, inV (.int (i : Nat)) (pl l) = decide (i ∈ l)
  | [] => rfl
  | a :: l => by
    show (eqV (.int (a : Nat)) (.int (i : Nat)) || inV (.int (i : Nat)) (pl l)) = _
    rw [in_pl i l]
    show (((a : Int) == (i : Int)) || _) = _
    by_cases c : i = a
    · subst c
      simp
    · have : ¬ (a : Int) = (i : Int) := fun e => c (by omega)
      simp [c, this]
theorem pl_flat (l : List Nat) : (pl l).all flatV = true := by
  rw [List.all_map]
  exact List.all_eq_true.mpr fun _ _ => rfl
theorem pl_at {l : List Nat} {j a : Nat} (h : l[j]? = some a) : (pl l)[j]? = some (V.int (a : Nat)) := by simp [h]
theorem walk_tabs {a b : Addr} {us ws : List V} (h : us.length = ws.length) : Walk (RZ.ItzT K a b) ws.length (fun H => SqT K H a us ∧ SqT K H b ws) (YPair (fun i => us[i]?) (fun i => ws[i]?)) := walk_zipT (by rw [h, Nat.min_self])
theorem redP_lt {k : Kd} {n : Nat} (M : List (Vc (El k) n)) {j a : Nat} (h : (redP M)[j]? = some a) : a < n := (redTo_inv M n).piv a (List.mem_of_getElem? h)
theorem red_tp {k : Kd} {n : Nat} (M : List (Vc (El k) n)) : (redT M).length = (redP M).length := (redTo_inv M n).len

def p_kernel (K : PySem.W.Frag) (a b c : V) (H : Hp) (Q : VK) : Prop := ∃ (k : Kd) (n : Nat) (M : List (Vc (El k) n)), Fd K H a k ∧ RowsE H b M ∧ c = .int n ∧ M.length ≤ 1000 ∧ n ≤ 1000 ∧ ∀ r H', Same H H' → RowsT H' r (ker M) → Q r H'
theorem c_kernel (T : Tx K mg) : Cal P w K mg base 7 "kernel" ["field", "rows", "width"] (sp3 (p_kernel K)) :=
  cal_of (d := d_kernel) (lv := 6) (i := 9) (j := 9) T rfl rfl rfl rfl rfl (keep_of (d := d_kernel) (i := 9) T rfl) (S := ⟨rfl, rfl, rfl, by decide +kernel, rfl, by decide +kernel, by decide +kernel⟩) (N := ["field", "rows", "width", "table", "pivots", "found", "free", "row", "line", "at"]) (fun _ _ _ _ _ _ us hl => match us, hl with | [_, _, _], _ => rfl) len3 <| fun f cdv A outer s H vs Q E hr h => by
    obtain ⟨v0, v1, v2, rfl, h⟩ := h
    have nd : (["field", "rows", "width", "table", "pivots", "found", "free", "row", "line", "at"] : List Str).Nodup := by decide +kernel
    refine ⟨_, (pss_cons (ps_asg (pe_cal (c_reduced T) (hr.mono (by decide)) (by rfl) (pa_cons (pv 0) (pa_cons (pv 1) (pa_cons (pv 2) pa_nil)))) (pg_tupK K rfl (pgs_cons (pg_name (i := 3) nd rfl (Or.inl rfl)) (pgs_cons (pg_name (i := 4) nd rfl (Or.inl rfl)) pgs_nil)))) (pss_cons (ps_set (i := 5) nd rfl (Or.inl rfl) (pe_lst pa_nil)) (pss_cons (ps_for PassesOwn.never rfl (pi_range1 (by rfl) T.range (pa_cons (pv 2) pa_nil)) (pg_name (i := 6) nd rfl (Or.inl rfl)) (pss_one (ps_if (pt_cmpR (op_notIn_seqK K) (pv 6) (pv 4) (by rfl)) (pss_cons (ps_set (i := 7) nd rfl (Or.inl rfl) (pe_callTy (call_list_ofK K) (by rfl) T.list (by decide +kernel) (pa_cons (pe_cal (c_unit_row T) (hr.mono (by decide)) (by rfl) (pa_cons (pv 2) (pa_cons (pv 6) pa_nil))) pa_nil))) (pss_cons (ps_for PassesOwn.never rfl (pi_zipAK K (by rfl) T.zip (pa_cons (pv 3) (pa_cons (pv 4) pa_nil))) (pg_tupK K rfl (pgs_cons (pg_name (i := 8) nd rfl (Or.inl rfl)) (pgs_cons (pg_name (i := 9) nd rfl (Or.inl rfl)) pgs_nil))) (pss_one (ps_asg (pe_calM (pv 0) (m_Field_negative T) (hr.mono (by decide)) (pa_cons (pe_ix (ix_tupK K) (pv 8) (pv 6) (fun _ _ => rfl)) pa_nil)) (pg_sub (pv 7) (pv 9) set_list)))) (pss_one (ps_expr (pe_bm PySem.F.plainAttrs_list PySem.F.slot_list_append PySem.F.type_list_append mt_append (pv 5) (pa_cons (pe_callTy (call_tuple_ofK K) (by rfl) T.tuple boot_tuple (pa_cons (pv 7) pa_nil)) pa_nil)))))) pss_nil))) (pss_one (ps_ret (pe_cal (c_span T) (hr.mono (by decide)) (by rfl) (pa_cons (pv 0) (pa_cons (pv 5) (pa_cons (pv 2) pa_nil))))))))), ?_⟩
    obtain ⟨k, n, M, hf, hM, rfl, lM, hn, q⟩ := h
    refine ⟨_, rfl, _, rfl, _, rfl, _, _, _, rfl, k, n, M, hf, hM, rfl, lM, hn, fun p t a2 H1 s1 e1 ht e2 => ?_⟩
    obtain ⟨a1, ts, rfl, e3, hT⟩ := ht
    refine ⟨_, _, rfl, tq e1, rfl, _, _, rfl, _, _, rfl, rfl, ?_⟩
    refine ⟨by decide, fun aF nF => ?_⟩
    have sF := upd_none (o := .lst []) nF
    refine ⟨_, rfl, _, rfl, by omega, by omega, ?_⟩
    rw [Int.toNat_natCast]
    have lt : ts.length = (pl (redP M)).length := by rw [Paired.len hT, red_tp, List.length_map]
    have nFH : H1 aF = none := nF
    refine for_it walk_rg (fun i σ H' => Same H1 H' ∧ ∃ c6 c7 c8 c9, σ = [some v0, some v1, some (.int n), some (.ref a1), some (.ref a2), some (.ref aF), c6, c7, c8, c9] ∧ LL H' aF (((List.range i).filter fun a => decide (a ∉ redP M)).map (krow M))) ⟨sF, none, none, none, none, rfl, [], upd_same, .nil⟩ (fun _ _ _ _ _ => trivial) (fun i x σ H2 H3 hi hp hx => ?_) fun σ H' hp => ?_
    · obtain ⟨rfl, rfl⟩ := hx
      obtain ⟨s2, c6, c7, c8, c9, rfl, fs, eF, pF⟩ := hp
      refine ⟨_, rfl, _, rfl, _, _, rfl, .inr (tq (s2 _ _ e2)), rfl, pl_flat _, _, rfl, ?_⟩
      show if (!inV _ _) = true then _ else _
      rw [in_pl]
      by_cases c : i ∈ redP M
      · rw [decide_eq_true c]
        refine iteF ⟨s2, _, _, _, _, rfl, ?_⟩
        rw [List.range_succ, List.filter_append, List.filter_cons, if_neg (by simpa using c), List.filter_nil, List.append_nil]
        exact ⟨fs, eF, pF⟩
      rw [decide_eq_false c]
      refine iteT ?_
      refine ⟨_, rfl, _, rfl, _, _, rfl, k, n, i, rfl, rfl, hn, fun r H4 s4 hr4 => ?_⟩
      obtain ⟨au, rfl, hu⟩ := hr4
      refine ⟨_, _, rfl, .inr (tq hu), fun aR nR => ?_⟩
      have sR := upd_none (o := .lst (vl (Vc.un (El k) n i))) nR
      have s24 := s2.trans s4
      refine ⟨_, rfl, _, rfl, _, _, _, _, rfl, .inr ⟨tq (sR _ _ (s24 _ _ e3)), tq (sR _ _ (s24 _ _ e2)), ?_⟩⟩
      refine for_it (walk_tabs lt) (fun j σ H' => Same H4 H' ∧ ∃ c8 c9, σ = [some v0, some v1, some (.int n), some (.ref a1), some (.ref a2), some (.ref aF), some (.int i), some (.ref aR), c8, c9] ∧ H' aR = some (.lst ((List.range n).map fun l => iv (kset i (((redT M).zip (redP M)).take j) (Vc.un (El k) n i).f l)))) ⟨sR, _, _, rfl, upd_same⟩ (fun j σ H' _ hp => ⟨tq (hp.1 _ _ (s24 _ _ e3)), tq (hp.1 _ _ (s24 _ _ e2))⟩) (fun j z σ H5 H6 hj hp hz => ?_) fun σ H' hp => ?_
      · obtain ⟨s5, c8, c9, rfl, eR⟩ := hp
        obtain ⟨U, x, y, rfl, hU, rfl, x1, x2⟩ := y_pair hz
        have sU := upd_none (o := .tup [x, y]) hU
        have s46 := s5.trans sU
        have hx := (rowsP_get hT x1).mono (s24.trans s46)
        obtain ⟨ax, rfl, hx⟩ := hx
        rw [List.length_map] at hj
        have hj' : (redP M)[j]? = some (redP M)[j] := List.getElem?_eq_getElem hj
        rw [pl_at hj'] at x2
        cases x2
        have ha := redP_lt M hj'
        refine ⟨_, _, rfl, tq upd_same, rfl, _, _, rfl, _, _, rfl, rfl, ?_⟩
        have f6 := hf.mono ((s1.trans s24).trans s46)
        refine ⟨_, rfl, mF f6 (fd_no k) ⟨_, rfl, _, rfl, _, _, _, _, rfl, rfl, tq hx, atI_nat (vl_at _ hi), _, _, rfl, k, _, f6, rfl, ?_⟩⟩
        refine ⟨_, rfl, _, rfl, _, _, _, _, rfl, rfl, sU _ _ eR, ixN_n (j := (redP M)[j]) (by simpa using ha), s46.upd nR, _, _, rfl, ?_⟩
        rw [upd_same, set_range]
        have tk : ((redT M).zip (redP M)).take (j + 1) = ((redT M).zip (redP M)).take j ++ [((redT M).getD j (Vc.nul (El k) n), (redP M)[j])] := by
          have l1 : j < (redT M).length := by rw [red_tp]; exact hj
          have l2 : j < ((redT M).zip (redP M)).length := by rw [List.length_zip]; omega
          rw [List.take_add_one, List.getElem?_eq_getElem l2, List.getElem_zip]
          simp [List.getD, l1]
        rw [tk, kset_snoc]
        congr 2
        refine List.map_congr_left fun l _ => ?_
        by_cases c : l = (redP M)[j]
        · rw [if_pos c]
          exact congrArg iv (if_pos c).symm
        · rw [if_neg c]
          exact congrArg iv (if_neg c).symm
      · obtain ⟨s5, c8, c9, rfl, eR⟩ := hp
        have eF' := s5 _ _ (s4 _ _ eF)
        refine ⟨_, rfl, .inl ⟨rfl, _, lq' eF'⟩, _, rfl, _, _, rfl, .inl ⟨lq' eR, fun aK nK => ?_⟩⟩
        have sK := upd_none (o := .tup ((List.range n).map fun l => iv (kset i (((redT M).zip (redP M)).take (pl (redP M)).length) (Vc.un (El k) n i).f l))) nK
        have lf : fs.length ≤ i := by
          rw [Paired.len pF, List.length_map]
          exact Nat.le_trans (List.length_filter_le _ _) (Nat.le_of_eq List.length_range)
        refine ⟨_, _, _, rfl, rfl, sK _ _ eF', small_n (by omega), ?_⟩
        have sA : Same H1 _ := ((s24.trans s5).trans sK).upd (o := .lst (fs ++ [.ref aK])) nFH
        refine ⟨sA, _, _, _, _, rfl, _, upd_same, ?_⟩
        rw [List.range_succ, List.filter_append, List.filter_cons, if_pos (by simpa using c), List.filter_nil, List.map_append]
        have kt : KT _ (upd (upd H' aK (.tup ((List.range n).map fun l => iv (kset i (((redT M).zip (redP M)).take (pl (redP M)).length) (Vc.un (El k) n i).f l)))) aF (.lst (fs ++ [.ref aK]))) := kt_lst (sK _ _ eF')
        refine Paired.append' (RowsP.kt pF (KT.trans ((s4.trans s5).trans sK).kt kt)) (.cons ⟨aK, rfl, kt _ _ ?_ rfl⟩ .nil)
        rw [upd_same]
        congr 2
        refine List.map_congr_left fun l hl => ?_
        have hl := List.mem_range.mp hl
        unfold krow
        rw [Vc.of_f hl, List.take_of_length_le]
        rw [List.length_map, List.length_zip]
        omega
    · obtain ⟨s2, c6, c7, c8, c9, rfl, fs, eF, pF⟩ := hp
      refine ⟨_, rfl, _, rfl, _, rfl, _, _, _, rfl, k, n, found M, hf.mono (s1.trans s2), ⟨aF, fs, rfl, .inr eF, pF⟩, rfl, Nat.le_trans (found_len M) hn, hn, fun r H' s3 h3 => q r H' ((s1.trans s2).trans s3) h3⟩


end
end Wit

namespace Wit
open PySem PySem.Spec PyProof.Rows L2
section
variable {P : Program} {w : World} {K : PySem.W.Frag} {mg : Str → Option Value} {base : Heap}

theorem merge {R : L2.St → Hp → Prop} {A : Prop} {b : Bool} {σ : L2.St} {H : Hp} (Z : L2.St → Prop) (key : ∀ σ', Z σ' → R σ' H) (h1 : b = true → (∀ σ', Z σ' → R σ' H) → A) (h2 : Z σ) : if b = true then A else R σ H := by
  cases b with
  | true => exact iteT (h1 rfl key)
  | false => exact iteF (key _ h2)
theorem rowsP_erase {k : Kd} {n : Nat} {H : Hp} : ∀ {M : List (Vc (El k) n)} {rs : List V} {j : Nat}, RowsP H M rs → RowsP H (M.eraseIdx j) (rs.eraseIdx j)
  | _, _, _, .nil => .nil
  | _, _, 0, .cons _ t => t
  | _, _, _ + 1, .cons a t => .cons a (rowsP_erase t)
theorem seqIx {n j : Nat} (h : j < n) : seqIndex? (j : Int) n = some j := (ixN_seq (ixN_n h)).1
theorem heads_ix {k : Kd} {n : Nat} {L : List (Vc (El k) n)} {i : Nat} (h : ∃ x r, heads L i = x :: r) : ∃ j t, ((List.range L.length).filter fun j => decide ((L.getD j (Vc.nul (El k) n)).f i ≠ 0)) = j :: t ∧ j < L.length ∧ (L.getD j (Vc.nul (El k) n)).f i ≠ 0 := by
  obtain ⟨x, r, e⟩ := h
  unfold heads at e
  rw [filter_range _ L (Vc.nul (El k) n)] at e
  cases c : ((List.range L.length).filter fun j => decide ((L.getD j (Vc.nul (El k) n)).f i ≠ 0)) with
  | nil => rw [c] at e; cases e
  | cons j t =>
    have m : j ∈ ((List.range L.length).filter fun j => decide ((L.getD j (Vc.nul (El k) n)).f i ≠ 0)) := by rw [c]; exact List.mem_cons_self
    have m := List.mem_filter.mp m
    exact ⟨j, t, rfl, List.mem_range.mp m.1, of_decide_eq_true m.2⟩

def p_determinant (K : PySem.W.Frag) (a b : V) (H : Hp) (Q : VK) : Prop := ∃ (k : Kd) (n : Nat) (M : List (Vc (El k) n)), Fd K H a k ∧ RowsT H b M ∧ M.length = n ∧ n ≤ 1000 ∧ Full M 0 n ∧ ∀ (x : El k) H', Same H H' → x ≠ 0 → Q (iv x) H'
theorem c_determinant (T : Tx K mg) : Cal P w K mg base 5 "determinant" ["field", "matrix"] (sp2 (p_determinant K)) :=
  cal_of (d := d_determinant) (lv := 4) (i := 15) (j := 15) T rfl rfl rfl rfl rfl (keep_of (d := d_determinant) (i := 15) T rfl) (S := ⟨rfl, rfl, rfl, by decide +kernel, rfl, by decide +kernel, by decide +kernel⟩) (N := ["field", "matrix", "left", "found", "at", "heads", "head", "lead", "k", "row"]) (fun _ _ _ _ _ _ us hl => match us, hl with | [_, _], _ => rfl) len2 <| fun f cdv A outer s H vs Q E hr h => by
    obtain ⟨v0, v1, rfl, h⟩ := h
    have nd : (["field", "matrix", "left", "found", "at", "heads", "head", "lead", "k", "row"] : List Str).Nodup := by decide +kernel
    refine ⟨_, (pss_cons (ps_set (i := 2) nd rfl (Or.inr rfl) (pe_callTy (call_list_ofK K) (by rfl) T.list (by decide +kernel) (pa_cons (pv 1) pa_nil))) (pss_cons (ps_set (i := 3) nd rfl (Or.inl rfl) pe_int) (pss_cons (ps_for PassesOwn.never rfl (pi_range1 (by rfl) T.range (pa_cons (pe_callB (call_len_seqK K) (by rfl) T.len PySem.boot_len (pa_cons (pv 1) pa_nil)) pa_nil)) (pg_name (i := 4) nd rfl (Or.inr rfl)) (pss_cons (ps_setLc (i := 5) (own := [("k", 8)]) (g := (gName 8)) rfl nd rfl rfl (sw_true rfl rfl rfl (by decide +kernel)) (pi_range1 (by rfl) T.range (pa_cons (pe_callB (call_len_seqK K) (by rfl) T.len PySem.boot_len (pa_cons (pv 2) pa_nil)) pa_nil)) (blkOk_by (by kernel_rfl)) (fun _ _ _ _ _ => (pg_name (i := 8) nd rfl (Or.inl rfl))) (fun _ _ _ _ _ => (pts_one (pt_cmpR op_ne (pe_ix (ix_tupK K) (pe_ix (ix_listK K) (pv 2) (pv 8) (fun _ _ => rfl)) (pv 4) (fun _ _ => rfl)) pe_int (nomark _)))) (fun _ _ _ _ _ => (pv 8))) (pss_cons (ps_if (pt_cmpR op_eq (pe_callB (call_len_seqK K) (by rfl) T.len PySem.boot_len (pa_cons (pv 5) pa_nil)) pe_int (nomark _)) (pss_one (ps_ret pe_int)) pss_nil) (pss_cons (ps_set (i := 6) nd rfl (Or.inl rfl) (pe_bm PySem.F.plainAttrs_list PySem.F.slot_list_pop PySem.F.type_list_pop mt_popAt (pv 2) (pa_cons (pe_ix (ix_listK K) (pv 5) pe_int (fun _ _ => rfl)) pa_nil))) (pss_cons (ps_if (pt_cmpR op_eq (pe_op op_mod (pe_ix (ix_listK K) (pv 5) pe_int (fun _ _ => rfl)) pe_int) pe_int (nomark _)) (pss_one (ps_set (i := 3) nd rfl (Or.inl rfl) (pe_calM (pv 0) (m_Field_negative T) (hr.mono (by decide)) (pa_cons (pv 3) pa_nil)))) pss_nil) (pss_cons (ps_set (i := 3) nd rfl (Or.inl rfl) (pe_calM (pv 0) (m_Field_multiply T) (hr.mono (by decide)) (pa_cons (pv 3) (pa_cons (pe_ix (ix_tupK K) (pv 6) (pv 4) (fun _ _ => rfl)) pa_nil)))) (pss_cons (ps_set (i := 7) nd rfl (Or.inr rfl) (pe_cal (c_scaled T) (hr.mono (by decide)) (by rfl) (pa_cons (pv 0) (pa_cons (pv 6) (pa_cons (pe_calM (pv 0) (m_Field_inverse T) (hr.mono (by decide)) (pa_cons (pe_ix (ix_tupK K) (pv 6) (pv 4) (fun _ _ => rfl)) pa_nil)) pa_nil))))) (pss_one (ps_set (i := 2) nd rfl (Or.inr rfl) (pe_lc (own := [("row", 9)]) (g := (gName 9)) (tt := tYes) rfl nd (pi_listK K (pv 2)) (blkOk_by (by kernel_rfl)) (fun _ _ _ _ _ => (pg_name (i := 9) nd rfl (Or.inl rfl))) (fun _ _ _ _ _ => pts_nil) (fun _ _ _ _ _ => (pe_cal (c_cleared T) (hr.mono (by decide)) (by rfl) (pa_cons (pv 0) (pa_cons (pv 9) (pa_cons (pv 7) (pa_cons (pv 4) pa_nil)))))))))))))))) (pss_one (ps_ret (pv 3)))))), ?_⟩
    obtain ⟨k, n, M, hf, ⟨am, ms, rfl, hm, hM⟩, lM, hn, hfull, q⟩ := h
    have lm : ms.length = n := by rw [Paired.len hM, lM]
    refine ⟨_, rfl, _, _, rfl, .inr (tq hm), fun aL nL => ?_⟩
    have sL := upd_none (o := .lst ms) nL
    refine ⟨_, rfl, _, _, rfl, .inr (tq (sL _ _ hm)), _, rfl, by omega, by omega, ?_⟩
    rw [Int.toNat_natCast, lm]
    refine for_it walk_rg (fun i σ H' => Same H H' ∧ ∃ (aL : Addr) (x : El k) (L : List (Vc (El k) n)) (c4 c5 c6 c7 : Option V), σ = [some v0, some (.ref am), some (.ref aL), some (iv x), c4, c5, c6, c7, none, none] ∧ LL H' aL L ∧ Full L i n ∧ L.length ≤ n ∧ x ≠ 0 ∧ H aL = none) ?_ (fun _ _ _ _ _ => trivial) (fun i z σ H1 H2 hi hp hz => ?_) fun σ H' hp => ?_
    · refine ⟨sL, aL, 1, M, none, none, none, none, ?_, ⟨ms, upd_same, hM.kt sL.kt⟩, hfull, Nat.le_of_eq lM, Ne.symm Lean.Grind.Field.zero_ne_one, nL⟩
      rw [← iv_one k]
      rfl
    · obtain ⟨rfl, rfl⟩ := hz
      obtain ⟨s1, aL, x, L, c4, c5, c6, c7, rfl, ⟨ls, eL, pL⟩, hF, hL, hx, nL⟩ := hp
      have ll : ls.length = L.length := Paired.len pL
      refine ⟨_, rfl, _, _, rfl, .inl (lq' eL), _, rfl, by omega, by omega, ?_⟩
      rw [Int.toNat_natCast, ll]
      refine fil_set walk_rg (fun j y _ => y = .int (j : Nat)) (fun j => decide ((L.getD j (Vc.nul (El k) n)).f i ≠ 0)) (small_n (by omega)) (fun _ _ => trivial) (fun _ _ _ _ _ z => z) yFn_same (fun j z H3 H4 yes no hj s3 s4 hz hyes hno => ?_) fun aH H2 hs s2 nH eH pH => ?_
      · obtain ⟨rfl, rfl⟩ := hz
        obtain ⟨y, ey, hy⟩ := rowsP_at pL hj
        obtain ⟨ax, rfl, hw⟩ := hy.mono s4
        refine ⟨rfl, _, rfl, _, rfl, _, _, _, _, rfl, rfl, lq' (s4 _ _ eL), atI_nat ey, _, rfl, _, _, _, _, rfl, rfl, tq hw, atI_nat (vl_at _ hi), rfl, _, rfl, ?_⟩
        show if (!decide (iv _ = V.int 0)) = true then _ else _
        rw [iv_eq0]
        by_cases c : (L.getD j (Vc.nul (El k) n)).f i = 0
        · rw [decide_eq_true c]
          exact iteF (hno _ (decide_eq_false (not_not_intro c)) (Same.refl _))
        · rw [decide_eq_false c]
          exact iteT ⟨_, rfl, hyes _ _ (decide_eq_true c) (Same.refl _) rfl⟩
      · have eh := Paired.eq_map pH
        obtain ⟨j, t, ej, hj, hne⟩ := heads_ix (hF.head hi)
        rw [ej] at eh
        subst eh
        refine ⟨_, rfl, _, _, rfl, .inl (lq' eH), rfl, _, rfl, ?_⟩
        have ez : decide (V.int ((List.map (fun (j : Nat) => V.int j) (j :: t)).length : Nat) = V.int 0) = false := decide_eq_false fun z => by
          injection z with z
          rw [List.length_map, List.length_cons] at z
          omega
        rw [ez]
        refine iteF ?_
        have at0 : atI (List.map (fun (j : Nat) => V.int j) (j :: t)) 0 = some (V.int (j : Nat)) := atI_nat (j := 0) rfl
        obtain ⟨y, ey, hy⟩ := rowsP_at pL hj
        obtain ⟨ax, rfl, hw⟩ := hy.mono s2
        have eL2 := s2 _ _ eL
        refine ⟨_, rfl, .inl ⟨rfl, _, lq' eL2⟩, _, rfl, _, _, _, _, rfl, rfl, lq' eH, at0, _, _, _, j, _, rfl, rfl, eL2, by omega, by omega, seqIx (by omega), ey, ?_⟩
        have k3 : KT H2 (upd H2 aL (.lst (ls.eraseIdx j))) := kt_lst eL2
        have s3 : Same H (upd H2 aL (.lst (ls.eraseIdx j))) := (s1.trans s2).upd nL
        have neH : aH ≠ aL := fun e => by
          rw [e, eL] at nH
          cases nH
        have eH3 : upd H2 aL (.lst (ls.eraseIdx j)) aH = _ := (upd_ne neH).trans eH
        have hy3 := k3 _ _ hw rfl
        have f3 := hf.mono s3
        have pL3 : RowsP (upd H2 aL (.lst (ls.eraseIdx j))) (L.eraseIdx j) (ls.eraseIdx j) := (rowsP_erase pL).kt (s2.kt.trans k3)
        have lE : (ls.eraseIdx j).length ≤ n := Nat.le_trans (List.length_eraseIdx_le _ _) (by omega)
        refine ⟨_, rfl, _, _, _, _, rfl, rfl, lq' eH3, at0, _, _, rfl, rfl, (by decide : (0 : Int) < 2), rfl, _, rfl, ?_⟩
        refine merge (fun σ' => ∃ y : El k, y ≠ 0 ∧ σ' = [some v0, some (.ref am), some (.ref aL), some (iv y), some (.int i), some (.ref aH), some (.ref ax), c7, none, none]) (fun σ' hσ => ?_) (fun _ key => ?_) ⟨x, hx, rfl⟩
        · obtain ⟨y, hy0, rfl⟩ := hσ
          refine ⟨_, rfl, mF f3 (fd_no k) ⟨_, rfl, _, rfl, _, rfl, _, _, _, _, rfl, rfl, tq hy3, atI_nat (vl_at _ hi), _, _, _, rfl, k, _, _, f3, rfl, rfl, ?_⟩⟩
          refine ⟨_, rfl, _, rfl, _, rfl, mF f3 (fd_no k) ⟨_, rfl, _, rfl, _, _, _, _, rfl, rfl, tq hy3, atI_nat (vl_at _ hi), _, _, rfl, k, _, f3, rfl, hne, ?_⟩⟩
          refine ⟨_, _, _, rfl, k, n, _, _, f3, ⟨ax, rfl, hy3⟩, rfl, hn, fun rl H5 s5 h5 => ?_⟩
          have eL5 := s5 _ _ (upd_same (H := H2) (a := aL) (o := .lst (ls.eraseIdx j)))
          refine ⟨_, rfl, _, rfl, ⟨_, lq' eL5⟩, ?_⟩
          refine lc_set walk_list (fun l z H => Row H z (clr ((L.getD j (Vc.nul (El k) n)).sc ((L.getD j (Vc.nul (El k) n)).f i)⁻¹) i ((L.eraseIdx j).getD l (Vc.nul (El k) n)))) (small_n (by omega)) (fun H' s => lq' (s _ _ eL5)) (fun _ _ _ _ s z => z.kt s) yAt_same (fun l z H6 H7 yes hl s6 s7 hz hyes => ?_) gName_mono fun aL' H6 ls' s6 nL' eL' pL' => ?_
          · obtain ⟨rfl, e1⟩ := hz
            exact ⟨rfl, _, rfl, _, rfl, _, rfl, _, rfl, _, _, _, _, rfl, k, n, i, _, _, f3.mono (s5.trans s7), (rowsP_get pL3 e1).mono (s5.trans s7), h5.mono s7, rfl, hi, hn, hyes⟩
          refine ⟨(s3.trans s5).trans s6, aL', _, (L.eraseIdx j).map (clr ((L.getD j (Vc.nul (El k) n)).sc ((L.getD j (Vc.nul (El k) n)).f i)⁻¹) i), _, _, _, _, rfl, ⟨ls', eL', ?_⟩, ?_, ?_, ?_, (s3.trans s5).free nL'⟩
          · rw [map_range _ (L.eraseIdx j) (Vc.nul (El k) n), ← Paired.len pL3]
            exact rowsP_of pL'
          · refine hF.erase ?_ hne
            rw [List.getElem?_eq_getElem hj]
            simp [List.getD, hj]
          · rw [List.length_map, ← Paired.len pL3]
            exact lE
          · intro z
            have := Lean.Grind.Field.mul_inv_cancel hne
            have z2 : y * ((L.getD j (Vc.nul (El k) n)).f i * ((L.getD j (Vc.nul (El k) n)).f i)⁻¹) = 0 := by
              rw [← Lean.Grind.Semiring.mul_assoc, z, Lean.Grind.Semiring.zero_mul]
            rw [this, Lean.Grind.Semiring.mul_one] at z2
            exact hy0 z2
        · refine ⟨_, rfl, mF f3 (fd_no k) ⟨_, rfl, _, _, rfl, k, _, f3, rfl, key _ ⟨-x, fun z => hx ?_, rfl⟩⟩⟩
          have z2 : x + -x = 0 := by grind
          rw [z] at z2
          grind
    · obtain ⟨s1, aL, x, L, c4, c5, c6, c7, rfl, _, _, _, hx, _⟩ := hp
      exact ⟨_, rfl, q x _ s1 hx⟩


end
end Wit

namespace Wit
open PySem PySem.Spec PyProof.Rows L2
section
variable {P : Program} {w : World} {K : PySem.W.Frag} {mg : Str → Option Value} {base : Heap}

theorem vl_wd {k : Kd} {n : Nat} (x : Vc (El k) n) (i : Nat) : vl x ++ vl (Vc.un (El k) n i) = vl (wd x i) := by
  apply List.ext_getElem?
  intro j
  by_cases h : j < n
  · rw [List.getElem?_append_left (by rw [vl_len]; exact h), vl_at x h, vl_at _ (show j < n + n by omega)]
    unfold wd
    rw [Vc.of_f (by omega), if_pos h]
  · rw [List.getElem?_append_right (by rw [vl_len]; omega), vl_len]
    by_cases h2 : j < n + n
    · rw [vl_at _ (show j - n < n by omega), vl_at _ h2]
      unfold wd
      rw [Vc.of_f h2, if_neg h]
    · rw [List.getElem?_eq_none (by rw [vl_len]; omega), List.getElem?_eq_none (by rw [vl_len]; omega)]
theorem cut_vl {k : Kd} {n : Nat} (y : Vc (El k) (n + n)) : cutV (vl y) (some (n : Int)) none = vl (Vc.of n fun j => y.f (n + j)) := by
  unfold cutV
  rw [HT.sIx_nat, HT.sIx_none, vl_len, Nat.min_eq_left (by omega)]
  apply List.ext_getElem?
  intro j
  rw [List.getElem?_take, List.getElem?_drop]
  by_cases h : j < n
  · rw [if_pos (by omega), vl_at y (show n + j < n + n by omega), vl_at _ h, Vc.of_f h]
  · rw [if_neg (by omega), List.getElem?_eq_none (by rw [vl_len]; omega)]
theorem pl_ints (l : List Nat) : pl l = (l.map Int.ofNat).map V.int := by
  unfold pl
  rw [List.map_map]
  rfl
theorem rg_ints (n : Nat) : rgV 0 (n : Int) = ((List.range n).map Int.ofNat).map V.int := by
  unfold rgV
  rw [List.map_map, Int.sub_zero, Int.toNat_natCast]
  exact List.map_congr_left fun i _ => by rw [Int.zero_add]; rfl
theorem walk_en {a : Addr} {ws : List V} {n : Nat} (h : ws.length = n) : Walk (IteT K a) n (fun H => SqT K H a ws) (YPair (fun i => some (.int (i : Nat))) (fun i => ws[i]?)) := h ▸ walk_enumT

def p_matrix_inverse (K : PySem.W.Frag) (a b : V) (H : Hp) (Q : VK) : Prop := ∃ (k : Kd) (n : Nat) (M : List (Vc (El k) n)), Fd K H a k ∧ RowsT H b M ∧ M.length = n ∧ n ≤ 500 ∧ Full M 0 n ∧
  ∀ r H' (N : List (Vc (El k) n)), Same H H' → RowsT H' r N → N.length = n → (∀ i, i < n → ap M (N.getD i (Vc.nul (El k) n)) = Vc.un (El k) n i) → Q r H'
theorem c_matrix_inverse (T : Tx K mg) : Cal P w K mg base 6 "matrix_inverse" ["field", "matrix"] (sp2 (p_matrix_inverse K)) :=
  cal_of (d := d_matrix_inverse) (lv := 5) (i := 16) (j := 16) T rfl rfl rfl rfl rfl (keep_of (d := d_matrix_inverse) (i := 16) T rfl) (S := ⟨rfl, rfl, rfl, by decide +kernel, rfl, by decide +kernel, by decide +kernel⟩) (N := ["field", "matrix", "n", "wide", "table", "pivots", "i", "row"]) (fun _ _ _ _ _ _ us hl => match us, hl with | [_, _], _ => rfl) len2 <| fun f cdv A outer s H vs Q E hr h => by
    obtain ⟨v0, v1, rfl, h⟩ := h
    have nd : (["field", "matrix", "n", "wide", "table", "pivots", "i", "row"] : List Str).Nodup := by decide +kernel
    refine ⟨_, (pss_cons (ps_set (i := 2) nd rfl (Or.inr rfl) (pe_callB (call_len_seqK K) (by rfl) T.len PySem.boot_len (pa_cons (pv 1) pa_nil))) (pss_cons (ps_setLc (i := 3) (own := [("i", 6), ("row", 7)]) (g := (gTup K 2 (gCons (gName 6) (gCons (gName 7) gNil)))) (tt := tYes) rfl nd rfl rfl (sw_true rfl rfl rfl (by decide +kernel)) (pi_enumTK K (by rfl) T.enumerate (pa_cons (pv 1) pa_nil)) (blkOk_by (by kernel_rfl)) (fun _ _ _ _ _ => (pg_tupK K rfl (pgs_cons (pg_name (i := 6) nd rfl (Or.inl rfl)) (pgs_cons (pg_name (i := 7) nd rfl (Or.inl rfl)) pgs_nil)))) (fun _ _ _ _ _ => pts_nil) (fun _ _ _ _ _ => (pe_op (op_catAK K) (pe_callTy (call_tuple_ofK K) (by rfl) T.tuple boot_tuple (pa_cons (pv 7) pa_nil)) (pe_cal (c_unit_row T) (hr.mono (by decide)) (by rfl) (pa_cons (pv 2) (pa_cons (pv 6) pa_nil)))))) (pss_cons (ps_asg (pe_cal (c_reduced T) (hr.mono (by decide)) (by rfl) (pa_cons (pv 0) (pa_cons (pv 3) (pa_cons (pe_op op_mul pe_int (pv 2)) pa_nil)))) (pg_tupK K rfl (pgs_cons (pg_name (i := 4) nd rfl (Or.inl rfl)) (pgs_cons (pg_name (i := 5) nd rfl (Or.inl rfl)) pgs_nil)))) (pss_cons (ps_if (pt_cmpR (op_neDK K hr.units) (pv 5) (pe_tupRg rfl (by rfl) T.tuple (prg_1 (by rfl) T.range (pv 2))) (nomark _)) (pss_one ps_never) pss_nil) (pss_one (ps_ret (pe_callTy (call_tuple_ofK K) (by rfl) T.tuple boot_tuple (pa_cons (pe_lc (own := [("row", 7)]) (g := (gName 7)) (tt := tYes) rfl nd (pi_tupK K (pv 4)) (blkOk_by (by kernel_rfl)) (fun _ _ _ _ _ => (pg_name (i := 7) nd rfl (Or.inl rfl))) (fun _ _ _ _ _ => pts_nil) (fun _ _ _ _ _ => (pe_slice (sl_tupAK K) (pv 7) (po_some (pv 2)) po_none))) pa_nil)))))))), ?_⟩
    obtain ⟨k, n, M, hf, ⟨am, ms, rfl, hm, hM⟩, lM, hn, hfull, q⟩ := h
    have lm : ms.length = n := by rw [Paired.len hM, lM]
    refine ⟨_, rfl, _, _, rfl, .inr (tq hm), ?_⟩
    rw [lm]
    refine ⟨_, rfl, _, _, rfl, tq hm, ?_⟩
    refine lc_set (walk_en lm) (fun j z H => Row H z (wd (M.getD j (Vc.nul (El k) n)) j)) (small_n (by omega)) (fun H' s => tq (s _ _ hm)) (fun _ _ _ _ s z => z.kt s) yPair_same (fun j z H1 H2 yes hj s1 s2 hz hyes => ?_) gPair_mono fun aW H1 ws s1 nW eW pW => ?_
    · obtain ⟨U, x, y, rfl, hU, rfl, e1, e2⟩ := hz
      have e1 : some (V.int (j : Nat)) = some x := e1
      cases e1
      have sU := upd_none (o := .tup [.int (j : Nat), y]) hU
      obtain ⟨ay, rfl, hy⟩ := (rowsP_get hM e2).mono s2
      refine ⟨_, _, rfl, tq upd_same, rfl, _, _, rfl, _, _, rfl, rfl, rfl, ?_⟩
      refine ⟨_, rfl, _, _, rfl, .inr ⟨tq hy, ?_⟩⟩
      refine ⟨_, rfl, _, rfl, _, _, rfl, k, n, j, rfl, rfl, by omega, fun r H3 s3 h3 => ?_⟩
      obtain ⟨au, rfl, hu⟩ := h3
      have n1 : vl (M.getD j (Vc.nul (El k) n)) ≠ [] := fun e => by
        have := congrArg List.length e
        rw [vl_len] at this
        simp at this
        omega
      have n2 : vl (Vc.un (El k) n j) ≠ [] := fun e => by
        have := congrArg List.length e
        rw [vl_len] at this
        simp at this
        omega
      refine ⟨_, _, _, _, rfl, rfl, tq (s3 _ _ hy), tq hu, ?_, fun e => absurd e n1, fun _ e => absurd e n2, fun _ _ p hp => ?_⟩
      · rw [vl_len, vl_len]
        exact Nat.le_of_lt (small_n (by omega))
      · refine hyes _ _ (s3.trans (upd_none hp)) ⟨p, rfl, ?_⟩
        rw [upd_same, vl_wd]
    · have hW : RowsP H1 (wide M) ws := by
        unfold wide
        rw [lM]
        exact rowsP_of pW
      have f1 := hf.mono s1
      refine ⟨_, rfl, _, rfl, _, rfl, _, _, rfl, rfl, .inl (by decide), ?_⟩
      refine ⟨_, _, _, rfl, k, n + n, wide M, f1, ⟨aW, ws, rfl, .inr eW, hW⟩, ?_, ?_, by omega, fun p t a2 H2 s2 e1 ht e2 => ?_⟩
      · show V.int (2 * (n : Int)) = V.int ((n + n : Nat) : Int)
        congr 1
        omega
      · rw [wide_len, lM]
        omega
      · obtain ⟨a1, ts, rfl, e3, hT⟩ := ht
        obtain ⟨rp, rt, rinv⟩ := wide_red lM hfull
        have rp : redP (wide M) = List.range n := rp
        have rt : (redT (wide M)).length = n := rt
        rw [rp] at e2
        refine ⟨_, _, rfl, tq e1, rfl, _, _, rfl, _, _, rfl, rfl, ?_⟩
        refine ⟨_, rfl, _, rfl, _, rfl, RgOk.of_le (by decide) (by omega) (by decide) (by omega), fun b nb => ?_⟩
        have sb := upd_none (o := .tup (rgV 0 (n : Int))) nb
        have e2' := sb _ _ e2
        rw [pl_ints] at e2'
        refine ⟨.tuple (((List.range n).map Int.ofNat).map PyData.int), .tuple (((List.range n).map Int.ofNat).map PyData.int), .tup (tq e2') (dp_ints _), .tup (tq (by rw [upd_same, rg_ints])) (dp_ints _), ints_shaped _, ints_shaped _, _, rfl, ?_⟩
        have ev : PyData.eqv (.tuple (((List.range n).map Int.ofNat).map PyData.int)) (.tuple (((List.range n).map Int.ofNat).map PyData.int)) = true := by
          rw [PyData.eqv, PySem.W.ked_eqvAll]
          exact decide_eq_true rfl
        rw [ev]
        refine iteF ?_
        have e3' := sb _ _ e3
        have lt : ts.length = n := by rw [Paired.len hT, rt]
        refine ⟨_, rfl, _, rfl, ⟨_, tq e3'⟩, ?_⟩
        refine lc_tup (n := n) (lt ▸ walk_tup) (fun j z H => Row H z (Vc.of n fun l => ((redT (wide M)).getD j (Vc.nul (El k) (n + n))).f (n + l))) (small_n (by omega)) (fun H' s => tq (s _ _ e3')) (fun _ _ _ _ s z => z.kt s) yAt_same (fun j z H3 H4 yes hj s3 s4 hz hyes => ?_) gName_mono fun p H' ys s3 hp pr => ?_
        · obtain ⟨rfl, e1⟩ := hz
          obtain ⟨ay, rfl, hy⟩ := (rowsP_get hT e1).mono (sb.trans s4)
          refine ⟨rfl, _, rfl, ?_⟩
          refine ⟨_, rfl, _, rfl, ?_⟩
          refine ⟨_, _, rfl, tq hy, fun e => ?_, fun _ p hp => hyes _ _ (upd_none hp) ⟨p, rfl, ?_⟩⟩
          · rw [HT.sIx_nat, vl_len] at e
            omega
          · rw [upd_same, cut_vl]
        · refine q _ H' ((List.range n).map fun j => Vc.of n fun l => ((redT (wide M)).getD j (Vc.nul (El k) (n + n))).f (n + l)) (((s1.trans s2).trans sb).trans s3) ⟨p, ys, rfl, hp, rowsP_of pr⟩ (by simp) fun i hi => ?_
          have e := rinv i hi
          have g : ((List.range n).map fun j => Vc.of n fun l => ((redT (wide M)).getD j (Vc.nul (El k) (n + n))).f (n + l)).getD i (Vc.nul (El k) n) = Vc.of n fun l => ((redT (wide M)).getD i (Vc.nul (El k) (n + n))).f (n + l) := by
            simp [List.getD, hi]
          rw [g]
          exact e


end
end Wit

namespace Wit
open PySem PySem.Spec PyProof.Rows L2
section
variable {P : Program} {w : World} {K : PySem.W.Frag} {mg : Str → Option Value} {base : Heap}

/-! ### the space -/
abbrev QK : V := .str "quadratic"
theorem mR_len {k : Kd} {n : Nat} (A : Nat → Nat → El k) : (mR A n).length = n := by simp [mR]
theorem mR_get {k : Kd} {n i : Nat} (A : Nat → Nat → El k) (h : i < n) : (mR A n).getD i (Vc.nul (El k) n) = Vc.of n (A i) := by simp [mR, List.getD, h]
theorem gR_len {k : Kd} {n : Nat} (A : Nat → Nat → El k) : (gR A n).length = n := by simp [gR]
theorem gR_get {k : Kd} {n i : Nat} (A : Nat → Nat → El k) (h : i < n) : (gR A n).getD i (Vc.nul (El k) n) = Vc.of n fun j => A i j + A j i := by simp [gR, List.getD, h]
/-- all but the object at x stands -/
def But (x : Addr) (H H' : Hp) : Prop := ∀ c o, c ≠ x → H c = some o → H' c = some o
theorem But.same {x dx : Addr} {H H' : Hp} {o1 o2 : HO} (h1 : H x = none) (h2 : H dx = none) (b : But x (upd (upd H dx o1) x o2) H') : Same H H' := fun c o e =>
  b c o (ne_of_none e h1) (by rw [upd_ne (ne_of_none e h1), upd_ne (ne_of_none e h2)]; exact e)
theorem But.of_same {x : Addr} {H H' : Hp} (s : Same H H') : But x H H' := fun c o _ e => s c o e
theorem But.trans {x : Addr} {H H1 H2 : Hp} (a : But x H H1) (b : But x H1 H2) : But x H H2 := fun c o n e => b c o n (a c o n e)
theorem But.upd {x : Addr} {H : Hp} {o : HO} : But x H (L2.upd H x o) := fun c u n e => by rw [upd_ne n]; exact e
theorem ins_fields {H H' : Hp} {x C dx : Addr} {fs : List (Str × V)} (h : H x = some (.ins C dx fs)) (s : Same H H') : H' x = some (.ins C dx fs) := s _ _ h
/-- what was there before the object was given its fields is no such object -/
theorem Row.but {k : Kd} {n : Nat} {H H' : Hp} {x C dx : Addr} {fs : List (Str × V)} {v : V} {r : Vc (El k) n} (h : Row H v r) (hx : H x = some (.ins C dx fs)) (b : But x H H') : Row H' v r := by
  obtain ⟨a, rfl, e⟩ := h
  exact ⟨a, rfl, b a _ (fun z => by rw [z, hx] at e; cases e) e⟩
theorem RowsT.but {k : Kd} {n : Nat} {H H' : Hp} {x C dx : Addr} {fs : List (Str × V)} {v : V} {r : List (Vc (El k) n)} (h : RowsT H v r) (hx : H x = some (.ins C dx fs)) (b : But x H H') : RowsT H' v r := by
  obtain ⟨a, rs, rfl, e, p⟩ := h
  exact ⟨a, rs, rfl, b a _ (fun z => by rw [z, hx] at e; cases e) e, Paired.imp' (fun _ _ q => q.but hx b) p⟩
def kj : Kd → Nat
  | .k3 => 1
  | .k5 => 3
  | .k7 => 4
  | .k9 => 5
theorem kj_at (k : Kd) : ([2, 3, 4, 5, 7, 9] : List Int)[kj k]? = some (k.q : Int) := by cases k <;> rfl
theorem kj_first (k : Kd) : ∀ m, m < kj k → ([2, 3, 4, 5, 7, 9] : List Int)[m]? ≠ some (k.q : Int) := by cases k <;> decide
theorem kj_p (k : Kd) : atI [V.int 2, .int 3, .int 2, .int 5, .int 7, .int 3] ((kj k : Nat) : Int) = some (V.int (k.p : Int)) := by cases k <;> rfl
theorem kj_in (k : Kd) : inV (.int (k.q : Int)) [V.int 2, .int 3, .int 4, .int 5, .int 7, .int 9] = true := by cases k <;> rfl
theorem nin {a : V} {b : List V} (h : inV a b = true) : (if true = true then !inV a b else inV a b) = false := by rw [if_pos rfl, h]; rfl
theorem qk_in : inV QK [V.str "alternating", .str "quadratic", .str "hermitian"] = true := by decide +kernel
theorem qk_alt : decide (QK = V.str "alternating") = false := by decide +kernel
theorem qk_her : decide (QK = V.str "hermitian") = false := by decide +kernel
theorem qk_qua : decide (QK = V.str "quadratic") = true := by decide +kernel
theorem kit_lt : PySem.W.kitAny K (.type "tuple") [.type "list", .type "tuple"] = some true :=
  kitAny_cons (b := false) (kit_ty (by decide +kernel)) (fun _ => kitAny_cons (b := true) (kit_ty (by decide +kernel)) (fun e => nomatch e) fun _ => rfl) fun e => nomatch e

def p_Field_init (K : PySem.W.Frag) (a b : V) (H : Hp) (Q : VK) : Prop := ∃ (k : Kd) (x dx : Addr), a = .ref x ∧ H x = some (.ins (He.ga K "Field") dx []) ∧ b = .int (k.q : Int) ∧ ∀ H', But x H H' → H' x = some (.ins (He.ga K "Field") dx (fdF k)) → Q .non H'
theorem k_Field (T : Tx K mg) : CalC P w K mg base 2 "Field" ["self", "q"] (sp2 (p_Field_init K)) :=
  calC_of (d := d_Field_init) (lv := 1) (i := 68) (j := 70) (l := 68) T rfl rfl rfl rfl rfl rfl (S := ⟨rfl, rfl, rfl, by decide +kernel, rfl, by decide +kernel, by decide +kernel⟩) (N := ["self", "q"]) (fun _ _ _ _ _ _ us hl => match us, hl with | [_, _], _ => rfl) len2 <| fun f cdv A outer s H vs Q E hr h => by
    obtain ⟨v0, v1, rfl, h⟩ := h
    have nd : (["self", "q"] : List Str).Nodup := by decide +kernel
    refine ⟨_, (pss_cons (ps_if (PW.pt (pw_or (pt_not (pt_val (pe_cal (c_is_integer T) (hr.mono (by decide)) (by rfl) (pa_cons (pv 1) pa_nil)))) (pw_or1 (pt_cmpR (op_notIn_seqK K) (pv 1) (pe_glob (v := .ref (He.ga K "SIZES_field")) (by rfl) T.gSIZES_field rfl) (by rfl))))) (pss_one ps_never) pss_nil) (pss_cons (ps_fldK K (pv 0) (pv 1)) (pss_one (ps_fldK K (pv 0) (pe_ix (ix_tupK K) (pe_glob (v := .ref (He.ga K "CHARACTERISTICS")) (by rfl) T.gCHARACTERISTICS rfl) (pe_bm PySem.F.plainAttrs_tuple PySem.F.slot_tuple_index PySem.F.type_tuple_index (mt_tidx K) (pe_glob (v := .ref (He.ga K "SIZES_field")) (by rfl) T.gSIZES_field rfl) (pa_cons (pv 1) pa_nil)) (fun _ _ => rfl)))))), ?_⟩
    obtain ⟨k, x, dx, rfl, hx, rfl, q⟩ := h
    refine ⟨_, rfl, _, rfl, _, rfl, true, rfl, iteF ?_⟩
    refine ⟨_, rfl, _, _, rfl, .inr (T.tSIZES_field _), rfl, rfl, _, rfl, ?_⟩
    rw [nin (kj_in k)]
    refine iteF ?_
    refine ⟨_, rfl, _, rfl, _, _, _, _, rfl, hx, T.kField, T.nField_q, by decide, ?_⟩
    refine ⟨.inr (.inl ⟨rfl, T.nodSIZES⟩), _, rfl, _, [2, 3, 4, 5, 7, 9], _, kj k, rfl, rfl, T.tSIZES_field _, kj_at k, kj_first k, ?_⟩
    refine ⟨_, _, _, _, rfl, rfl, T.tCHARACTERISTICS _, kj_p k, ?_⟩
    refine ⟨_, rfl, _, _, _, _, rfl, upd_same, T.kField, T.nField_p, by show (1 : Nat) < 1000; decide, ?_⟩
    exact q _ (But.trans But.upd But.upd) upd_same


def p_check_kind (a b : V) (H : Hp) (Q : VK) : Prop := ∃ k : Kd, a = QK ∧ b = .int (k.q : Int) ∧ Q .non H
theorem c_check_kind (T : Tx K mg) : Cal P w K mg base 2 "check_kind" ["kind", "q"] (sp2 p_check_kind) :=
  cal_of (d := d_check_kind) (lv := 1) (i := 18) (j := 18) T rfl rfl rfl rfl rfl (keep_of (d := d_check_kind) (i := 18) T rfl) (S := ⟨rfl, rfl, rfl, by decide +kernel, rfl, by decide +kernel, by decide +kernel⟩) (N := ["kind", "q"]) (fun _ _ _ _ _ _ us hl => match us, hl with | [_, _], _ => rfl) len2 <| fun f cdv A outer s H vs Q E hr h => by
    obtain ⟨v0, v1, rfl, h⟩ := h
    have nd : (["kind", "q"] : List Str).Nodup := by decide +kernel
    refine ⟨_, (pss_cons (ps_if (PW.pt (pw_or (pt_not (pt_val (pe_callB (call_isiK1 K) (by rfl) T.isinstance (by decide +kernel) (pa_cons (pv 0) (pa_cons (pe_bltn (v := .ty "str") (u := .type "str") (by rfl) T.str (by decide +kernel) rfl) pa_nil))))) (pw_or1 (pt_cmpR (op_notIn_seqK K) (pv 0) (pe_glob (v := .ref (He.ga K "KINDS")) (by rfl) T.gKINDS rfl) (by rfl))))) (pss_one ps_never) pss_nil) (pss_cons (ps_if (PW.pt (pw_or (pt_not (pt_val (pe_cal (c_is_integer T) (hr.mono (by decide)) (by rfl) (pa_cons (pv 1) pa_nil)))) (pw_or1 (pt_cmpR (op_notIn_seqK K) (pv 1) (pe_glob (v := .ref (He.ga K "SIZES_space")) (by rfl) T.gSIZES_space rfl) (by rfl))))) (pss_one ps_never) pss_nil) (pss_one (ps_if (PW.pt (pw_and (pt_cmpR op_eq (pv 0) pe_str (nomark _)) (pw_and1 (pt_cmpR (op_notIn_seqK K) (pv 1) (pe_tup (pa_cons pe_int (pa_cons pe_int pa_nil))) (by rfl))))) (pss_one ps_never) pss_nil)))), ?_⟩
    obtain ⟨k, rfl, rfl, q⟩ := h
    refine ⟨_, rfl, _, _, _, _, true, rfl, .ty _, .base (.str _), kit_ty (by decide +kernel), true, rfl, iteF ?_⟩
    refine ⟨_, rfl, _, _, rfl, .inr (T.tKINDS _), rfl, rfl, _, rfl, ?_⟩
    rw [nin qk_in]
    refine iteF ?_
    refine ⟨_, rfl, _, rfl, _, rfl, true, rfl, iteF ?_⟩
    refine ⟨_, rfl, _, _, rfl, .inr (T.tSIZES_space _), rfl, rfl, _, rfl, ?_⟩
    rw [nin (kj_in k)]
    refine iteF ?_
    refine ⟨_, rfl, rfl, _, rfl, ?_⟩
    rw [qk_her]
    exact iteF (iteF q)


def p_taken (K : PySem.W.Frag) (a b : V) (H : Hp) (Q : VK) : Prop := ∃ (k : Kd) (n : Nat) (M : List (Vc (El k) n)), Fd K H a k ∧ RowsT H b M ∧ M.length = n ∧ n ≤ 1000 ∧ ∀ r H', Same H H' → RowsT H' r M → Q r H'
theorem c_taken (T : Tx K mg) : Cal P w K mg base 3 "taken" ["field", "matrix"] (sp2 (p_taken K)) :=
  cal_of (d := d_taken) (lv := 2) (i := 19) (j := 19) T rfl rfl rfl rfl rfl (keep_of (d := d_taken) (i := 19) T rfl) (S := ⟨rfl, rfl, rfl, by decide +kernel, rfl, by decide +kernel, by decide +kernel⟩) (N := ["field", "matrix", "size", "row", "item"]) (fun _ _ _ _ _ _ us hl => match us, hl with | [_, _], _ => rfl) len2 <| fun f cdv A outer s H vs Q E hr h => by
    obtain ⟨v0, v1, rfl, h⟩ := h
    have nd : (["field", "matrix", "size", "row", "item"] : List Str).Nodup := by decide +kernel
    refine ⟨_, (pss_cons (ps_if (pt_not (pt_val (pe_callB (call_isiTK K) (by rfl) T.isinstance (by decide +kernel) (pa_cons (pv 1) (pa_cons (pe_tup (pa_cons (pe_bltn (v := .ty "list") (u := .type "list") (by rfl) T.list (by decide +kernel) rfl) (pa_cons (pe_bltn (v := .ty "tuple") (u := .type "tuple") (by rfl) T.tuple (by decide +kernel) rfl) pa_nil))) pa_nil))))) (pss_one ps_never) pss_nil) (pss_cons (ps_set (i := 2) nd rfl (Or.inl rfl) (pe_callB (call_len_seqK K) (by rfl) T.len PySem.boot_len (pa_cons (pv 1) pa_nil))) (pss_cons (ps_for PassesOwn.never rfl (pi_tupK K (pv 1)) (pg_name (i := 3) nd rfl (Or.inl rfl)) (pss_cons (ps_if (PW.pt (pw_or (pt_not (pt_val (pe_callB (call_isiTK K) (by rfl) T.isinstance (by decide +kernel) (pa_cons (pv 3) (pa_cons (pe_tup (pa_cons (pe_bltn (v := .ty "list") (u := .type "list") (by rfl) T.list (by decide +kernel) rfl) (pa_cons (pe_bltn (v := .ty "tuple") (u := .type "tuple") (by rfl) T.tuple (by decide +kernel) rfl) pa_nil))) pa_nil))))) (pw_or1 (pt_cmpR op_ne (pe_callB (call_len_seqK K) (by rfl) T.len PySem.boot_len (pa_cons (pv 3) pa_nil)) (pv 2) (nomark _))))) (pss_one ps_never) pss_nil) (pss_one (ps_if (pt_not (pt_val (pe_callB (cr_allK K rfl) (by rfl) T.all (by decide +kernel) (pa_cons (pe_lc (own := [("item", 4)]) (g := (gName 4)) (tt := tYes) rfl nd (pi_tupK K (pv 3)) (blkOk_by (by kernel_rfl)) (fun _ _ _ _ _ => (pg_name (i := 4) nd rfl (Or.inl rfl))) (fun _ _ _ _ _ => pts_nil) (fun _ _ _ _ _ => (pe_calM (pv 0) (m_Field_is_number T) (hr.mono (by decide)) (pa_cons (pv 4) pa_nil)))) pa_nil)))) (pss_one ps_never) pss_nil)))) (pss_one (ps_ret (pe_callTy (call_tuple_ofK K) (by rfl) T.tuple boot_tuple (pa_cons (pe_lc (own := [("row", 3)]) (g := (gName 3)) (tt := tYes) rfl nd (pi_tupK K (pv 1)) (blkOk_by (by kernel_rfl)) (fun _ _ _ _ _ => (pg_name (i := 3) nd rfl (Or.inl rfl))) (fun _ _ _ _ _ => pts_nil) (fun _ _ _ _ _ => (pe_callTy (call_tuple_ofK K) (by rfl) T.tuple boot_tuple (pa_cons (pv 3) pa_nil)))) pa_nil))))))), ?_⟩
    obtain ⟨k, n, M, hf, ⟨am, ms, rfl, hm, hM⟩, lM, hn, q⟩ := h
    have lm : ms.length = n := by rw [Paired.len hM, lM]
    refine ⟨_, rfl, by decide, fun t nt => ?_⟩
    have st := upd_none (o := .tup [.ty "list", .ty "tuple"]) nt
    refine ⟨_, _, _, _, _, true, rfl, upd_same, .cons (.ty _) (.cons (.ty _) .nil), .base (.tup (st _ _ hm)), kit_lt, true, rfl, iteF ?_⟩
    refine ⟨_, rfl, _, _, rfl, .inr (tq (st _ _ hm)), ?_⟩
    rw [lm]
    refine ⟨_, rfl, _, rfl, ⟨_, tq (st _ _ hm)⟩, ?_⟩
    have wk : Walk (Itt K am) n (fun H => SqT K H am ms) (YAt ms) := lm ▸ walk_tup
    refine for_it wk (fun i σ H' => Same H H' ∧ ∃ c3, σ = [some v0, some (.ref am), some (.int n), c3, none]) ⟨st, none, rfl⟩ (fun i σ H' _ hp => tq (hp.1 _ _ hm)) (fun i z σ H1 H2 hi hp hz => ?_) fun σ H' hp => ?_
    · obtain ⟨s1, c3, rfl⟩ := hp
      obtain ⟨rfl, e1⟩ := hz
      obtain ⟨ax, rfl, hx⟩ := (rowsP_get hM e1).mono s1
      refine ⟨_, rfl, by decide, fun t nt => ?_⟩
      have st := upd_none (o := .tup [.ty "list", .ty "tuple"]) nt
      refine ⟨_, _, _, _, _, true, rfl, upd_same, .cons (.ty _) (.cons (.ty _) .nil), .base (.tup (st _ _ hx)), kit_lt, true, rfl, iteF ?_⟩
      refine ⟨_, rfl, _, _, rfl, .inr (tq (st _ _ hx)), _, rfl, rfl, _, rfl, ?_⟩
      rw [vl_len, decide_eq_true rfl]
      refine iteF ?_
      refine ⟨_, rfl, _, rfl, ⟨_, tq (st _ _ hx)⟩, ?_⟩
      refine lc_all walk_one (small_n hn) (fun H' s => tq (s _ _ (st _ _ hx))) yAt_same (fun j z H3 H4 yes hj s3 s4 hz hyes => ?_) gName_mono fun H' s3 => ⟨true, rfl, iteF ⟨(s1.trans st).trans s3, _, rfl⟩⟩
      obtain ⟨rfl, e2⟩ := hz
      rw [vl_at _ hj] at e2
      cases e2
      have f4 := hf.mono ((s1.trans st).trans s4)
      exact ⟨rfl, _, rfl, mF f4 (fd_no k) ⟨_, rfl, _, _, rfl, k, _, f4, rfl, hyes _ (Same.refl _)⟩⟩
    · obtain ⟨s1, c3, rfl⟩ := hp
      refine ⟨_, rfl, _, rfl, ⟨_, tq (s1 _ _ hm)⟩, ?_⟩
      refine lc_tup wk (fun j z H => Row H z (M.getD j (Vc.nul (El k) n))) (small_n hn) (fun H' s => tq (s _ _ (s1 _ _ hm))) (fun _ _ _ _ s z => z.kt s) yAt_same (fun j z H3 H4 yes hj s3 s4 hz hyes => ?_) gName_mono fun p H5 ys s3 hp pr => ?_
      · obtain ⟨rfl, e1⟩ := hz
        obtain ⟨ax, rfl, hx⟩ := (rowsP_get hM e1).mono (s1.trans s4)
        exact ⟨rfl, _, rfl, _, _, rfl, .inr ⟨tq hx, hyes _ _ (Same.refl _) ⟨ax, rfl, hx⟩⟩⟩
      · refine q _ H5 (s1.trans s3) ⟨p, ys, rfl, hp, ?_⟩
        rw [rows_range M, lM]
        exact rowsP_of pr


end
end Wit

namespace Wit
open PySem PySem.Spec PyProof.Rows L2
section
variable {P : Program} {w : World} {K : PySem.W.Frag} {mg : Str → Option Value} {base : Heap}

theorem rows_cell {k : Kd} {n i j : Nat} {H : Hp} {rs : List V} {A : Nat → Nat → El k} (h : RowsP H (mR A n) rs) (hi : i < n) (hj : j < n) : ∃ a, rs[i]? = some (.ref a) ∧ ∃ xs, H a = some (.tup xs) ∧ xs[j]? = some (iv (A i j)) := by
  obtain ⟨y, e, a, rfl, hy⟩ := rowsP_at h (by rw [mR_len]; exact hi)
  refine ⟨a, e, _, hy, ?_⟩
  rw [vl_at _ hj, mR_get A hi, Vc.of_f hj]

def p_has_form (K : PySem.W.Frag) (a b c : V) (H : Hp) (Q : VK) : Prop := ∃ (k : Kd) (n : Nat) (A : Nat → Nat → El k), b = QK ∧ RowsT H c (mR A n) ∧ Tri A n ∧ n ≤ 1000 ∧ Q (.bl true) H
theorem c_has_form (T : Tx K mg) : Cal P w K mg base 3 "has_form" ["field", "kind", "rows"] (sp3 (p_has_form K)) :=
  cal_of (d := d_has_form) (lv := 2) (i := 20) (j := 20) T rfl rfl rfl rfl rfl (keep_of (d := d_has_form) (i := 20) T rfl) (S := ⟨rfl, rfl, rfl, by decide +kernel, rfl, by decide +kernel, by decide +kernel⟩) (N := ["field", "kind", "rows", "i", "j", "one", "two"]) (fun _ _ _ _ _ _ us hl => match us, hl with | [_, _, _], _ => rfl) len3 <| fun f cdv A outer s H vs Q E hr h => by
    obtain ⟨v0, v1, v2, rfl, h⟩ := h
    have nd : (["field", "kind", "rows", "i", "j", "one", "two"] : List Str).Nodup := by decide +kernel
    refine ⟨_, (pss_cons (ps_for PassesOwn.never rfl (pi_range1 (by rfl) T.range (pa_cons (pe_callB (call_len_seqK K) (by rfl) T.len PySem.boot_len (pa_cons (pv 2) pa_nil)) pa_nil)) (pg_name (i := 3) nd rfl (Or.inl rfl)) (pss_cons (ps_if (PW.pt (pw_and (pt_cmpR op_eq (pv 1) pe_str (nomark _)) (pw_and1 (pt_cmpR op_ne (pe_ix (ix_tupK K) (pe_ix (ix_tupK K) (pv 2) (pv 3) (fun _ _ => rfl)) (pv 3) (fun _ _ => rfl)) pe_int (nomark _))))) (pss_one (ps_ret pe_bl)) pss_nil) (pss_one (ps_for PassesOwn.never rfl (pi_range1 (by rfl) T.range (pa_cons (pe_op op_add (pv 3) pe_int) pa_nil)) (pg_name (i := 4) nd rfl (Or.inl rfl)) (pss_cons (ps_par (i := 5) (j := 6) rfl nd rfl rfl (by decide) rfl rfl (pa_cons (pe_ix (ix_tupK K) (pe_ix (ix_tupK K) (pv 2) (pv 4) (fun _ _ => rfl)) (pv 3) (fun _ _ => rfl)) (pa_cons (pe_ix (ix_tupK K) (pe_ix (ix_tupK K) (pv 2) (pv 3) (fun _ _ => rfl)) (pv 4) (fun _ _ => rfl)) pa_nil)) (by rfl)) (pss_cons (ps_if (PW.pt (pw_and (pt_cmpR op_eq (pv 1) pe_str (nomark _)) (pw_and1 (pt_cmpR op_ne (pv 6) (pe_calM (pv 0) (m_Field_negative T) (hr.mono (by decide)) (pa_cons (pv 5) pa_nil)) (nomark _))))) (pss_one (ps_ret pe_bl)) pss_nil) (pss_cons (ps_if (PW.pt (pw_and (pt_cmpR op_eq (pv 1) pe_str (nomark _)) (pw_and1 (pt_cmpR op_ne (pv 6) pe_dead (nomark _))))) (pss_one (ps_ret pe_bl)) pss_nil) (pss_one (ps_if (PW.pt (pw_and (pt_cmpR op_eq (pv 1) pe_str (nomark _)) (pw_and (pt_cmpR op_lt (pv 4) (pv 3) (nomark _)) (pw_and1 (pt_cmpR op_ne (pv 6) pe_int (nomark _)))))) (pss_one (ps_ret pe_bl)) pss_nil))))))))) (pss_one (ps_ret pe_bl))), ?_⟩
    obtain ⟨k, n, A, rfl, ⟨am, ms, rfl, hm, hM⟩, htri, hn, q⟩ := h
    have lm : ms.length = n := by rw [Paired.len hM, mR_len]
    refine ⟨_, rfl, _, _, rfl, .inr (tq hm), _, rfl, by omega, by omega, ?_⟩
    rw [Int.toNat_natCast, lm]
    refine for_it walk_rg (fun i σ H' => H' = H ∧ ∃ c3 c4 c5 c6, σ = [some v0, some QK, some (.ref am), c3, c4, c5, c6]) ⟨rfl, none, none, none, none, rfl⟩ (fun _ _ _ _ _ => trivial) (fun i z σ H1 H2 hi hp hz => ?_) fun σ H' hp => ?_
    · obtain ⟨rfl, c3, c4, c5, c6, rfl⟩ := hp
      obtain ⟨rfl, rfl⟩ := hz
      refine ⟨_, rfl, rfl, _, rfl, ?_⟩
      rw [qk_alt]
      refine iteF (iteF ?_)
      refine ⟨_, rfl, _, _, rfl, rfl, _, rfl, by omega, by omega, ?_⟩
      rw [show ((i : Int) + 1).toNat = i + 1 by omega]
      refine for_it walk_rg (fun j σ H' => H' = H2 ∧ ∃ c4 c5 c6, σ = [some v0, some QK, some (.ref am), some (.int i), c4, c5, c6]) ⟨rfl, c4, c5, c6, rfl⟩ (fun _ _ _ _ _ => trivial) (fun j z σ H2 H3 hj hp hz => ?_) fun σ H' hp => ?_
      · obtain ⟨rfl, c4, c5, c6, rfl⟩ := hp
        obtain ⟨rfl, rfl⟩ := hz
        obtain ⟨a1, x1, xs1, y1, z1⟩ := rows_cell hM (i := j) (j := i) (by omega) hi
        obtain ⟨a2, x2, xs2, y2, z2⟩ := rows_cell hM (i := i) (j := j) hi (by omega)
        refine ⟨_, rfl, _, rfl, _, _, _, _, rfl, rfl, tq hm, atI_nat x1, _, rfl, _, _, _, _, rfl, rfl, tq y1, atI_nat z1, ?_⟩
        refine ⟨_, rfl, _, rfl, _, _, _, _, rfl, rfl, tq hm, atI_nat x2, _, rfl, _, _, _, _, rfl, rfl, tq y2, atI_nat z2, ?_⟩
        refine ⟨_, _, rfl, ?_⟩
        refine ⟨_, rfl, rfl, _, rfl, ?_⟩
        rw [qk_alt]
        refine iteF (iteF ?_)
        refine ⟨_, rfl, rfl, _, rfl, ?_⟩
        rw [qk_her]
        refine iteF (iteF ?_)
        refine ⟨_, rfl, rfl, _, rfl, ?_⟩
        rw [qk_qua]
        refine iteT ⟨_, rfl, _, rfl, _, _, rfl, rfl, _, rfl, ?_⟩
        refine ite2 (fun c => ?_) fun c => iteF ⟨rfl, _, _, _, rfl⟩
        have c : (j : Int) < (i : Int) := of_decide_eq_true c
        refine ⟨_, rfl, rfl, _, rfl, ?_⟩
        have e : decide (iv (A i j) = V.int 0) = true := by
          rw [iv_eq0, htri i j hi (by omega)]
          exact decide_eq_true rfl
        rw [e]
        exact iteF ⟨rfl, _, _, _, rfl⟩
      · obtain ⟨rfl, c4, c5, c6, rfl⟩ := hp
        exact ⟨rfl, _, _, _, _, rfl⟩
    · obtain ⟨rfl, c3, c4, c5, c6, rfl⟩ := hp
      exact q


def p_gram_of (K : PySem.W.Frag) (a b c : V) (H : Hp) (Q : VK) : Prop := ∃ (k : Kd) (n : Nat) (A : Nat → Nat → El k), Fd K H a k ∧ b = QK ∧ RowsT H c (mR A n) ∧ n ≤ 1000 ∧ ∀ r H', Same H H' → RowsT H' r (gR A n) → Q r H'
theorem c_gram_of (T : Tx K mg) : Cal P w K mg base 3 "gram_of" ["field", "kind", "rows"] (sp3 (p_gram_of K)) :=
  cal_of (d := d_gram_of) (lv := 2) (i := 21) (j := 21) T rfl rfl rfl rfl rfl (keep_of (d := d_gram_of) (i := 21) T rfl) (S := ⟨rfl, rfl, rfl, by decide +kernel, rfl, by decide +kernel, by decide +kernel⟩) (N := ["field", "kind", "rows", "size", "i", "j"]) (fun _ _ _ _ _ _ us hl => match us, hl with | [_, _, _], _ => rfl) len3 <| fun f cdv A outer s H vs Q E hr h => by
    obtain ⟨v0, v1, v2, rfl, h⟩ := h
    have nd : (["field", "kind", "rows", "size", "i", "j"] : List Str).Nodup := by decide +kernel
    refine ⟨_, (pss_cons (ps_if (pt_cmpR op_ne (pv 1) pe_str (nomark _)) (pss_one (ps_ret (pv 2))) pss_nil) (pss_cons (ps_set (i := 3) nd rfl (Or.inr rfl) (pe_callB (call_len_seqK K) (by rfl) T.len PySem.boot_len (pa_cons (pv 2) pa_nil))) (pss_one (ps_ret (pe_callTy (call_tuple_ofK K) (by rfl) T.tuple boot_tuple (pa_cons (pe_lc (own := [("i", 4)]) (g := (gName 4)) (tt := tYes) rfl nd (pi_range1 (by rfl) T.range (pa_cons (pv 3) pa_nil)) (blkOk_by (by kernel_rfl)) (fun _ _ _ _ _ => (pg_name (i := 4) nd rfl (Or.inr rfl))) (fun _ _ _ _ _ => pts_nil) (fun _ _ _ _ _ => (pe_callTy (call_tuple_ofK K) (by rfl) T.tuple boot_tuple (pa_cons (pe_lc (own := [("j", 5)]) (g := (gName 5)) (tt := tYes) rfl nd (pi_range1 (by rfl) T.range (pa_cons (pv 3) pa_nil)) (blkOk_by (by kernel_rfl)) (fun _ _ _ _ _ => (pg_name (i := 5) nd rfl (Or.inl rfl))) (fun _ _ _ _ _ => pts_nil) (fun _ _ _ _ _ => (pe_calM (pv 0) (m_Field_add T) (hr.mono (by decide)) (pa_cons (pe_ix (ix_tupK K) (pe_ix (ix_tupK K) (pv 2) (pv 4) (fun _ _ => rfl)) (pv 5) (fun _ _ => rfl)) (pa_cons (pe_ix (ix_tupK K) (pe_ix (ix_tupK K) (pv 2) (pv 5) (fun _ _ => rfl)) (pv 4) (fun _ _ => rfl)) pa_nil))))) pa_nil)))) pa_nil)))))), ?_⟩
    obtain ⟨k, n, A, hf, rfl, ⟨am, ms, rfl, hm, hM⟩, hn, q⟩ := h
    have lm : ms.length = n := by rw [Paired.len hM, mR_len]
    refine ⟨_, rfl, rfl, _, rfl, ?_⟩
    rw [qk_qua]
    refine iteF ⟨_, rfl, _, _, rfl, .inr (tq hm), ?_⟩
    rw [lm]
    refine ⟨_, rfl, _, rfl, by omega, by omega, ?_⟩
    rw [Int.toNat_natCast]
    refine lc_tup walk_rg (fun i z H => Row H z (Vc.of n fun j => A i j + A j i)) (small_n hn) (fun _ _ => trivial) (fun _ _ _ _ s z => z.kt s) yFn_same (fun i x H1 H2 yes hi s1 s2 hy hyes => ?_) gName_mono fun p H' ys s1 hp pr => ?_
    · obtain ⟨rfl, rfl⟩ := hy
      refine ⟨rfl, _, rfl, _, rfl, by omega, by omega, ?_⟩
      rw [Int.toNat_natCast]
      refine lc_tup walk_rg (fun j z _ => z = iv (A i j + A j i)) (small_n hn) (fun _ _ => trivial) (fun _ _ _ _ _ z => z) yFn_same (fun j x H3 H4 yes' hj s3 s4 hy hyes' => ?_) gName_mono fun p H' ys s3 hp pr => ?_
      · obtain ⟨rfl, rfl⟩ := hy
        have s := s2.trans s4
        obtain ⟨a1, x1, xs1, y1, z1⟩ := rows_cell (hM.kt s.kt) (i := j) (j := i) hj hi
        obtain ⟨a2, x2, xs2, y2, z2⟩ := rows_cell (hM.kt s.kt) (i := i) (j := j) hi hj
        have f := hf.mono s
        refine ⟨rfl, _, rfl, mF f (fd_no k) ⟨_, rfl, _, rfl, _, _, _, _, rfl, rfl, tq (s _ _ hm), atI_nat x2, _, rfl, _, _, _, _, rfl, rfl, tq y2, atI_nat z2, ?_⟩⟩
        refine ⟨_, rfl, _, rfl, _, _, _, _, rfl, rfl, tq (s _ _ hm), atI_nat x1, _, rfl, _, _, _, _, rfl, rfl, tq y1, atI_nat z1, ?_⟩
        exact ⟨_, _, _, rfl, k, _, _, f, rfl, rfl, hyes' _ _ (Same.refl _) rfl⟩
      · exact hyes _ H' s3 (row_of hp pr fun j hj => (Vc.of_f (g := fun j => A i j + A j i) hj).symm)
    · exact q _ H' s1 ⟨p, ys, rfl, hp, rowsP_of pr⟩


def p_Space_init (K : PySem.W.Frag) (a b c d : V) (H : Hp) (Q : VK) : Prop := ∃ (k : Kd) (n : Nat) (A : Nat → Nat → El k) (x dx : Addr), a = .ref x ∧ H x = some (.ins (He.ga K "Space") dx []) ∧ b = QK ∧ c = .int (k.q : Int) ∧ RowsT H d (mR A n) ∧ Tri A n ∧ n ≤ 6 ∧ ∀ H', But x H H' → Sc K H' (.ref x) k n A → Q .non H'
theorem k_Space (T : Tx K mg) : CalC P w K mg base 4 "Space" ["self", "kind", "q", "matrix"] (sp4 (p_Space_init K)) :=
  calC_of (d := d_Space_init) (lv := 3) (i := 79) (j := 83) (l := 81) T rfl rfl rfl rfl rfl rfl (S := ⟨rfl, rfl, rfl, by decide +kernel, rfl, by decide +kernel, by decide +kernel⟩) (N := ["self", "kind", "q", "matrix", "field", "rows"]) (fun _ _ _ _ _ _ us hl => match us, hl with | [_, _, _, _], _ => rfl) len4 <| fun f cdv A outer s H vs Q E hr h => by
    obtain ⟨v0, v1, v2, v3, rfl, h⟩ := h
    have nd : (["self", "kind", "q", "matrix", "field", "rows"] : List Str).Nodup := by decide +kernel
    obtain ⟨tM, hMost⟩ := T.most
    refine ⟨_, (pss_cons (ps_expr (pe_cal (c_check_kind T) (hr.mono (by decide)) (by rfl) (pa_cons (pv 1) (pa_cons (pv 2) pa_nil)))) (pss_cons (ps_set (i := 4) nd rfl (Or.inl rfl) (pe_calC (k_Field T) (hr.mono (by decide)) (by rfl) (pa_cons (pv 2) pa_nil))) (pss_cons (ps_set (i := 5) nd rfl (Or.inl rfl) (pe_cal (c_taken T) (hr.mono (by decide)) (by rfl) (pa_cons (pv 4) (pa_cons (pv 3) pa_nil)))) (pss_cons (ps_if (pt_not (pt_val (pe_cal (c_has_form T) (hr.mono (by decide)) (by rfl) (pa_cons (pv 4) (pa_cons (pv 1) (pa_cons (pv 5) pa_nil)))))) (pss_one ps_never) pss_nil) (pss_cons (ps_if (pt_cmpR op_gt (pe_callB (call_len_seqK K) (by rfl) T.len PySem.boot_len (pa_cons (pv 5) pa_nil)) (pe_glob (v := .int 6) (by rfl) hMost ⟨_, rfl⟩) (nomark _)) (pss_one ps_never) pss_nil) (pss_cons (ps_fldK K (pv 0) (pv 1)) (pss_cons (ps_fldK K (pv 0) (pv 2)) (pss_cons (ps_fldK K (pv 0) (pe_callB (call_len_seqK K) (by rfl) T.len PySem.boot_len (pa_cons (pv 5) pa_nil))) (pss_cons (ps_fldK K (pv 0) (pv 5)) (pss_cons (ps_fldK K (pv 0) (pv 4)) (pss_one (ps_fldK K (pv 0) (pe_cal (c_gram_of T) (hr.mono (by decide)) (by rfl) (pa_cons (pv 4) (pa_cons (pv 1) (pa_cons (pv 5) pa_nil)))))))))))))))), ?_⟩
    obtain ⟨k, n, A, x, dx, rfl, hx, rfl, rfl, hM, htri, hn, q⟩ := h
    refine ⟨_, rfl, _, rfl, _, _, rfl, k, rfl, rfl, ?_⟩
    refine ⟨_, rfl, fun xf df nxf ndf ne => ⟨_, _, rfl, k, xf, df, rfl, upd_same, rfl, fun H1 b1 f1 => ⟨rfl, ?_⟩⟩⟩
    have s1 : Same H H1 := b1.same nxf ndf
    have hf : Fd K H1 (.ref xf) k := ⟨xf, df, rfl, f1⟩
    refine ⟨_, rfl, _, rfl, _, _, rfl, k, n, mR A n, hf, hM.mono s1, mR_len A, by omega, fun r H2 s2 hr2 => ?_⟩
    refine ⟨_, rfl, _, rfl, _, rfl, _, _, _, rfl, k, n, A, rfl, hr2, htri, by omega, true, rfl, iteF ?_⟩
    obtain ⟨ar, rs, rfl, hr2, pr⟩ := hr2
    have lr : rs.length = n := by rw [Paired.len pr, mR_len]
    refine ⟨_, rfl, _, _, rfl, .inr (tq hr2), _, _, rfl, rfl, _, rfl, ?_⟩
    rw [lr, decide_eq_false (by omega)]
    refine iteF ?_
    have hx2 := (s1.trans s2) _ _ hx
    refine ⟨_, rfl, _, rfl, _, _, _, _, rfl, hx2, T.kSpace, T.nSpace_kind, by decide, ?_⟩
    refine ⟨_, rfl, _, rfl, _, _, _, _, rfl, upd_same, T.kSpace, T.nSpace_q, by show (1 : Nat) < 1000; decide, ?_⟩
    have nr : ar ≠ x := fun e => by rw [e, hx2] at hr2; cases hr2
    have nf : xf ≠ x := fun e => by rw [e, hx] at nxf; cases nxf
    refine ⟨_, rfl, _, _, rfl, .inr (tq (by rw [upd_ne nr, upd_ne nr]; exact hr2)), _, rfl, _, _, _, _, rfl, upd_same, T.kSpace, T.nSpace_n, ?_, ?_⟩
    · show (2 : Nat) < 1000
      decide
    rw [lr]
    refine ⟨_, rfl, _, rfl, _, _, _, _, rfl, upd_same, T.kSpace, T.nSpace_matrix, ?_, ?_⟩
    · show (3 : Nat) < 1000
      decide
    refine ⟨_, rfl, _, rfl, _, _, _, _, rfl, upd_same, T.kSpace, T.nSpace_field, ?_, ?_⟩
    · show (4 : Nat) < 1000
      decide
    have bu : ∀ o1 o2 o3 o4 o5, But x H2 (upd (upd (upd (upd (upd H2 x o1) x o2) x o3) x o4) x o5) := fun _ _ _ _ _ => But.trans But.upd (But.trans But.upd (But.trans But.upd (But.trans But.upd But.upd)))
    refine ⟨_, rfl, _, rfl, _, rfl, _, _, _, rfl, k, n, A, ⟨xf, df, rfl, bu _ _ _ _ _ _ _ nf (s2 _ _ f1)⟩, rfl, RowsT.but ⟨ar, rs, rfl, hr2, pr⟩ hx2 (bu _ _ _ _ _), by omega, fun g H3 s3 hg => ?_⟩
    refine ⟨_, rfl, _, _, _, _, rfl, s3 _ _ upd_same, T.kSpace, T.nSpace__gram, ?_, ?_⟩
    · show (5 : Nat) < 1000
      decide
    have bx : ∀ o, But x H3 (upd H3 x o) := fun _ => But.upd
    refine q _ ((But.of_same (s1.trans s2)).trans ((bu _ _ _ _ _).trans ((But.of_same s3).trans (bx _)))) ⟨x, dx, .ref ar, .ref xf, g, rfl, upd_same, ?_, ?_, ?_⟩
    · exact RowsT.but (RowsT.mono (RowsT.but ⟨ar, rs, rfl, hr2, pr⟩ hx2 (bu _ _ _ _ _)) s3) (s3 _ _ upd_same) (bx _)
    · exact ⟨xf, df, rfl, bx _ _ _ nf (s3 _ _ (bu _ _ _ _ _ _ _ nf (s2 _ _ f1)))⟩
    · exact RowsT.but hg (s3 _ _ upd_same) (bx _)


end
end Wit

namespace Wit
open PySem PySem.Spec PyProof.Rows L2
section
variable {P : Program} {w : World} {K : PySem.W.Frag} {mg : Str → Option Value} {base : Heap}

theorem mS {H : Hp} {v : V} {k : Kd} {n : Nat} {A : Nat → Nat → El k} {m : Str} {R : Prop} (hS : Sc K H v k n A) (hm : ∀ q n m' f g, (spF q n m' f g).lookup m = none) (z : R) : ∃ a dx fs, v = .ref a ∧ H a = some (.ins (He.ga K "Space") dx fs) ∧ fs.lookup m = none ∧ R := by
  obtain ⟨a, dx, m', f, g, rfl, ha, _⟩ := hS
  exact ⟨a, dx, _, rfl, ha, hm _ _ _ _ _, z⟩
section
variable {H : Hp} {v : V} {k : Kd} {n : Nat} {A : Nat → Nat → El k} {Q : V → Prop}
theorem rS_kind (T : Tx K mg) (hS : Sc K H v k n A) (z : Q QK) : ∃ a' C dx' fs u, v = .ref a' ∧ H a' = some (.ins C dx' fs) ∧ Cls K C ∧ NoAttr K C "kind" ∧ fs.lookup ("kind" : Str) = some u ∧ Q u := by
  obtain ⟨a, dx, m', f, g, rfl, ha, _⟩ := hS
  exact rs_kind T ha z
theorem rS_n (T : Tx K mg) (hS : Sc K H v k n A) (z : Q (.int (n : Nat))) : ∃ a' C dx' fs u, v = .ref a' ∧ H a' = some (.ins C dx' fs) ∧ Cls K C ∧ NoAttr K C "n" ∧ fs.lookup ("n" : Str) = some u ∧ Q u := by
  obtain ⟨a, dx, m', f, g, rfl, ha, _⟩ := hS
  exact rs_n T ha z
theorem rS_field (T : Tx K mg) (hS : Sc K H v k n A) (z : ∀ f, Fd K H f k → Q f) : ∃ a' C dx' fs u, v = .ref a' ∧ H a' = some (.ins C dx' fs) ∧ Cls K C ∧ NoAttr K C "field" ∧ fs.lookup ("field" : Str) = some u ∧ Q u := by
  obtain ⟨a, dx, m', f, g, rfl, ha, h1, h2, h3⟩ := hS
  exact rs_field T ha (z _ h2)
theorem rS_matrix (T : Tx K mg) (hS : Sc K H v k n A) (z : ∀ m, RowsT H m (mR A n) → Q m) : ∃ a' C dx' fs u, v = .ref a' ∧ H a' = some (.ins C dx' fs) ∧ Cls K C ∧ NoAttr K C "matrix" ∧ fs.lookup ("matrix" : Str) = some u ∧ Q u := by
  obtain ⟨a, dx, m', f, g, rfl, ha, h1, h2, h3⟩ := hS
  exact rs_matrix T ha (z _ h1)
theorem rS_gram (T : Tx K mg) (hS : Sc K H v k n A) (z : ∀ g, RowsT H g (gR A n) → Q g) : ∃ a' C dx' fs u, v = .ref a' ∧ H a' = some (.ins C dx' fs) ∧ Cls K C ∧ NoAttr K C "_gram" ∧ fs.lookup ("_gram" : Str) = some u ∧ Q u := by
  obtain ⟨a, dx, m', f, g, rfl, ha, h1, h2, h3⟩ := hS
  exact rs_gram T ha (z _ h3)
theorem rS_q (T : Tx K mg) (hS : Sc K H v k n A) (z : Q (.int (k.q : Nat))) : ∃ a' C dx' fs u, v = .ref a' ∧ H a' = some (.ins C dx' fs) ∧ Cls K C ∧ NoAttr K C "q" ∧ fs.lookup ("q" : Str) = some u ∧ Q u := by
  obtain ⟨a, dx, m', f, g, rfl, ha, h1, h2, h3⟩ := hS
  exact rs_q T ha z
end
theorem dot_of {k : Kd} {n : Nat} (f : Nat → El k) (y : Nat → El k) : dot (Vc.of n f).f y n = dot f y n := sm_congr fun i hi => by rw [Vc.of_f hi]
def SpR (K : PySem.W.Frag) (a b : Addr) (H : Hp) : Prop := ∃ (k : Kd) (n : Nat) (A : Nat → Nat → El k), Sc K H (.ref a) k n A ∧ Sc K H (.ref b) k n A

def p_Space_eq (K : PySem.W.Frag) (a b : V) (H : Hp) (Q : VK) : Prop := ∃ (k : Kd) (n : Nat) (A : Nat → Nat → El k), Sc K H a k n A ∧ Sc K H b k n A ∧ Q (.bl true) H
theorem o_eq0 (T : Tx K mg) : ∃ fd, Binds K fd ["self", "other"] [] ∧ FnOk P w K mg base CX0 1 (He.ma K (He.ga K "Space") "__eq__") fd ["self", "other"] (sp2 (p_Space_eq K)) :=
  fnok_of (d := d_Space_eq) (lv := 0) (i := 80) T rfl rfl rfl (S := ⟨rfl, rfl, rfl, by decide +kernel, rfl, by decide +kernel, by decide +kernel⟩) (N := ["self", "other"]) (fun _ _ _ _ _ _ us hl => match us, hl with | [_, _], _ => rfl) len2 <| fun f cdv A outer s H vs Q E hr h => by
    obtain ⟨v0, v1, rfl, h⟩ := h
    have nd : (["self", "other"] : List Str).Nodup := by decide +kernel
    refine ⟨_, (pss_cons (ps_if (pt_not (pt_val (pe_callB (call_isCK K T.iSpace) (by rfl) T.isinstance (by decide +kernel) (pa_cons (pv 1) (pa_cons (pe_glob (v := .ref (He.ga K "Space")) (by rfl) T.cSpace rfl) pa_nil))))) (pss_one (ps_ret pe_bl)) pss_nil) (pss_one (ps_ret (pe_and (pe_cmpR op_eq (pe_fldK K (pv 0)) (pe_fldK K (pv 1)) (nomark _)) (pe_and (pe_cmpR op_eq (pe_fldK K (pv 0)) (pe_fldK K (pv 1)) (nomark _)) (pe_one (pe_cmpR (op_eqDK K hr.units) (pe_fldK K (pv 0)) (pe_fldK K (pv 1)) (nomark _)))))))), ?_⟩
    obtain ⟨k, n, A, ⟨a, dx, m, f, g, rfl, ha, hm, hf, hg⟩, ⟨b, dy, m', f', g', rfl, hb, hm', hf', hg'⟩, q⟩ := h
    refine ⟨_, rfl, _, _, _, rfl, hb, true, rfl, iteF ?_⟩
    refine ⟨_, rfl, rs_kind T ha ⟨_, rfl, rs_kind T hb ⟨rfl, true, ?_, iteT ?_⟩⟩⟩
    · rw [decide_eq_true rfl]
    refine ⟨_, rfl, rs_q T ha ⟨_, rfl, rs_q T hb ⟨rfl, true, ?_, iteT ?_⟩⟩⟩
    · rw [decide_eq_true rfl]
    refine ⟨_, rfl, rs_matrix T ha ⟨_, rfl, rs_matrix T hb ⟨_, _, dp_mat hm, dp_mat hm', mat_shaped _, mat_shaped _, ?_⟩⟩⟩
    rw [mat_eqv']
    exact q


theorem ne_space {X : Cx} (T : Tx K mg) (hr : Room 2 X.A) (hP : X.prog = P := by rfl) (hw : X.w = w := by rfl) (hK : X.K = K := by rfl) (hmg : X.mg = mg := by rfl) (hb : X.base = base := by rfl) : OpR X (compareOp .NotEq) (rNeOwn (He.ga K "Space") (SpR K)) := by
  subst hP hw hK hmg hb
  obtain ⟨fd, hbd, F⟩ := o_eq0 (P := X.prog) (w := X.w) (base := X.base) T
  obtain ⟨o1, o2, _, o4⟩ := ownB_ok T.eqB
  refine op_ownNe (n := 1) (FnOk.imp F fun vs H Q E h => ?_) o1 o2 hbd T.neSpace T.iSpace.hm hr
  obtain ⟨a, b, rfl, ⟨k, n, A, h1, h2⟩, q⟩ := h
  exact ⟨_, _, rfl, k, n, A, h1, h2, q H Ext.rfl'⟩

def p_Space_is_row (K : PySem.W.Frag) (a b : V) (H : Hp) (Q : VK) : Prop := ∃ (k : Kd) (n : Nat) (A : Nat → Nat → El k) (x : Vc (El k) n), Sc K H a k n A ∧ Row H b x ∧ n ≤ 6 ∧ ∀ H', Same H H' → Q (.bl true) H'
theorem m_Space_is_row (T : Tx K mg) : CalM P w K mg base 4 "Space" "is_row" ["self", "value"] (sp2 (p_Space_is_row K)) :=
  calM_of (d := d_Space_is_row) (lv := 3) (i := 81) (j := 84) (l := 82) T rfl rfl rfl rfl rfl rfl (S := ⟨rfl, rfl, rfl, by decide +kernel, rfl, by decide +kernel, by decide +kernel⟩) (N := ["self", "value"]) (fun _ _ _ _ _ _ us hl => match us, hl with | [_, _], _ => rfl) len2 <| fun f cdv A outer s H vs Q E hr h => by
    obtain ⟨v0, v1, rfl, h⟩ := h
    have nd : (["self", "value"] : List Str).Nodup := by decide +kernel
    refine ⟨_, (pss_one (ps_ret (pe_cal (c_is_row T) (hr.mono (by decide)) (by rfl) (pa_cons (pe_fldK K (pv 0)) (pa_cons (pv 1) (pa_cons (pe_fldK K (pv 0)) pa_nil)))))), ?_⟩
    obtain ⟨k, n, A, x, hS, hx, hn, q⟩ := h
    exact ⟨_, rfl, rS_field T hS fun f hf => ⟨_, rfl, _, rfl, rS_n T hS ⟨_, _, _, rfl, k, n, x, hf, hx, rfl, by omega, q⟩⟩⟩


def p_Space_unit (K : PySem.W.Frag) (a b : V) (H : Hp) (Q : VK) : Prop := ∃ (k : Kd) (n : Nat) (A : Nat → Nat → El k) (i : Nat), Sc K H a k n A ∧ b = .int i ∧ n ≤ 6 ∧ ∀ r H', Same H H' → Row H' r (Vc.un (El k) n i) → Q r H'
theorem m_Space_unit (T : Tx K mg) : CalM P w K mg base 2 "Space" "unit" ["self", "i"] (sp2 (p_Space_unit K)) :=
  calM_of (d := d_Space_unit) (lv := 1) (i := 82) (j := 85) (l := 82) T rfl rfl rfl rfl rfl rfl (S := ⟨rfl, rfl, rfl, by decide +kernel, rfl, by decide +kernel, by decide +kernel⟩) (N := ["self", "i"]) (fun _ _ _ _ _ _ us hl => match us, hl with | [_, _], _ => rfl) len2 <| fun f cdv A outer s H vs Q E hr h => by
    obtain ⟨v0, v1, rfl, h⟩ := h
    have nd : (["self", "i"] : List Str).Nodup := by decide +kernel
    refine ⟨_, (pss_one (ps_ret (pe_cal (c_unit_row T) (hr.mono (by decide)) (by rfl) (pa_cons (pe_fldK K (pv 0)) (pa_cons (pv 1) pa_nil))))), ?_⟩
    obtain ⟨k, n, A, i, hS, rfl, hn, q⟩ := h
    exact ⟨_, rfl, rS_n T hS ⟨_, rfl, _, _, rfl, k, n, i, rfl, rfl, by omega, q⟩⟩


def p_Space_facing (K : PySem.W.Frag) (a b : V) (H : Hp) (Q : VK) : Prop := ∃ (k : Kd) (n : Nat) (A : Nat → Nat → El k) (y : Vc (El k) n), Sc K H a k n A ∧ Row H b y ∧ n ≤ 6 ∧ ∀ r H', Same H H' → Row H' r (fA A y) → Q r H'
theorem m_Space_facing (T : Tx K mg) : CalM P w K mg base 4 "Space" "facing" ["self", "y"] (sp2 (p_Space_facing K)) :=
  calM_of (d := d_Space_facing) (lv := 3) (i := 83) (j := 86) (l := 82) T rfl rfl rfl rfl rfl rfl (S := ⟨rfl, rfl, rfl, by decide +kernel, rfl, by decide +kernel, by decide +kernel⟩) (N := ["self", "y", "row", "item"]) (fun _ _ _ _ _ _ us hl => match us, hl with | [_, _], _ => rfl) len2 <| fun f cdv A outer s H vs Q E hr h => by
    obtain ⟨v0, v1, rfl, h⟩ := h
    have nd : (["self", "y", "row", "item"] : List Str).Nodup := by decide +kernel
    refine ⟨_, (pss_cons (ps_if (pt_cmpR op_eq (pe_fldK K (pv 0)) pe_str (nomark _)) (pss_one ps_never) pss_nil) (pss_one (ps_ret (pe_callTy (call_tuple_ofK K) (by rfl) T.tuple boot_tuple (pa_cons (pe_lc (own := [("row", 2)]) (g := (gName 2)) (tt := tYes) rfl nd (pi_tupK K (pe_fldK K (pv 0))) (blkOk_by (by kernel_rfl)) (fun _ _ _ _ _ => (pg_name (i := 2) nd rfl (Or.inl rfl))) (fun _ _ _ _ _ => pts_nil) (fun _ _ _ _ _ => (pe_cal (c_dot T) (hr.mono (by decide)) (by rfl) (pa_cons (pe_fldK K (pv 0)) (pa_cons (pv 2) (pa_cons (pv 1) pa_nil)))))) pa_nil))))), ?_⟩
    obtain ⟨k, n, A, y, hS, hy, hn, q⟩ := h
    refine ⟨_, rfl, rS_kind T hS ⟨rfl, _, rfl, ?_⟩⟩
    rw [qk_her]
    refine iteF ⟨_, rfl, rS_gram T hS fun g hg => ?_⟩
    obtain ⟨ag, gs, rfl, hg, pg⟩ := hg
    have lg : gs.length = n := by rw [Paired.len pg, gR_len]
    refine ⟨_, rfl, ⟨_, tq hg⟩, ?_⟩
    refine lc_tup (n := n) (lg ▸ walk_tup) (fun j z _ => z = iv ((fA A y).f j)) (small_n (by omega)) (fun H' s => tq (s _ _ hg)) (fun _ _ _ _ _ z => z) yAt_same (fun j z H1 H2 yes hj s1 s2 hz hyes => ?_) gName_mono fun p H' ys s1 hp pr => ?_
    · obtain ⟨rfl, e1⟩ := hz
      have hr1 := (rowsP_get pg e1).mono s2
      rw [gR_get A hj] at hr1
      refine ⟨rfl, _, rfl, rS_field T (hS.mono s2) fun f hf => ⟨_, rfl, _, rfl, _, _, _, rfl, k, n, _, y, hf, hr1, hy.mono s2, by omega, fun H3 s3 => hyes _ H3 s3 ?_⟩⟩
      unfold fA
      rw [dot_of, Vc.of_f hj]
    · exact q _ H' s1 (row_of hp pr fun _ _ => rfl)


def p_Space_product (K : PySem.W.Frag) (a b c : V) (H : Hp) (Q : VK) : Prop := ∃ (k : Kd) (n : Nat) (A : Nat → Nat → El k) (x y : Vc (El k) n), Sc K H a k n A ∧ Row H b x ∧ Row H c y ∧ n ≤ 6 ∧ ∀ H', Same H H' → Q (iv (bA A x y)) H'
theorem m_Space_product (T : Tx K mg) : CalM P w K mg base 5 "Space" "product" ["self", "x", "y"] (sp3 (p_Space_product K)) :=
  calM_of (d := d_Space_product) (lv := 4) (i := 84) (j := 87) (l := 82) T rfl rfl rfl rfl rfl rfl (S := ⟨rfl, rfl, rfl, by decide +kernel, rfl, by decide +kernel, by decide +kernel⟩) (N := ["self", "x", "y"]) (fun _ _ _ _ _ _ us hl => match us, hl with | [_, _, _], _ => rfl) len3 <| fun f cdv A outer s H vs Q E hr h => by
    obtain ⟨v0, v1, v2, rfl, h⟩ := h
    have nd : (["self", "x", "y"] : List Str).Nodup := by decide +kernel
    refine ⟨_, (pss_one (ps_ret (pe_cal (c_dot T) (hr.mono (by decide)) (by rfl) (pa_cons (pe_fldK K (pv 0)) (pa_cons (pv 1) (pa_cons (pe_calM (pv 0) (m_Space_facing T) (hr.mono (by decide)) (pa_cons (pv 2) pa_nil)) pa_nil)))))), ?_⟩
    obtain ⟨k, n, A, x, y, hS, hx, hy, hn, q⟩ := h
    refine ⟨_, rfl, rS_field T hS fun f hf => ⟨_, rfl, _, rfl, mS hS (fun _ _ _ _ _ => sp_no _ _ _ _ _) ⟨_, rfl, _, _, rfl, k, n, A, y, hS, hy, hn, fun r H1 s1 h1 => ?_⟩⟩⟩
    exact ⟨_, _, _, rfl, k, n, x, _, hf.mono s1, hx.mono s1, h1, by omega, fun H2 s2 => q H2 (s1.trans s2)⟩


def p_Space_value (K : PySem.W.Frag) (a b : V) (H : Hp) (Q : VK) : Prop := ∃ (k : Kd) (n : Nat) (A : Nat → Nat → El k) (x : Vc (El k) n), Sc K H a k n A ∧ Row H b x ∧ n ≤ 6 ∧ ∀ H', Same H H' → Q (iv (qA A x)) H'
theorem m_Space_value (T : Tx K mg) : CalM P w K mg base 6 "Space" "value" ["self", "x"] (sp2 (p_Space_value K)) :=
  calM_of (d := d_Space_value) (lv := 5) (i := 85) (j := 88) (l := 82) T rfl rfl rfl rfl rfl rfl (S := ⟨rfl, rfl, rfl, by decide +kernel, rfl, by decide +kernel, by decide +kernel⟩) (N := ["self", "x", "total", "i"]) (fun _ _ _ _ _ _ us hl => match us, hl with | [_, _], _ => rfl) len2 <| fun f cdv A outer s H vs Q E hr h => by
    obtain ⟨v0, v1, rfl, h⟩ := h
    have nd : (["self", "x", "total", "i"] : List Str).Nodup := by decide +kernel
    refine ⟨_, (pss_cons (ps_if (pt_cmpR op_eq (pe_fldK K (pv 0)) pe_str (nomark _)) (pss_one (ps_ret pe_int)) pss_nil) (pss_cons (ps_if (pt_cmpR op_eq (pe_fldK K (pv 0)) pe_str (nomark _)) (pss_one (ps_ret (pe_calM (pv 0) (m_Space_product T) (hr.mono (by decide)) (pa_cons (pv 1) (pa_cons (pv 1) pa_nil))))) pss_nil) (pss_cons (ps_set (i := 2) nd rfl (Or.inl rfl) pe_int) (pss_cons (ps_for PassesOwn.never rfl (pi_range1 (by rfl) T.range (pa_cons (pe_fldK K (pv 0)) pa_nil)) (pg_name (i := 3) nd rfl (Or.inl rfl)) (pss_one (ps_set (i := 2) nd rfl (Or.inl rfl) (pe_calM (pe_fldK K (pv 0)) (m_Field_add T) (hr.mono (by decide)) (pa_cons (pv 2) (pa_cons (pe_calM (pe_fldK K (pv 0)) (m_Field_multiply T) (hr.mono (by decide)) (pa_cons (pe_ix (ix_tupK K) (pv 1) (pv 3) (fun _ _ => rfl)) (pa_cons (pe_cal (c_dot T) (hr.mono (by decide)) (by rfl) (pa_cons (pe_fldK K (pv 0)) (pa_cons (pe_ix (ix_tupK K) (pe_fldK K (pv 0)) (pv 3) (fun _ _ => rfl)) (pa_cons (pv 1) pa_nil)))) pa_nil))) pa_nil)))))) (pss_one (ps_ret (pv 2))))))), ?_⟩
    obtain ⟨k, n, A, x, hS, ⟨ax, rfl, hx⟩, hn, q⟩ := h
    refine ⟨_, rfl, rS_kind T hS ⟨rfl, _, rfl, ?_⟩⟩
    rw [qk_alt]
    refine iteF ⟨_, rfl, rS_kind T hS ⟨rfl, _, rfl, ?_⟩⟩
    rw [qk_her]
    refine iteF ⟨_, rfl, rS_n T hS ⟨_, rfl, by omega, by omega, ?_⟩⟩
    rw [Int.toNat_natCast]
    refine for_it walk_rg (fun i σ H' => Same H H' ∧ ∃ c, σ = [some v0, some (.ref ax), some (iv (sm (fun i => x.f i * dot (A i) x.f n) i)), c]) ⟨Same.refl _, none, ?_⟩ (fun _ _ _ _ _ => trivial) (fun i z σ H1 H2 hi hp hz => ?_) fun σ H' hp => ?_
    · show [some v0, some (.ref ax), some (V.int 0), none] = _
      rw [iv_zero k]
      rfl
    · obtain ⟨s1, c, rfl⟩ := hp
      obtain ⟨rfl, rfl⟩ := hz
      have hS1 := hS.mono s1
      refine ⟨_, rfl, rS_field T hS1 fun f hf => mF hf (fd_no k) ⟨_, rfl, _, rfl, rS_field T hS1 fun f2 hf2 => mF hf2 (fd_no k) ⟨_, rfl, _, rfl, _, _, _, _, rfl, rfl, tq (s1 _ _ hx), atI_nat (vl_at x hi), ?_⟩⟩⟩
      refine ⟨_, rfl, rS_field T hS1 fun f3 hf3 => ⟨_, rfl, rS_matrix T hS1 fun m hm => ?_⟩⟩
      obtain ⟨am, ms, rfl, hm, pm⟩ := hm
      obtain ⟨y, ey, hy⟩ := rowsP_at pm (i := i) (by rw [mR_len]; exact hi)
      rw [mR_get A hi] at hy
      refine ⟨_, rfl, _, _, _, _, rfl, rfl, tq hm, atI_nat ey, _, rfl, _, _, _, rfl, k, n, _, x, hf3, hy, ⟨ax, rfl, s1 _ _ hx⟩, by omega, fun H3 s3 => ?_⟩
      rw [dot_of]
      refine ⟨_, _, _, rfl, k, _, _, hf2.mono s3, rfl, rfl, ?_⟩
      exact ⟨_, _, _, rfl, k, _, _, hf.mono s3, rfl, rfl, s1.trans s3, _, rfl⟩
    · obtain ⟨s1, c, rfl⟩ := hp
      exact ⟨_, rfl, q H' s1⟩


def p_Space_radical (K : PySem.W.Frag) (a : V) (H : Hp) (Q : VK) : Prop := ∃ (k : Kd) (n : Nat) (A : Nat → Nat → El k), Sc K H a k n A ∧ Good n A ∧ n ≤ 6 ∧ ∀ p H', Same H H' → H' p = some (.tup []) → Q (.ref p) H'
theorem m_Space_radical (T : Tx K mg) : CalM P w K mg base 8 "Space" "radical" ["self"] (sp1 (p_Space_radical K)) :=
  calM_of (d := d_Space_radical) (lv := 7) (i := 86) (j := 89) (l := 82) T rfl rfl rfl rfl rfl rfl (S := ⟨rfl, rfl, rfl, by decide +kernel, rfl, by decide +kernel, by decide +kernel⟩) (N := ["self"]) (fun _ _ _ _ _ _ us hl => match us, hl with | [_], _ => rfl) len1 <| fun f cdv A outer s H vs Q E hr h => by
    obtain ⟨v0, rfl, h⟩ := h
    have nd : (["self"] : List Str).Nodup := by decide +kernel
    refine ⟨_, (pss_one (ps_ret (pe_cal (c_kernel T) (hr.mono (by decide)) (by rfl) (pa_cons (pe_fldK K (pv 0)) (pa_cons (pe_cal (c_transposed T) (hr.mono (by decide)) (by rfl) (pa_cons (pe_fldK K (pv 0)) (pa_cons (pe_fldK K (pv 0)) pa_nil))) (pa_cons (pe_fldK K (pv 0)) pa_nil)))))), ?_⟩
    obtain ⟨k, n, A, hS, hG, hn, q⟩ := h
    refine ⟨_, rfl, rS_field T hS fun f hf => ⟨_, rfl, rS_gram T hS fun g hg => ⟨_, rfl, rS_n T hS ⟨_, _, rfl, k, n, n, _, hg, rfl, gR_len A, by omega, by omega, fun r H1 s1 h1 => ?_⟩⟩⟩⟩
    have e : ((List.range n).map fun j => Vc.of n fun i => ((gR A n).getD i (Vc.nul (El k) n)).f j) = gT A n := by
      refine List.map_congr_left fun j hj => Vc.ext fun i hi => ?_
      rw [Vc.of_f hi, Vc.of_f hi, gR_get A hi, Vc.of_f (List.mem_range.mp hj)]
    rw [e] at h1
    refine ⟨_, rfl, rS_n T (hS.mono s1) ⟨_, _, _, rfl, k, n, gT A n, hf.mono s1, RowsT.e h1, rfl, ?_, by omega, fun r2 H2 s2 h2 => ?_⟩⟩
    · unfold gT
      rw [List.length_map, List.length_range]
      omega
    · rw [hG.rad] at h2
      obtain ⟨p, rs, rfl, h2, pr⟩ := h2
      have e0 : rs = [] := List.eq_nil_of_length_eq_zero (Paired.len pr)
      exact q p H2 (s1.trans s2) (by rw [h2, e0])


end
end Wit

namespace Wit
open PySem PySem.Spec PyProof.Rows L2
section
variable {P : Program} {w : World} {K : PySem.W.Frag} {mg : Str → Option Value} {base : Heap}

def Iso (K : PySem.W.Frag) (H : Hp) (v s : V) (k : Kd) (n : Nat) (A : Nat → Nat → El k) (us : List (Vc (El k) n)) : Prop := ∃ M : List (Vc (El k) n), Im K H v s M ∧ Sc K H s k n A ∧ RP (QF.of n A) us M
theorem Iso.mono {H H' : Hp} {v s : V} {k : Kd} {n : Nat} {A : Nat → Nat → El k} {us : List (Vc (El k) n)} (h : Iso K H v s k n A us) (z : Same H H') : Iso K H' v s k n A us := let ⟨M, a, b, c⟩ := h; ⟨M, a.mono z, b.mono z, c⟩
theorem mI {H : Hp} {v s : V} {k : Kd} {n : Nat} {A : Nat → Nat → El k} {us : List (Vc (El k) n)} {m : Str} {R : Prop} (hI : Iso K H v s k n A us) (hm : ∀ s m', (isF s m').lookup m = none) (z : R) : ∃ a dx fs, v = .ref a ∧ H a = some (.ins (He.ga K "Isometry") dx fs) ∧ fs.lookup m = none ∧ R := by
  obtain ⟨M, ⟨a, dx, m', rfl, ha, _⟩, _⟩ := hI
  exact ⟨a, dx, _, rfl, ha, hm _ _, z⟩
theorem rI_space {H : Hp} {v s : V} {k : Kd} {n : Nat} {A : Nat → Nat → El k} {us : List (Vc (El k) n)} {Q : V → Prop} (T : Tx K mg) (hI : Iso K H v s k n A us) (z : Q s) : ∃ a' C dx' fs u, v = .ref a' ∧ H a' = some (.ins C dx' fs) ∧ Cls K C ∧ NoAttr K C "space" ∧ fs.lookup ("space" : Str) = some u ∧ Q u := by
  obtain ⟨M, ⟨a, dx, m', rfl, ha, _⟩, _⟩ := hI
  exact ri_space T ha z
theorem rI_matrix {H : Hp} {v s : V} {k : Kd} {n : Nat} {A : Nat → Nat → El k} {us : List (Vc (El k) n)} {Q : V → Prop} (T : Tx K mg) (hI : Iso K H v s k n A us) (z : ∀ m M, RowsT H m M → RP (QF.of n A) us M → Q m) : ∃ a' C dx' fs u, v = .ref a' ∧ H a' = some (.ins C dx' fs) ∧ Cls K C ∧ NoAttr K C "matrix" ∧ fs.lookup ("matrix" : Str) = some u ∧ Q u := by
  obtain ⟨M, ⟨a, dx, m', rfl, ha, hm⟩, _, hR⟩ := hI
  exact ri_matrix T ha (z _ M hm hR)
theorem Iso.sp {H : Hp} {v s : V} {k : Kd} {n : Nat} {A : Nat → Nat → El k} {us : List (Vc (El k) n)} (h : Iso K H v s k n A us) : Sc K H s k n A := let ⟨_, _, b, _⟩ := h; b
theorem ne_same {a : V} : (!decide (a = a)) = false := by rw [decide_eq_true rfl]; rfl

def p_keeps (K : PySem.W.Frag) (a b : V) (H : Hp) (Q : VK) : Prop := ∃ (k : Kd) (n : Nat) (A : Nat → Nat → El k) (us M : List (Vc (El k) n)), Sc K H a k n A ∧ RowsT H b M ∧ RP (QF.of n A) us M ∧ n ≤ 6 ∧ ∀ H', Same H H' → Q (.bl true) H'
theorem c_keeps (T : Tx K mg) : Cal P w K mg base 7 "keeps" ["space", "rows"] (sp2 (p_keeps K)) :=
  cal_of (d := d_keeps) (lv := 6) (i := 22) (j := 22) T rfl rfl rfl rfl rfl (keep_of (d := d_keeps) (i := 22) T rfl) (S := ⟨rfl, rfl, rfl, by decide +kernel, rfl, by decide +kernel, by decide +kernel⟩) (N := ["space", "rows", "i", "j"]) (fun _ _ _ _ _ _ us hl => match us, hl with | [_, _], _ => rfl) len2 <| fun f cdv A outer s H vs Q E hr h => by
    obtain ⟨v0, v1, rfl, h⟩ := h
    have nd : (["space", "rows", "i", "j"] : List Str).Nodup := by decide +kernel
    refine ⟨_, (pss_cons (ps_for PassesOwn.never rfl (pi_range1 (by rfl) T.range (pa_cons (pe_fldK K (pv 0)) pa_nil)) (pg_name (i := 2) nd rfl (Or.inl rfl)) (pss_cons (ps_if (pt_cmpR op_ne (pe_calM (pv 0) (m_Space_value T) (hr.mono (by decide)) (pa_cons (pe_ix (ix_tupK K) (pv 1) (pv 2) (fun _ _ => rfl)) pa_nil)) (pe_calM (pv 0) (m_Space_value T) (hr.mono (by decide)) (pa_cons (pe_calM (pv 0) (m_Space_unit T) (hr.mono (by decide)) (pa_cons (pv 2) pa_nil)) pa_nil)) (nomark _)) (pss_one (ps_ret pe_bl)) pss_nil) (pss_one (ps_for PassesOwn.never rfl (pi_range2 (by rfl) T.range (pa_cons (pe_op op_add (pv 2) pe_int) (pa_cons (pe_fldK K (pv 0)) pa_nil))) (pg_name (i := 3) nd rfl (Or.inl rfl)) (pss_one (ps_if (pt_cmpR op_ne (pe_calM (pv 0) (m_Space_product T) (hr.mono (by decide)) (pa_cons (pe_ix (ix_tupK K) (pv 1) (pv 2) (fun _ _ => rfl)) (pa_cons (pe_ix (ix_tupK K) (pv 1) (pv 3) (fun _ _ => rfl)) pa_nil))) (pe_calM (pv 0) (m_Space_product T) (hr.mono (by decide)) (pa_cons (pe_calM (pv 0) (m_Space_unit T) (hr.mono (by decide)) (pa_cons (pv 2) pa_nil)) (pa_cons (pe_calM (pv 0) (m_Space_unit T) (hr.mono (by decide)) (pa_cons (pv 3) pa_nil)) pa_nil))) (nomark _)) (pss_one (ps_ret pe_bl)) pss_nil)))))) (pss_one (ps_ret pe_bl))), ?_⟩
    obtain ⟨k, n, A, us, M, hS, ⟨am, ms, rfl, hm, pm⟩, hR, hn, q⟩ := h
    refine ⟨_, rfl, rS_n T hS ⟨_, rfl, by omega, by omega, ?_⟩⟩
    rw [Int.toNat_natCast]
    refine for_it walk_rg (fun i σ H' => Same H H' ∧ ∃ c d, σ = [some v0, some (.ref am), c, d]) ⟨Same.refl _, none, none, rfl⟩ (fun _ _ _ _ _ => trivial) (fun i z σ H1 H2 hi hp hz => ?_) fun σ H' hp => ?_
    · obtain ⟨s1, c, d, rfl⟩ := hp
      obtain ⟨rfl, rfl⟩ := hz
      have row : ∀ {l H'}, Same H H' → l < n → ∃ y, ms[l]? = some y ∧ Row H' y ((QF.of n A).app us (Vc.un (El k) n l)) := fun {l H'} s hl => by
        obtain ⟨y, ey, hy⟩ := rowsP_at pm (i := l) (by rw [hR.len]; exact hl)
        rw [hR.at hl] at hy
        exact ⟨y, ey, hy.mono s⟩
      obtain ⟨y, ey, hy⟩ := row s1 hi
      have S1 := hS.mono s1
      refine ⟨_, rfl, mS S1 (fun _ _ _ _ _ => sp_no _ _ _ _ _) ⟨_, rfl, _, rfl, _, _, _, _, rfl, rfl, tq (s1 _ _ hm), atI_nat ey, _, _, rfl, k, n, A, _, S1, hy, hn, fun H3 s3 => ?_⟩⟩
      have S3 := S1.mono s3
      refine ⟨_, rfl, mS S3 (fun _ _ _ _ _ => sp_no _ _ _ _ _) ⟨_, rfl, mS S3 (fun _ _ _ _ _ => sp_no _ _ _ _ _) ⟨_, rfl, _, _, rfl, k, n, A, i, S3, rfl, hn, fun r H4 s4 h4 => ?_⟩⟩⟩
      refine ⟨_, _, rfl, k, n, A, _, S3.mono s4, h4, hn, fun H5 s5 => ⟨rfl, _, rfl, ?_⟩⟩
      have e : qA A ((QF.of n A).app us (Vc.un (El k) n i)) = qA A (Vc.un (El k) n i) := (QF.of n A).app_Q us hR.ne _
      rw [e, ne_same]
      have s15 := ((s1.trans s3).trans s4).trans s5
      have S5 := hS.mono s15
      refine iteF ⟨_, rfl, _, _, rfl, rfl, _, rfl, rS_n T S5 ⟨_, _, rfl, ⟨by omega, by omega, by omega, by omega⟩, ?_⟩⟩
      have w2 : Walk (Itr ((i : Int) + 1) ((n : Int) - ((i : Int) + 1)).toNat) (n - (i + 1)) (fun _ => True) (YFn fun j => .int ((i + 1 + j : Nat) : Int)) := by
        have e2 : ((n : Int) - ((i : Int) + 1)).toNat = n - (i + 1) := by omega
        rw [e2]
        exact walk_range.mono (fun _ h => h) fun j H x H' _ _ y => ⟨y.1, y.2.trans (congrArg V.int (by omega))⟩
      refine for_it w2 (fun j σ H' => Same H H' ∧ ∃ d, σ = [some v0, some (.ref am), some (.int i), d]) ⟨s15, d, rfl⟩ (fun _ _ _ _ _ => trivial) (fun j z σ H6 H7 hj hp hz => ?_) fun σ H' hp => ?_
      · obtain ⟨s6, d, rfl⟩ := hp
        obtain ⟨rfl, rfl⟩ := hz
        have S6 := hS.mono s6
        obtain ⟨y1, ey1, hy1⟩ := row s6 hi
        obtain ⟨y2, ey2, hy2⟩ := row s6 (show i + 1 + j < n by omega)
        refine ⟨_, rfl, mS S6 (fun _ _ _ _ _ => sp_no _ _ _ _ _) ⟨_, rfl, _, rfl, _, _, _, _, rfl, rfl, tq (s6 _ _ hm), atI_nat ey1, _, rfl, _, rfl, _, _, _, _, rfl, rfl, tq (s6 _ _ hm), atI_nat ey2, ?_⟩⟩
        refine ⟨_, _, _, rfl, k, n, A, _, _, S6, hy1, hy2, hn, fun H8 s8 => ?_⟩
        have S8 := S6.mono s8
        refine ⟨_, rfl, mS S8 (fun _ _ _ _ _ => sp_no _ _ _ _ _) ⟨_, rfl, mS S8 (fun _ _ _ _ _ => sp_no _ _ _ _ _) ⟨_, rfl, _, _, rfl, k, n, A, i, S8, rfl, hn, fun r H9 s9 h9 => ?_⟩⟩⟩
        have S9 := S8.mono s9
        refine ⟨_, rfl, mS S9 (fun _ _ _ _ _ => sp_no _ _ _ _ _) ⟨_, rfl, _, _, rfl, k, n, A, i + 1 + j, S9, rfl, hn, fun r2 H10 s10 h10 => ?_⟩⟩
        refine ⟨_, _, _, rfl, k, n, A, _, _, S9.mono s10, h9.mono s10, h10, hn, fun H11 s11 => ⟨rfl, _, rfl, ?_⟩⟩
        have e : bA A ((QF.of n A).app us (Vc.un (El k) n i)) ((QF.of n A).app us (Vc.un (El k) n (i + 1 + j))) = bA A (Vc.un (El k) n i) (Vc.un (El k) n (i + 1 + j)) := (QF.of n A).app_B us hR.ne _ _
        rw [e, ne_same]
        exact iteF ⟨(((s6.trans s8).trans s9).trans s10).trans s11, _, rfl⟩
      · obtain ⟨s6, d, rfl⟩ := hp
        exact ⟨s6, _, _, rfl⟩
    · obtain ⟨s1, c, d, rfl⟩ := hp
      exact q H' s1


def p_is_isometry (K : PySem.W.Frag) (a b : V) (H : Hp) (Q : VK) : Prop := ∃ (k : Kd) (n : Nat) (A : Nat → Nat → El k) (us M : List (Vc (El k) n)), Sc K H a k n A ∧ RowsT H b M ∧ RP (QF.of n A) us M ∧ n ≤ 6 ∧ ∀ H', Same H H' → Q (.bl true) H'
theorem c_is_isometry (T : Tx K mg) : Cal P w K mg base 8 "is_isometry" ["space", "value"] (sp2 (p_is_isometry K)) :=
  cal_of (d := d_is_isometry) (lv := 7) (i := 23) (j := 23) T rfl rfl rfl rfl rfl (keep_of (d := d_is_isometry) (i := 23) T rfl) (S := ⟨rfl, rfl, rfl, by decide +kernel, rfl, by decide +kernel, by decide +kernel⟩) (N := ["space", "value"]) (fun _ _ _ _ _ _ us hl => match us, hl with | [_, _], _ => rfl) len2 <| fun f cdv A outer s H vs Q E hr h => by
    obtain ⟨v0, v1, rfl, h⟩ := h
    have nd : (["space", "value"] : List Str).Nodup := by decide +kernel
    refine ⟨_, (pss_cons (ps_if (pt_not (pt_val (pe_cal (c_is_matrix T) (hr.mono (by decide)) (by rfl) (pa_cons (pe_fldK K (pv 0)) (pa_cons (pv 1) (pa_cons (pe_fldK K (pv 0)) pa_nil)))))) (pss_one (ps_ret pe_bl)) pss_nil) (pss_one (ps_ret (pe_and (pe_cmpR op_ne (pe_cal (c_determinant T) (hr.mono (by decide)) (by rfl) (pa_cons (pe_fldK K (pv 0)) (pa_cons (pv 1) pa_nil))) pe_int (nomark _)) (pe_one (pe_cal (c_keeps T) (hr.mono (by decide)) (by rfl) (pa_cons (pv 0) (pa_cons (pv 1) pa_nil)))))))), ?_⟩
    obtain ⟨k, n, A, us, M, hS, hM, hR, hn, q⟩ := h
    refine ⟨_, rfl, rS_field T hS fun f hf => ⟨_, rfl, _, rfl, rS_n T hS ⟨_, _, _, rfl, k, n, M, hf, hM, hR.len, rfl, by omega, fun H1 s1 => ⟨true, rfl, iteF ?_⟩⟩⟩⟩
    refine ⟨_, rfl, rS_field T (hS.mono s1) fun f hf => ⟨_, rfl, _, _, rfl, k, n, M, hf, hM.mono s1, hR.len, by omega, hR.full, fun x H2 s2 hx => ⟨rfl, _, rfl, ?_⟩⟩⟩
    rw [iv_eq0, decide_eq_false hx]
    refine iteT ⟨_, rfl, _, rfl, _, _, rfl, k, n, A, us, M, hS.mono (s1.trans s2), hM.mono (s1.trans s2), hR, hn, fun H3 s3 => q H3 ((s1.trans s2).trans s3)⟩


def p_Isometry_init (K : PySem.W.Frag) (a b c : V) (H : Hp) (Q : VK) : Prop := ∃ (k : Kd) (n : Nat) (A : Nat → Nat → El k) (us M : List (Vc (El k) n)) (x dx : Addr), a = .ref x ∧ H x = some (.ins (He.ga K "Isometry") dx []) ∧ Sc K H b k n A ∧ RowsT H c M ∧ RP (QF.of n A) us M ∧ n ≤ 6 ∧ ∀ H', But x H H' → Im K H' (.ref x) b M → Q .non H'
theorem k_Isometry (T : Tx K mg) : CalC P w K mg base 9 "Isometry" ["self", "space", "matrix"] (sp3 (p_Isometry_init K)) :=
  calC_of (d := d_Isometry_init) (lv := 8) (i := 87) (j := 92) (l := 90) T rfl rfl rfl rfl rfl rfl (S := ⟨rfl, rfl, rfl, by decide +kernel, rfl, by decide +kernel, by decide +kernel⟩) (N := ["self", "space", "matrix"]) (fun _ _ _ _ _ _ us hl => match us, hl with | [_, _, _], _ => rfl) len3 <| fun f cdv A outer s H vs Q E hr h => by
    obtain ⟨v0, v1, v2, rfl, h⟩ := h
    have nd : (["self", "space", "matrix"] : List Str).Nodup := by decide +kernel
    refine ⟨_, (pss_cons (ps_if (PW.pt (pw_or (pt_not (pt_val (pe_callB (call_isCK K T.iSpace) (by rfl) T.isinstance (by decide +kernel) (pa_cons (pv 1) (pa_cons (pe_glob (v := .ref (He.ga K "Space")) (by rfl) T.cSpace rfl) pa_nil))))) (pw_or1 (pt_not (pt_val (pe_cal (c_is_matrix T) (hr.mono (by decide)) (by rfl) (pa_cons (pe_fldK K (pv 1)) (pa_cons (pv 2) (pa_cons (pe_fldK K (pv 1)) pa_nil))))))))) (pss_one ps_never) pss_nil) (pss_cons (ps_if (pt_not (pt_val (pe_cal (c_is_isometry T) (hr.mono (by decide)) (by rfl) (pa_cons (pv 1) (pa_cons (pv 2) pa_nil))))) (pss_one ps_never) pss_nil) (pss_cons (ps_fldK K (pv 0) (pv 1)) (pss_one (ps_fldK K (pv 0) (pv 2)))))), ?_⟩
    obtain ⟨k, n, A, us, M, x, dx, rfl, hx, hS, hM, hR, hn, q⟩ := h
    obtain ⟨as, ds, ms, fs, gs, rfl, has, hS'⟩ := id hS
    refine ⟨_, rfl, _, _, _, rfl, has, true, rfl, iteF ?_⟩
    refine ⟨_, rfl, rS_field T hS fun f hf => ⟨_, rfl, _, rfl, rS_n T hS ⟨_, _, _, rfl, k, n, M, hf, hM, hR.len, rfl, by omega, fun H1 s1 => ⟨true, rfl, iteF ?_⟩⟩⟩⟩
    refine ⟨_, rfl, _, rfl, _, _, rfl, k, n, A, us, M, hS.mono s1, hM.mono s1, hR, hn, fun H2 s2 => ⟨true, rfl, iteF ?_⟩⟩
    have hx2 := (s1.trans s2) _ _ hx
    refine ⟨_, rfl, _, rfl, _, _, _, _, rfl, hx2, T.kIsometry, T.nIsometry_space, by decide, ?_⟩
    refine ⟨_, rfl, _, rfl, _, _, _, _, rfl, upd_same, T.kIsometry, T.nIsometry_matrix, by show (1 : Nat) < 1000; decide, ?_⟩
    have b2 : ∀ o1 o2, But x H2 (upd (upd H2 x o1) x o2) := fun _ _ => But.trans But.upd But.upd
    exact q _ ((But.of_same (s1.trans s2)).trans (b2 _ _)) ⟨x, dx, _, rfl, upd_same, RowsT.but (hM.mono (s1.trans s2)) hx2 (b2 _ _)⟩


/-- a new isometry of the class's own making -/
theorem mk_iso {H : Hp} {b c : V} {k : Kd} {n : Nat} {A : Nat → Nat → El k} {us M : List (Vc (El k) n)} {Q : VK} {E : XK} (hS : Sc K H b k n A) (hM : RowsT H c M) (hR : RP (QF.of n A) us M) (hn : n ≤ 6) (q : ∀ r H', Same H H' → Iso K H' r b k n A us → Q r H') :
    ∀ x dx, H x = none → H dx = none → dx ≠ x → sp3 (p_Isometry_init K) (.ref x :: ([b, c] ++ [])) (upd (upd H dx (.own x)) x (.ins (He.ga K "Isometry") dx [])) (fun v H2 => v = .non ∧ Q (.ref x) H2) E := fun x dx nx nd ne => by
  have s : Same H (upd (upd H dx (.own x)) x (.ins (He.ga K "Isometry") dx [])) := fun c o e => by
    rw [upd_ne (ne_of_none e nx), upd_ne (ne_of_none e nd)]
    exact e
  exact ⟨_, _, _, rfl, k, n, A, us, M, x, dx, rfl, upd_same, hS.mono s, hM.mono s, hR, hn, fun H' b' hI => ⟨rfl, q _ H' (b'.same nx nd) ⟨M, hI, hS.mono (b'.same nx nd), hR⟩⟩⟩

def p_Isometry_call (K : PySem.W.Frag) (a b : V) (H : Hp) (Q : VK) : Prop := ∃ (k : Kd) (n : Nat) (A : Nat → Nat → El k) (us : List (Vc (El k) n)) (s : V) (x : Vc (El k) n), Iso K H a s k n A us ∧ Row H b x ∧ n ≤ 6 ∧ ∀ r H', Same H H' → Row H' r ((QF.of n A).app us x) → Q r H'
theorem o_call0 (T : Tx K mg) : ∃ fd, Binds K fd ["self", "v"] [] ∧ FnOk P w K mg base CX0 6 (He.ma K (He.ga K "Isometry") "__call__") fd ["self", "v"] (sp2 (p_Isometry_call K)) :=
  fnok_of (d := d_Isometry_call) (lv := 5) (i := 88) T rfl rfl rfl (S := ⟨rfl, rfl, rfl, by decide +kernel, rfl, by decide +kernel, by decide +kernel⟩) (N := ["self", "v"]) (fun _ _ _ _ _ _ us hl => match us, hl with | [_, _], _ => rfl) len2 <| fun f cdv A outer s H vs Q E hr h => by
    obtain ⟨v0, v1, rfl, h⟩ := h
    have nd : (["self", "v"] : List Str).Nodup := by decide +kernel
    refine ⟨_, (pss_cons (ps_if (pt_not (pt_val (pe_calM (pe_fldK K (pv 0)) (m_Space_is_row T) (hr.mono (by decide)) (pa_cons (pv 1) pa_nil)))) (pss_one ps_never) pss_nil) (pss_one (ps_ret (pe_cal (c_moved T) (hr.mono (by decide)) (by rfl) (pa_cons (pe_fldK K (pe_fldK K (pv 0))) (pa_cons (pv 1) (pa_cons (pe_fldK K (pv 0)) (pa_cons (pe_fldK K (pe_fldK K (pv 0))) pa_nil)))))))), ?_⟩
    obtain ⟨k, n, A, us, sp, x, hI, hx, hn, q⟩ := h
    refine ⟨_, rfl, rI_space T hI (mS hI.sp (fun _ _ _ _ _ => sp_no _ _ _ _ _) ⟨_, rfl, _, _, rfl, k, n, A, x, hI.sp, hx, hn, fun H1 s1 => ⟨true, rfl, iteF ?_⟩⟩)⟩
    have I1 := hI.mono s1
    refine ⟨_, rfl, rI_space T I1 (rS_field T I1.sp fun f hf => ?_)⟩
    refine ⟨_, rfl, _, rfl, rI_matrix T I1 fun m M hm hR => ?_⟩
    refine ⟨_, rfl, rI_space T I1 (rS_n T I1.sp ?_)⟩
    refine ⟨_, _, _, _, rfl, k, n, n, M, x, hf, RowsT.e hm, hx.mono s1, rfl, hR.len, by omega, by omega, fun r H2 s2 h2 => q r H2 (s1.trans s2) ?_⟩
    rw [← hR.act]
    exact h2


def p_Isometry_then (K : PySem.W.Frag) (a b : V) (H : Hp) (Q : VK) : Prop := ∃ (k : Kd) (n : Nat) (A : Nat → Nat → El k) (us vs : List (Vc (El k) n)) (s : V), Iso K H a s k n A us ∧ Iso K H b s k n A vs ∧ n ≤ 6 ∧ ∀ r H', Same H H' → Iso K H' r s k n A (us ++ vs) → Q r H'
theorem m_Isometry_then (T : Tx K mg) : CalM P w K mg base 11 "Isometry" "then" ["self", "g"] (sp2 (p_Isometry_then K)) :=
  calM_of (d := d_Isometry_then) (lv := 10) (i := 89) (j := 93) (l := 91) T rfl rfl rfl rfl rfl rfl (S := ⟨rfl, rfl, rfl, by decide +kernel, rfl, by decide +kernel, by decide +kernel⟩) (N := ["self", "g"]) (fun _ _ _ _ _ _ us hl => match us, hl with | [_, _], _ => rfl) len2 <| fun f cdv A outer s H vs Q E hr h => by
    obtain ⟨v0, v1, rfl, h⟩ := h
    have nd : (["self", "g"] : List Str).Nodup := by decide +kernel
    refine ⟨_, (pss_cons (ps_if (PW.pt (pw_or (pt_not (pt_val (pe_callB (call_isCK K T.iIsometry) (by rfl) T.isinstance (by decide +kernel) (pa_cons (pv 1) (pa_cons (pe_glob (v := .ref (He.ga K "Isometry")) (by rfl) T.cIsometry rfl) pa_nil))))) (pw_or1 (pt_cmpR (ne_space T (hr.mono (by decide))) (pe_fldK K (pv 1)) (pe_fldK K (pv 0)) (nomark _))))) (pss_one ps_never) pss_nil) (pss_one (ps_ret (pe_calC (k_Isometry T) (hr.mono (by decide)) (by rfl) (pa_cons (pe_fldK K (pv 0)) (pa_cons (pe_cal (c_times T) (hr.mono (by decide)) (by rfl) (pa_cons (pe_fldK K (pe_fldK K (pv 0))) (pa_cons (pe_fldK K (pv 0)) (pa_cons (pe_fldK K (pv 1)) (pa_cons (pe_fldK K (pe_fldK K (pv 0))) pa_nil))))) pa_nil)))))), ?_⟩
    obtain ⟨k, n, A, us, vs, sp, hI, hJ, hn, q⟩ := h
    obtain ⟨N, ⟨b, db, mb, rfl, hb, hN⟩, _, hRN⟩ := id hJ
    obtain ⟨as, ds, ms, fs, gs, rfl, has, hS'⟩ := id hI.sp
    refine ⟨_, rfl, _, _, _, rfl, hb, true, rfl, iteF ?_⟩
    refine ⟨_, rfl, rI_space T hJ ⟨_, rfl, rI_space T hI ⟨⟨as, as, ds, ds, _, _, rfl, rfl, has, has, k, n, A, hI.sp, hI.sp⟩, fun H1 x1 => ⟨_, rfl, iteF ?_⟩⟩⟩⟩
    have s1 : Same H H1 := x1
    have I1 := hI.mono s1
    have J1 := hJ.mono s1
    refine ⟨_, rfl, rI_space T I1 ?_⟩
    refine ⟨_, rfl, rI_space T I1 (rS_field T I1.sp fun f hf => ?_)⟩
    refine ⟨_, rfl, rI_matrix T I1 fun m M hm hR => ?_⟩
    refine ⟨_, rfl, rI_matrix T J1 fun m2 M2 hm2 hR2 => ?_⟩
    refine ⟨_, rfl, rI_space T I1 (rS_n T I1.sp ?_)⟩
    refine ⟨_, _, _, _, rfl, k, n, M, M2, hf, hm, hm2, rfl, hR.len, hR2.len, by omega, fun r H2 s2 h2 => ?_⟩
    exact mk_iso (I1.sp.mono s2) h2 (hR.mul hR2) hn fun r H3 s3 h3 => q r H3 ((s1.trans s2).trans s3) h3


def p_Isometry_inverse (K : PySem.W.Frag) (a : V) (H : Hp) (Q : VK) : Prop := ∃ (k : Kd) (n : Nat) (A : Nat → Nat → El k) (us : List (Vc (El k) n)) (s : V), Iso K H a s k n A us ∧ n ≤ 6 ∧ ∀ r H', Same H H' → Iso K H' r s k n A us.reverse → Q r H'
theorem m_Isometry_inverse (T : Tx K mg) : CalM P w K mg base 11 "Isometry" "inverse" ["self"] (sp1 (p_Isometry_inverse K)) :=
  calM_of (d := d_Isometry_inverse) (lv := 10) (i := 90) (j := 94) (l := 91) T rfl rfl rfl rfl rfl rfl (S := ⟨rfl, rfl, rfl, by decide +kernel, rfl, by decide +kernel, by decide +kernel⟩) (N := ["self"]) (fun _ _ _ _ _ _ us hl => match us, hl with | [_], _ => rfl) len1 <| fun f cdv A outer s H vs Q E hr h => by
    obtain ⟨v0, rfl, h⟩ := h
    have nd : (["self"] : List Str).Nodup := by decide +kernel
    refine ⟨_, (pss_one (ps_ret (pe_calC (k_Isometry T) (hr.mono (by decide)) (by rfl) (pa_cons (pe_fldK K (pv 0)) (pa_cons (pe_cal (c_matrix_inverse T) (hr.mono (by decide)) (by rfl) (pa_cons (pe_fldK K (pe_fldK K (pv 0))) (pa_cons (pe_fldK K (pv 0)) pa_nil))) pa_nil))))), ?_⟩
    obtain ⟨k, n, A, us, sp, hI, hn, q⟩ := h
    refine ⟨_, rfl, rI_space T hI ⟨_, rfl, rI_space T hI (rS_field T hI.sp fun f hf => ⟨_, rfl, rI_matrix T hI fun m M hm hR => ⟨_, _, rfl, k, n, M, hf, hm, hR.len, by omega, hR.full, fun r H1 N s1 h1 hl hinv => ?_⟩⟩)⟩⟩
    exact mk_iso (hI.sp.mono s1) h1 (hR.inv hl hinv) hn fun r H2 s2 h2 => q r H2 (s1.trans s2) h2


end
end Wit

namespace Wit
open PySem PySem.Spec PyProof.Rows L2
section
variable {P : Program} {w : World} {K : PySem.W.Frag} {mg : Str → Option Value} {base : Heap}

def p_check_kinds (K : PySem.W.Frag) (a b c d : V) (H : Hp) (Q : VK) : Prop := ∃ (k : Kd) (n : Nat) (A : Nat → Nat → El k) (u : Vc (El k) n) (vu : V) (p p2 : Addr), Sc K H a k n A ∧ b = QK ∧ c = .ref p ∧ H p = some (.lst [vu]) ∧ Row H vu u ∧ d = .ref p2 ∧ H p2 = some (.lst []) ∧ n ≤ 6 ∧ ∀ H', Same H H' → Q .non H'
theorem c_check_kinds (T : Tx K mg) : Cal P w K mg base 5 "check_kinds" ["space", "kind", "rows", "numbers"] (sp4 (p_check_kinds K)) :=
  cal_of (d := d_check_kinds) (lv := 4) (i := 24) (j := 24) T rfl rfl rfl rfl rfl (keep_of (d := d_check_kinds) (i := 24) T rfl) (S := ⟨rfl, rfl, rfl, by decide +kernel, rfl, by decide +kernel, by decide +kernel⟩) (N := ["space", "kind", "rows", "numbers", "row", "c"]) (fun _ _ _ _ _ _ us hl => match us, hl with | [_, _, _, _], _ => rfl) len4 <| fun f cdv A outer s H vs Q E hr h => by
    obtain ⟨v0, v1, v2, v3, rfl, h⟩ := h
    have nd : (["space", "kind", "rows", "numbers", "row", "c"] : List Str).Nodup := by decide +kernel
    refine ⟨_, (pss_cons (ps_if (pt_cmpR op_ne (pe_fldK K (pv 0)) (pv 1) (nomark _)) (pss_one ps_never) pss_nil) (pss_cons (ps_for PassesOwn.never rfl (pi_listK K (pv 2)) (pg_name (i := 4) nd rfl (Or.inl rfl)) (pss_one (ps_if (pt_not (pt_val (pe_calM (pv 0) (m_Space_is_row T) (hr.mono (by decide)) (pa_cons (pv 4) pa_nil)))) (pss_one ps_never) pss_nil))) (pss_one (ps_for PassesOwn.never rfl (pi_listK K (pv 3)) (pg_name (i := 5) nd rfl (Or.inl rfl)) (pss_one (ps_if (pt_not (pt_val (pe_calM (pe_fldK K (pv 0)) (m_Field_is_number T) (hr.mono (by decide)) (pa_cons (pv 5) pa_nil)))) (pss_one ps_never) pss_nil)))))), ?_⟩
    obtain ⟨k, n, A, u, vu, p, p2, hS, rfl, rfl, hp, hu, rfl, hp2, hn, q⟩ := h
    refine ⟨_, rfl, rS_kind T hS ⟨_, rfl, rfl, _, rfl, ?_⟩⟩
    rw [ne_same]
    refine iteF ⟨_, rfl, _, rfl, ⟨_, lq' hp⟩, ?_⟩
    refine for_it (walk_list (xs := [vu])) (fun i σ H' => Same H H' ∧ ∃ c d, σ = [some v0, some QK, some (.ref p), some (.ref p2), c, d]) ⟨Same.refl _, none, none, rfl⟩ (fun i σ H' _ hh => lq' (hh.1 _ _ hp)) (fun i z σ H1 H2 hi hh hz => ?_) fun σ H' hh => ?_
    · obtain ⟨s1, c, d, rfl⟩ := hh
      obtain ⟨rfl, e⟩ := hz
      have e0 : i = 0 := by
        have : i < 1 := hi
        omega
      subst e0
      cases e
      have S1 := hS.mono s1
      exact ⟨_, rfl, mS S1 (fun _ _ _ _ _ => sp_no _ _ _ _ _) ⟨_, rfl, _, _, rfl, k, n, A, u, S1, hu.mono s1, hn, fun H3 s3 => ⟨true, rfl, iteF ⟨s1.trans s3, _, _, rfl⟩⟩⟩⟩
    · obtain ⟨s1, c, d, rfl⟩ := hh
      refine ⟨_, rfl, _, rfl, ⟨_, lq' (s1 _ _ hp2)⟩, ?_⟩
      refine for_it (walk_list (xs := [])) (fun i σ H2 => H2 = H') rfl (fun i σ H2 _ e => by rw [e]; exact lq' (s1 _ _ hp2)) (fun i z σ H1 H2 hi _ _ => absurd hi (Nat.not_lt_zero _)) fun σ H2 e => ?_
      rw [e]
      exact q H' s1


def p_along (K : PySem.W.Frag) (a b c : V) (H : Hp) (Q : VK) : Prop := ∃ (k : Kd) (n : Nat) (A : Nat → Nat → El k) (u : Vc (El k) n), Sc K H a k n A ∧ Row H b u ∧ c = iv (-(qA A u)⁻¹) ∧ qA A u ≠ 0 ∧ n ≤ 6 ∧ ∀ r H', Same H H' → Iso K H' r a k n A [u] → Q r H'
theorem c_along (T : Tx K mg) : Cal P w K mg base 11 "along" ["space", "u", "c"] (sp3 (p_along K)) :=
  cal_of (d := d_along) (lv := 10) (i := 25) (j := 25) T rfl rfl rfl rfl rfl (keep_of (d := d_along) (i := 25) T rfl) (S := ⟨rfl, rfl, rfl, by decide +kernel, rfl, by decide +kernel, by decide +kernel⟩) (N := ["space", "u", "c", "field", "rows", "i", "x"]) (fun _ _ _ _ _ _ us hl => match us, hl with | [_, _, _], _ => rfl) len3 <| fun f cdv A outer s H vs Q E hr h => by
    obtain ⟨v0, v1, v2, rfl, h⟩ := h
    have nd : (["space", "u", "c", "field", "rows", "i", "x"] : List Str).Nodup := by decide +kernel
    refine ⟨_, (pss_cons (ps_set (i := 3) nd rfl (Or.inl rfl) (pe_fldK K (pv 0))) (pss_cons (ps_set (i := 4) nd rfl (Or.inl rfl) (pe_lst pa_nil)) (pss_cons (ps_for PassesOwn.never rfl (pi_range1 (by rfl) T.range (pa_cons (pe_fldK K (pv 0)) pa_nil)) (pg_name (i := 5) nd rfl (Or.inl rfl)) (pss_cons (ps_set (i := 6) nd rfl (Or.inl rfl) (pe_calM (pv 0) (m_Space_unit T) (hr.mono (by decide)) (pa_cons (pv 5) pa_nil))) (pss_one (ps_expr (pe_bm PySem.F.plainAttrs_list PySem.F.slot_list_append PySem.F.type_list_append mt_append (pv 4) (pa_cons (pe_cal (c_add T) (hr.mono (by decide)) (by rfl) (pa_cons (pv 3) (pa_cons (pv 6) (pa_cons (pe_cal (c_scaled T) (hr.mono (by decide)) (by rfl) (pa_cons (pv 3) (pa_cons (pv 1) (pa_cons (pe_calM (pv 3) (m_Field_multiply T) (hr.mono (by decide)) (pa_cons (pv 2) (pa_cons (pe_calM (pv 0) (m_Space_product T) (hr.mono (by decide)) (pa_cons (pv 6) (pa_cons (pv 1) pa_nil))) pa_nil))) pa_nil)))) pa_nil)))) pa_nil)))))) (pss_one (ps_ret (pe_calC (k_Isometry T) (hr.mono (by decide)) (by rfl) (pa_cons (pv 0) (pa_cons (pe_callTy (call_tuple_ofK K) (by rfl) T.tuple boot_tuple (pa_cons (pv 4) pa_nil)) pa_nil)))))))), ?_⟩
    obtain ⟨k, n, A, u, hS, hu, rfl, hne, hn, q⟩ := h
    refine ⟨_, rfl, rS_field T hS fun f hf => ?_⟩
    refine ⟨by decide, fun aR nR => ?_⟩
    have sR := upd_none (o := .lst []) nR
    have S0 := hS.mono sR
    refine ⟨_, rfl, rS_n T S0 ⟨_, rfl, by omega, by omega, ?_⟩⟩
    rw [Int.toNat_natCast]
    refine for_it walk_rg (fun i σ H' => Same H H' ∧ ∃ c d, σ = [some v0, some v1, some (iv (-(qA A u)⁻¹)), some f, some (.ref aR), c, d] ∧ LL H' aR (((List.range i).map (Vc.un (El k) n)).map ((QF.of n A).rf u))) ⟨sR, none, none, rfl, [], upd_same, .nil⟩ (fun _ _ _ _ _ => trivial) (fun i z σ H1 H2 hi hp hz => ?_) fun σ H' hp => ?_
    · obtain ⟨s1, c, d, rfl, rs, eR, pR⟩ := hp
      obtain ⟨rfl, rfl⟩ := hz
      have S1 := hS.mono s1
      refine ⟨_, rfl, mS S1 (fun _ _ _ _ _ => sp_no _ _ _ _ _) ⟨_, rfl, _, _, rfl, k, n, A, i, S1, rfl, hn, fun x H3 s3 h3 => ?_⟩⟩
      have S3 := S1.mono s3
      have eR3 := s3 _ _ eR
      refine ⟨_, rfl, .inl ⟨rfl, _, lq' eR3⟩, ?_⟩
      refine ⟨_, rfl, _, rfl, _, rfl, _, rfl, _, rfl, mF (hf.mono (s1.trans s3)) (fd_no k) ⟨_, rfl, _, rfl, mS S3 (fun _ _ _ _ _ => sp_no _ _ _ _ _) ⟨_, rfl, _, rfl, _, _, _, rfl, k, n, A, _, _, S3, h3, hu.mono (s1.trans s3), hn, fun H4 s4 => ?_⟩⟩⟩
      have f4 := hf.mono ((s1.trans s3).trans s4)
      refine ⟨_, _, _, rfl, k, _, _, f4, rfl, rfl, ?_⟩
      refine ⟨_, _, _, rfl, k, n, u, _, f4, hu.mono ((s1.trans s3).trans s4), rfl, by omega, fun r H5 s5 h5 => ?_⟩
      refine ⟨_, _, _, rfl, k, n, _, _, f4.mono s5, h3.mono (s4.trans s5), h5, by omega, fun r2 H6 s6 h6 => ?_⟩
      have eR6 := s6 _ _ (s5 _ _ (s4 _ _ eR3))
      refine ⟨_, _, _, rfl, rfl, eR6, small_n (by rw [Paired.len pR, List.length_map, List.length_map, List.length_range]; omega), ?_⟩
      have s16 := (((s1.trans s3).trans s4).trans s5).trans s6
      have kt : KT H6 (upd H6 aR (.lst (rs ++ [r2]))) := kt_lst eR6
      refine ⟨s16.upd nR, _, _, rfl, _, upd_same, ?_⟩
      rw [List.range_succ, List.map_append, List.map_append]
      exact Paired.append' (RowsP.kt pR (KT.trans (((s3.trans s4).trans s5).trans s6).kt kt)) (.cons (h6.kt kt) .nil)
    · obtain ⟨s1, c, d, rfl, rs, eR, pR⟩ := hp
      refine ⟨_, rfl, _, rfl, _, _, rfl, .inl ⟨lq' eR, fun p hp => ?_⟩⟩
      have sp := upd_none (o := .tup rs) hp
      exact mk_iso (hS.mono (s1.trans sp)) ⟨p, rs, rfl, upd_same, pR.kt sp.kt⟩ (RP.rf (QF.of n A) hne) hn fun r H2 s2 h2 => q r H2 ((s1.trans sp).trans s2) h2


def p_reflection (K : PySem.W.Frag) (a b : V) (H : Hp) (Q : VK) : Prop := ∃ (k : Kd) (n : Nat) (A : Nat → Nat → El k) (u : Vc (El k) n), Sc K H a k n A ∧ Row H b u ∧ qA A u ≠ 0 ∧ n ≤ 6 ∧ ∀ r H', Same H H' → Iso K H' r a k n A [u] → Q r H'
theorem c_reflection (T : Tx K mg) : Cal P w K mg base 12 "reflection" ["space", "u"] (sp2 (p_reflection K)) :=
  cal_of (d := d_reflection) (lv := 11) (i := 26) (j := 26) T rfl rfl rfl rfl rfl (keep_of (d := d_reflection) (i := 26) T rfl) (S := ⟨rfl, rfl, rfl, by decide +kernel, rfl, by decide +kernel, by decide +kernel⟩) (N := ["space", "u"]) (fun _ _ _ _ _ _ us hl => match us, hl with | [_, _], _ => rfl) len2 <| fun f cdv A outer s H vs Q E hr h => by
    obtain ⟨v0, v1, rfl, h⟩ := h
    have nd : (["space", "u"] : List Str).Nodup := by decide +kernel
    refine ⟨_, (pss_cons (ps_expr (pe_cal (c_check_kinds T) (hr.mono (by decide)) (by rfl) (pa_cons (pv 0) (pa_cons pe_str (pa_cons (pe_lst (pa_cons (pv 1) pa_nil)) (pa_cons (pe_lst pa_nil) pa_nil)))))) (pss_cons (ps_if (pt_cmpR op_eq (pe_calM (pv 0) (m_Space_value T) (hr.mono (by decide)) (pa_cons (pv 1) pa_nil)) pe_int (nomark _)) (pss_one ps_never) pss_nil) (pss_one (ps_ret (pe_cal (c_along T) (hr.mono (by decide)) (by rfl) (pa_cons (pv 0) (pa_cons (pv 1) (pa_cons (pe_calM (pe_fldK K (pv 0)) (m_Field_negative T) (hr.mono (by decide)) (pa_cons (pe_calM (pe_fldK K (pv 0)) (m_Field_inverse T) (hr.mono (by decide)) (pa_cons (pe_calM (pv 0) (m_Space_value T) (hr.mono (by decide)) (pa_cons (pv 1) pa_nil)) pa_nil)) pa_nil)) pa_nil)))))))), ?_⟩
    obtain ⟨k, n, A, u, hS, hu, hne, hn, q⟩ := h
    refine ⟨_, rfl, _, rfl, (by decide : (1 : Nat) ≤ sizeLine), fun p1 n1 => ?_⟩
    have s1 := upd_none (o := .lst [v1]) n1
    refine ⟨by decide, fun p2 n2 => ?_⟩
    have s2 := upd_none (o := .lst []) n2
    refine ⟨_, _, _, _, rfl, k, n, A, u, v1, p1, p2, hS.mono (s1.trans s2), rfl, rfl, s2 _ _ upd_same, hu.mono (s1.trans s2), rfl, upd_same, hn, fun H3 s3 => ?_⟩
    have s := (s1.trans s2).trans s3
    have S3 := hS.mono s
    refine ⟨_, rfl, mS S3 (fun _ _ _ _ _ => sp_no _ _ _ _ _) ⟨_, rfl, _, _, rfl, k, n, A, u, S3, hu.mono s, hn, fun H4 s4 => ⟨rfl, _, rfl, ?_⟩⟩⟩
    rw [iv_eq0, decide_eq_false hne]
    have S4 := S3.mono s4
    refine iteF ⟨_, rfl, _, rfl, _, rfl, rS_field T S4 fun f hf => mF hf (fd_no k) ⟨_, rfl, rS_field T S4 fun f2 hf2 => mF hf2 (fd_no k) ⟨_, rfl, mS S4 (fun _ _ _ _ _ => sp_no _ _ _ _ _) ⟨_, rfl, _, _, rfl, k, n, A, u, S4, hu.mono (s.trans s4), hn, fun H5 s5 => ?_⟩⟩⟩⟩
    refine ⟨_, _, rfl, k, _, hf2.mono s5, rfl, hne, ?_⟩
    refine ⟨_, _, rfl, k, _, hf.mono s5, rfl, ?_⟩
    have s45 := (s.trans s4).trans s5
    exact ⟨_, _, _, rfl, k, n, A, u, hS.mono s45, hu.mono s45, rfl, hne, hn, fun r H6 s6 h6 => q r H6 (s45.trans s6) h6⟩


theorem ker_length {k : Kd} {n : Nat} (M : List (Vc (El k) n)) : (ker M).length ≤ n := by
  show (redT (found M)).length ≤ n
  rw [red_tp]
  exact red_piv _ _

def p_left_over (K : PySem.W.Frag) (a b c : V) (H : Hp) (Q : VK) : Prop := ∃ (k : Kd) (n : Nat) (A : Nat → Nat → El k) (M : List (Vc (El k) n)) (x : Vc (El k) n) (ac : Addr) (vx : V), Sc K H a k n A ∧ RowsE H b M ∧ c = .ref ac ∧ H ac = some (.tup [vx]) ∧ Row H vx x ∧ M.length ≤ 1000 ∧ n ≤ 6 ∧ ∀ r H', Same H H' → RowsL H' r (lo (QF.of n A) M x) → Q r H'
theorem c_left_over (T : Tx K mg) : Cal P w K mg base 8 "left_over" ["space", "rows", "chosen"] (sp3 (p_left_over K)) :=
  cal_of (d := d_left_over) (lv := 7) (i := 27) (j := 27) T rfl rfl rfl rfl rfl (keep_of (d := d_left_over) (i := 27) T rfl) (S := ⟨rfl, rfl, rfl, by decide +kernel, rfl, by decide +kernel, by decide +kernel⟩) (N := ["space", "rows", "chosen", "table", "weights", "x", "row"]) (fun _ _ _ _ _ _ us hl => match us, hl with | [_, _, _], _ => rfl) len3 <| fun f cdv A outer s H vs Q E hr h => by
    obtain ⟨v0, v1, v2, rfl, h⟩ := h
    have nd : (["space", "rows", "chosen", "table", "weights", "x", "row"] : List Str).Nodup := by decide +kernel
    refine ⟨_, (pss_cons (ps_setLc (i := 3) (own := [("x", 5)]) (g := (gName 5)) (tt := tYes) rfl nd rfl rfl (sw_true rfl rfl rfl (by decide +kernel)) (pi_tupK K (pv 2)) (blkOk_by (by kernel_rfl)) (fun _ _ _ _ _ => (pg_name (i := 5) nd rfl (Or.inr rfl))) (fun _ _ _ _ _ => pts_nil) (fun _ _ _ _ _ => (pe_callTy (call_tuple_ofK K) (by rfl) T.tuple boot_tuple (pa_cons (pe_lc (own := [("row", 6)]) (g := (gName 6)) (tt := tYes) rfl nd (pi_or (pi_tupK K (pv 1)) (pi_listK K (pv 1))) (blkOk_by (by kernel_rfl)) (fun _ _ _ _ _ => (pg_name (i := 6) nd rfl (Or.inl rfl))) (fun _ _ _ _ _ => pts_nil) (fun _ _ _ _ _ => (pe_calM (pv 0) (m_Space_product T) (hr.mono (by decide)) (pa_cons (pv 6) (pa_cons (pv 5) pa_nil))))) pa_nil)))) (pss_cons (ps_set (i := 4) nd rfl (Or.inl rfl) (pe_cal (c_kernel T) (hr.mono (by decide)) (by rfl) (pa_cons (pe_fldK K (pv 0)) (pa_cons (pv 3) (pa_cons (pe_callB (call_len_seqK K) (by rfl) T.len PySem.boot_len (pa_cons (pv 1) pa_nil)) pa_nil))))) (pss_one (ps_ret (pe_lc (own := [("row", 6)]) (g := (gName 6)) (tt := tYes) rfl nd (pi_tupK K (pv 4)) (blkOk_by (by kernel_rfl)) (fun _ _ _ _ _ => (pg_name (i := 6) nd rfl (Or.inl rfl))) (fun _ _ _ _ _ => pts_nil) (fun _ _ _ _ _ => (pe_cal (c_combine T) (hr.mono (by decide)) (by rfl) (pa_cons (pe_fldK K (pv 0)) (pa_cons (pv 1) (pa_cons (pv 6) (pa_cons (pe_fldK K (pv 0)) pa_nil))))))))))), ?_⟩
    obtain ⟨k, n, A, M, x, ac, vx, hS, ⟨ar, rs, rfl, hr', hM⟩, rfl, hc, hx, lM, hn, q⟩ := h
    have lr : rs.length = M.length := Paired.len hM
    refine ⟨_, rfl, _, rfl, ⟨_, tq hc⟩, ?_⟩
    refine lc_set (walk_tup (xs := [vx])) (fun _ z H => Row H z (wt (QF.of n A) M x)) (by decide : (1 : Nat) < sizeLine) (fun H' s => tq (s _ _ hc)) (fun _ _ _ _ s z => z.kt s) yAt_same (fun j z H1 H2 yes hj s1 s2 hz hyes => ?_) gName_mono fun aT H1 ts s1 nT eT pT => ?_
    · obtain ⟨rfl, e⟩ := hz
      have e0 : j = 0 := by
        have : j < 1 := hj
        omega
      subst e0
      cases e
      refine ⟨rfl, ?_⟩
      refine seq_two (hr'.imp (s2 _ _) (s2 _ _)) rfl fun J wk => ?_
      refine lc_tup (n := M.length) (lr ▸ wk) (fun l z _ => z = iv (bA A (M.getD l (Vc.nul (El k) n)) x)) (small_n lM) (fun H' s => s) (fun _ _ _ _ _ z => z) yAt_same (fun l z H3 H4 yes' hl s3 s4 hz hyes' => ?_) gName_mono fun p H' ys s3 hp pr => ?_
      · obtain ⟨rfl, e1⟩ := hz
        have s24 := s2.trans s4
        have S4 := hS.mono s24
        exact ⟨rfl, _, rfl, mS S4 (fun _ _ _ _ _ => sp_no _ _ _ _ _) ⟨_, rfl, _, rfl, _, _, _, rfl, k, n, A, _, x, S4, (rowsP_get hM e1).mono s24, hx.mono s24, hn, fun H5 s5 => hyes' _ H5 s5 rfl⟩⟩
      · exact hyes _ H' s3 (row_of hp pr fun l hl => (Vc.of_f (g := fun l => (QF.of n A).B (M.getD l (Vc.nul (El k) n)) x) hl).symm)
    · have hT : RowsP H1 [wt (QF.of n A) M x] ts := by
        have := rowsP_of (g := fun _ => wt (QF.of n A) M x) pT
        exact this
      have S1 := hS.mono s1
      have hr1 := hr'.imp (s1 ar _) (s1 ar _)
      have hr1' : SqL K H1 ar rs ∨ SqT K H1 ar rs := hr1.elim (fun z => .inr (tq z)) fun z => .inl (lq' z)
      refine ⟨_, rfl, rS_field T S1 fun f hf => ⟨_, rfl, _, rfl, _, _, rfl, hr1', ?_⟩⟩
      refine ⟨_, _, _, rfl, k, M.length, [wt (QF.of n A) M x], hf, ⟨aT, ts, rfl, .inr eT, hT⟩, ?_, (by decide : (1 : Nat) ≤ 1000), lM, fun r H2 s2 h2 => ?_⟩
      · rw [lr]
      obtain ⟨aw, ws, rfl, hw, pw⟩ := h2
      refine ⟨_, rfl, _, rfl, ⟨_, tq hw⟩, ?_⟩
      have lw : ws.length = (ker [wt (QF.of n A) M x]).length := Paired.len pw
      have lk := ker_length [wt (QF.of n A) M x]
      refine lc_lst walk_tup (fun j z H => Row H z (ap M ((ker [wt (QF.of n A) M x]).getD j (Vc.nul (El k) M.length)))) (small_n (by omega)) (fun H' s => tq (s _ _ hw)) (fun _ _ _ _ s z => z.kt s) yAt_same (fun j z H3 H4 yes hj s3 s4 hz hyes => ?_) gName_mono fun p H' ys s3 hp pr => ?_
      · obtain ⟨rfl, e1⟩ := hz
        have s24 := s2.trans s4
        have S4 := S1.mono s24
        refine ⟨rfl, _, rfl, rS_field T S4 fun f hf => ⟨_, rfl, _, rfl, _, rfl, rS_n T S4 ⟨_, _, _, _, rfl, k, n, M.length, M, _, hf, ⟨ar, rs, rfl, hr1.imp (s24 _ _) (s24 _ _), hM.kt (s1.trans s24).kt⟩, (rowsP_get pw e1).mono s4, rfl, rfl, by omega, lM, fun r H5 s5 h5 => hyes r H5 s5 h5⟩⟩⟩
      · refine q _ H' ((s1.trans s2).trans s3) ⟨p, ys, rfl, hp, ?_⟩
        unfold lo
        rw [map_range (ap M) (ker [wt (QF.of n A) M x]) (Vc.nul (El k) M.length), ← lw]
        exact rowsP_of pr


def p_sum_with (K : PySem.W.Frag) (a b c d : V) (H : Hp) (Q : VK) : Prop := ∃ (k : Kd) (n : Nat) (A : Nat → Nat → El k) (x y : Vc (El k) n) (t : El k), Sc K H a k n A ∧ Row H b x ∧ c = iv t ∧ Row H d y ∧ n ≤ 6 ∧ ∀ r H', Same H H' → Row H' r (x + y.sc t) → Q r H'
theorem c_sum_with (T : Tx K mg) : Cal P w K mg base 4 "sum_with" ["space", "x", "c", "y"] (sp4 (p_sum_with K)) :=
  cal_of (d := d_sum_with) (lv := 3) (i := 28) (j := 28) T rfl rfl rfl rfl rfl (keep_of (d := d_sum_with) (i := 28) T rfl) (S := ⟨rfl, rfl, rfl, by decide +kernel, rfl, by decide +kernel, by decide +kernel⟩) (N := ["space", "x", "c", "y"]) (fun _ _ _ _ _ _ us hl => match us, hl with | [_, _, _, _], _ => rfl) len4 <| fun f cdv A outer s H vs Q E hr h => by
    obtain ⟨v0, v1, v2, v3, rfl, h⟩ := h
    have nd : (["space", "x", "c", "y"] : List Str).Nodup := by decide +kernel
    refine ⟨_, (pss_one (ps_ret (pe_cal (c_add T) (hr.mono (by decide)) (by rfl) (pa_cons (pe_fldK K (pv 0)) (pa_cons (pv 1) (pa_cons (pe_cal (c_scaled T) (hr.mono (by decide)) (by rfl) (pa_cons (pe_fldK K (pv 0)) (pa_cons (pv 3) (pa_cons (pv 2) pa_nil)))) pa_nil)))))), ?_⟩
    obtain ⟨k, n, A, x, y, t, hS, hx, rfl, hy, hn, q⟩ := h
    refine ⟨_, rfl, rS_field T hS fun f hf => ⟨_, rfl, _, rfl, rS_field T hS fun f2 hf2 => ⟨_, rfl, _, rfl, _, _, _, rfl, k, n, y, t, hf2, hy, rfl, by omega, fun r H1 s1 h1 => ?_⟩⟩⟩
    exact ⟨_, _, _, rfl, k, n, x, _, hf.mono s1, hx.mono s1, h1, by omega, fun r2 H2 s2 h2 => q r2 H2 (s1.trans s2) h2⟩


end
end Wit

namespace Wit
open PySem PySem.Spec PyProof.Rows L2
section
variable {P : Program} {w : World} {K : PySem.W.Frag} {mg : Str → Option Value} {base : Heap}

theorem ix_two {H : Hp} {a : Addr} {us : List V} {l : Nat} {y : V} {i j : Nat} {σ : L2.St} {Q : VK} (h : H a = some (.tup us) ∨ H a = some (.lst us)) (e1 : σ[i]? = some (some (.ref a))) (e2 : σ[j]? = some (some (.int (l : Nat)))) (hy : us[l]? = some y) (q : Q y H) :
    tOp (rIxT K) (tVar i) (tVar j) σ H Q ∨ tOp (rIxL K) (tVar i) (tVar j) σ H Q := by
  rcases h with h | h
  · exact .inl ⟨_, e1, _, e2, _, _, _, _, rfl, rfl, tq h, atI_nat hy, q⟩
  · exact .inr ⟨_, e1, _, e2, _, _, _, _, rfl, rfl, lq' h, atI_nat hy, q⟩
theorem val_of_one : ∀ k : Kd, El.of k 1 = (1 : El k) := by
  intro k; cases k <;> decide +kernel
theorem q_ge (k : Kd) : 3 ≤ k.q := by cases k <;> decide
theorem ne_iv {k : Kd} {x : El k} (h : x ≠ 0) : (!decide (iv x = V.int 0)) = true := by rw [iv_eq0, decide_eq_false h]; rfl
theorem eq_iv {k : Kd} {x : El k} (h : x = 0) : (!decide (iv x = V.int 0)) = false := by rw [iv_eq0, decide_eq_true h]; rfl

def p_valued (K : PySem.W.Frag) (a b : V) (H : Hp) (Q : VK) : Prop := ∃ (k : Kd) (n : Nat) (A : Nat → Nat → El k) (M : List (Vc (El k) n)), Sc K H a k n A ∧ RowsE H b M ∧ M.length ≤ 1000 ∧ n ≤ 6 ∧ (¬ ∀ v, Spl M v → qA A v = 0) ∧ ∀ r H' y, Same H H' → Row H' r y → qA A y ≠ 0 → Spl M y → Q r H'
theorem c_valued (T : Tx K mg) : Cal P w K mg base 7 "valued" ["space", "rows"] (sp2 (p_valued K)) :=
  cal_of (d := d_valued) (lv := 6) (i := 29) (j := 29) T rfl rfl rfl rfl rfl (keep_of (d := d_valued) (i := 29) T rfl) (S := ⟨rfl, rfl, rfl, by decide +kernel, rfl, by decide +kernel, by decide +kernel⟩) (N := ["space", "rows", "x", "i", "k", "c"]) (fun _ _ _ _ _ _ us hl => match us, hl with | [_, _], _ => rfl) len2 <| fun f cdv A outer s H vs Q E hr h => by
    obtain ⟨v0, v1, rfl, h⟩ := h
    have nd : (["space", "rows", "x", "i", "k", "c"] : List Str).Nodup := by decide +kernel
    refine ⟨_, (pss_cons (ps_for PassesOwn.never rfl (pi_or (pi_tupK K (pv 1)) (pi_listK K (pv 1))) (pg_name (i := 2) nd rfl (Or.inl rfl)) (pss_one (ps_if (pt_cmpR op_ne (pe_calM (pv 0) (m_Space_value T) (hr.mono (by decide)) (pa_cons (pv 2) pa_nil)) pe_int (nomark _)) (pss_one (ps_ret (pv 2))) pss_nil))) (pss_cons (ps_for PassesOwn.never rfl (pi_range1 (by rfl) T.range (pa_cons (pe_callB (call_len_seqK K) (by rfl) T.len PySem.boot_len (pa_cons (pv 1) pa_nil)) pa_nil)) (pg_name (i := 3) nd rfl (Or.inl rfl)) (pss_one (ps_for PassesOwn.never rfl (pi_range1 (by rfl) T.range (pa_cons (pv 3) pa_nil)) (pg_name (i := 4) nd rfl (Or.inl rfl)) (pss_one (ps_for PassesOwn.never rfl (pi_tupK K (pe_calM0 (pe_fldK K (pv 0)) (m_Field_numbers T) (hr.mono (by decide)))) (pg_name (i := 5) nd rfl (Or.inl rfl)) (pss_cons (ps_set (i := 2) nd rfl (Or.inl rfl) (pe_cal (c_sum_with T) (hr.mono (by decide)) (by rfl) (pa_cons (pv 0) (pa_cons (pe_or2 (pe_ix (ix_tupK K) (pv 1) (pv 3) (fun _ _ => rfl)) (pe_ix (ix_listK K) (pv 1) (pv 3) (fun _ _ => rfl))) (pa_cons (pv 5) (pa_cons (pe_or2 (pe_ix (ix_tupK K) (pv 1) (pv 4) (fun _ _ => rfl)) (pe_ix (ix_listK K) (pv 1) (pv 4) (fun _ _ => rfl))) pa_nil)))))) (pss_one (ps_if (pt_cmpR op_ne (pe_calM (pv 0) (m_Space_value T) (hr.mono (by decide)) (pa_cons (pv 2) pa_nil)) pe_int (nomark _)) (pss_one (ps_ret (pv 2))) pss_nil)))))))) (pss_one ps_never))), ?_⟩
    obtain ⟨k, n, A, M, hS, ⟨ar, rs, rfl, hr', hM⟩, lM, hn, hno, q⟩ := h
    have lr : rs.length = M.length := Paired.len hM
    have mem : ∀ {i}, i < M.length → M.getD i (Vc.nul (El k) n) ∈ M := fun {i} hi => by
      rw [getD_of (List.getElem?_eq_getElem hi)]
      exact List.getElem_mem hi
    refine seq_two hr' rfl fun J wk => ?_
    refine for_it wk (fun i σ H' => Same H H' ∧ (∃ c, σ = [some v0, some (.ref ar), c, none, none, none]) ∧ ∀ j, j < i → qA A (M.getD j (Vc.nul (El k) n)) = 0) ⟨Same.refl _, ⟨none, rfl⟩, fun _ h => absurd h (Nat.not_lt_zero _)⟩ (fun i σ H' _ hp => hp.1) (fun i z σ H1 H2 hi hp hz => ?_) fun σ H' hp => ?_
    · obtain ⟨s1, ⟨c, rfl⟩, h0⟩ := hp
      obtain ⟨rfl, e1⟩ := hz
      have hx := (rowsP_get hM e1).mono s1
      have S1 := hS.mono s1
      refine ⟨_, rfl, mS S1 (fun _ _ _ _ _ => sp_no _ _ _ _ _) ⟨_, rfl, _, _, rfl, k, n, A, _, S1, hx, hn, fun H3 s3 => ⟨rfl, _, rfl, ?_⟩⟩⟩
      by_cases c0 : qA A (M.getD i (Vc.nul (El k) n)) = 0
      · rw [eq_iv c0]
        refine iteF ⟨s1.trans s3, ⟨_, rfl⟩, fun j hj => ?_⟩
        by_cases e : j = i
        · rw [e]; exact c0
        · exact h0 j (by omega)
      · rw [ne_iv c0]
        exact iteT ⟨_, rfl, q z H3 _ (s1.trans s3) (hx.mono s3) c0 (.mem (mem (by omega)))⟩
    · obtain ⟨s1, ⟨c, rfl⟩, h0⟩ := hp
      rw [lr] at h0
      have hr1 : SqL K H' ar rs ∨ SqT K H' ar rs := hr'.elim (fun z => .inr (tq (s1 _ _ z))) fun z => .inl (lq' (s1 _ _ z))
      refine ⟨_, rfl, _, _, rfl, hr1, _, rfl, by omega, by omega, ?_⟩
      rw [Int.toNat_natCast, lr]
      refine for_it walk_rg (fun i σ H' => Same H H' ∧ (∃ c d e g, σ = [some v0, some (.ref ar), c, d, e, g]) ∧ ∀ j l, l < j → j < i → ∀ t, t < k.q → qA A (M.getD j (Vc.nul (El k) n) + (M.getD l (Vc.nul (El k) n)).sc (El.of k t)) = 0) ⟨s1, ⟨_, _, _, _, rfl⟩, fun _ _ _ h => absurd h (Nat.not_lt_zero _)⟩ (fun _ _ _ _ _ => trivial) (fun i z σ H1 H2 hi hp hz => ?_) fun σ H' hp => ?_
      · obtain ⟨s2, ⟨c, d, e, g, rfl⟩, h1⟩ := hp
        obtain ⟨rfl, rfl⟩ := hz
        refine ⟨_, rfl, _, rfl, by omega, by omega, ?_⟩
        rw [Int.toNat_natCast]
        refine for_it walk_rg (fun l σ H' => Same H H' ∧ (∃ c e g, σ = [some v0, some (.ref ar), c, some (.int i), e, g]) ∧ ∀ m, m < l → ∀ t, t < k.q → qA A (M.getD i (Vc.nul (El k) n) + (M.getD m (Vc.nul (El k) n)).sc (El.of k t)) = 0) ⟨s2, ⟨_, _, _, rfl⟩, fun _ h => absurd h (Nat.not_lt_zero _)⟩ (fun _ _ _ _ _ => trivial) (fun l z σ H3 H4 hl hp hz => ?_) fun σ H' hp => ?_
        · obtain ⟨s3, ⟨c, e, g, rfl⟩, h2⟩ := hp
          obtain ⟨rfl, rfl⟩ := hz
          have S3 := hS.mono s3
          refine ⟨_, rfl, rS_field T S3 fun f hf => mF hf (fd_no k) ⟨_, rfl, k, hf, fun pn H5 s5 e5 => ⟨_, rfl, ⟨_, tq e5⟩, ?_⟩⟩⟩
          refine for_it (walk_tup (xs := (List.range k.q).map fun i => iv (El.of k i))) (fun t σ H' => (Same H H' ∧ Same H5 H') ∧ (∃ c g, σ = [some v0, some (.ref ar), c, some (.int i), some (.int l), g]) ∧ ∀ t', t' < t → qA A (M.getD i (Vc.nul (El k) n) + (M.getD l (Vc.nul (El k) n)).sc (El.of k t')) = 0) ⟨⟨s3.trans s5, Same.refl _⟩, ⟨_, _, rfl⟩, fun _ h => absurd h (Nat.not_lt_zero _)⟩ (fun _ σ H' _ hp => tq (hp.1.2 _ _ e5)) (fun t z σ H6 H7 ht hp hz => ?_) fun σ H' hp => ?_
          · obtain ⟨⟨s6, t6⟩, ⟨c, g, rfl⟩, h3⟩ := hp
            obtain ⟨rfl, e1⟩ := hz
            have ht : t < k.q := by simpa using ht
            have e1 : some (iv (El.of k t)) = some z := by
              rw [← e1]
              simp [ht]
            cases e1
            obtain ⟨y1, ey1, hy1⟩ := rowsP_at hM (i := i) hi
            obtain ⟨y2, ey2, hy2⟩ := rowsP_at hM (i := l) (by omega)
            have S6 := hS.mono s6
            refine ⟨_, rfl, ix_two (hr'.imp (s6 _ _) (s6 _ _)) rfl rfl ey1 ⟨_, rfl, ix_two (hr'.imp (s6 _ _) (s6 _ _)) rfl rfl ey2 ?_⟩⟩
            refine ⟨_, _, _, _, rfl, k, n, A, _, _, _, S6, hy1.mono s6, rfl, hy2.mono s6, hn, fun r H8 s8 h8 => ?_⟩
            have S8 := S6.mono s8
            refine ⟨_, rfl, mS S8 (fun _ _ _ _ _ => sp_no _ _ _ _ _) ⟨_, rfl, _, _, rfl, k, n, A, _, S8, h8, hn, fun H9 s9 => ⟨rfl, _, rfl, ?_⟩⟩⟩
            by_cases c0 : qA A (M.getD i (Vc.nul (El k) n) + (M.getD l (Vc.nul (El k) n)).sc (El.of k t)) = 0
            · rw [eq_iv c0]
              refine iteF ⟨⟨(s6.trans s8).trans s9, (t6.trans s8).trans s9⟩, ⟨_, _, rfl⟩, fun t' ht' => ?_⟩
              by_cases e : t' = t
              · rw [e]; exact c0
              · exact h3 t' (by omega)
            · rw [ne_iv c0]
              exact iteT ⟨_, rfl, q r H9 _ ((s6.trans s8).trans s9) (h8.mono s9) c0 (.add (.mem (mem hi)) (.sc _ (.mem (mem (by omega)))))⟩
          · obtain ⟨⟨s6, t6⟩, ⟨c, g, rfl⟩, h3⟩ := hp
            refine ⟨s6, ⟨_, _, _, rfl⟩, fun m hm t ht => ?_⟩
            by_cases e : m = l
            · rw [e]
              exact h3 t (by simpa using ht)
            · exact h2 m (by omega) t ht
        · obtain ⟨s3, ⟨c, e, g, rfl⟩, h2⟩ := hp
          refine ⟨s3, ⟨_, _, _, _, rfl⟩, fun j l hl hj t ht => ?_⟩
          by_cases e : j = i
          · rw [e] at hl ⊢
            exact h2 l hl t ht
          · exact h1 j l hl (by omega) t ht
      · obtain ⟨s2, ⟨c, d, e, g, rfl⟩, h1⟩ := hp
        refine absurd (val_none (G := QF.of n A) (fun r hr => ?_) fun i l hl hi => ?_) hno
        · obtain ⟨i, hi, e⟩ := List.mem_iff_getElem.mp hr
          have := h0 i hi
          rw [getD_of (List.getElem?_eq_getElem hi), e] at this
          exact this
        · have := h1 i l hl hi 1 (Nat.lt_of_lt_of_le (by decide) (q_ge k))
          rw [val_of_one] at this
          exact this


def p_check_turns (K : PySem.W.Frag) (a b c : V) (H : Hp) (Q : VK) : Prop := ∃ (k : Kd) (n : Nat) (A : Nat → Nat → El k) (us : List (Vc (El k) n)) (s : V), Iso K H a s k n A us ∧ b = QK ∧ c = .bl true ∧ Good n A ∧ n ≤ 6 ∧ ∀ H', Same H H' → Q .non H'
theorem c_check_turns (T : Tx K mg) : Cal P w K mg base 9 "check_turns" ["f", "kind", "odd"] (sp3 (p_check_turns K)) :=
  cal_of (d := d_check_turns) (lv := 8) (i := 30) (j := 30) T rfl rfl rfl rfl rfl (keep_of (d := d_check_turns) (i := 30) T rfl) (S := ⟨rfl, rfl, rfl, by decide +kernel, rfl, by decide +kernel, by decide +kernel⟩) (N := ["f", "kind", "odd"]) (fun _ _ _ _ _ _ us hl => match us, hl with | [_, _, _], _ => rfl) len3 <| fun f cdv A outer s H vs Q E hr h => by
    obtain ⟨v0, v1, v2, rfl, h⟩ := h
    have nd : (["f", "kind", "odd"] : List Str).Nodup := by decide +kernel
    refine ⟨_, (pss_cons (ps_if (pt_cmpR op_ne (pe_fldK K (pe_fldK K (pv 0))) (pv 1) (nomark _)) (pss_one ps_never) pss_nil) (pss_cons (ps_if (PW.pt (pw_and (pt_val (pv 2)) (pw_and1 (pt_cmpR op_eq (pe_fldK K (pe_fldK K (pe_fldK K (pv 0)))) pe_int (nomark _))))) (pss_one ps_never) pss_nil) (pss_one (ps_if (pt_cmpR op_gt (pe_callB (call_len_seqK K) (by rfl) T.len PySem.boot_len (pa_cons (pe_calM0 (pe_fldK K (pv 0)) (m_Space_radical T) (hr.mono (by decide))) pa_nil)) pe_int (nomark _)) (pss_one ps_never) pss_nil)))), ?_⟩
    obtain ⟨k, n, A, us, sp, hI, rfl, rfl, hG, hn, q⟩ := h
    refine ⟨_, rfl, rI_space T hI (rS_kind T hI.sp ⟨_, rfl, rfl, _, rfl, ?_⟩)⟩
    rw [ne_same]
    refine iteF ⟨_, rfl, true, rfl, iteT ⟨_, rfl, rI_space T hI (rS_field T hI.sp fun f hf => rF_p T hf ⟨rfl, _, rfl, ?_⟩)⟩⟩
    rw [p_two]
    refine iteF ⟨_, rfl, rI_space T hI (mS hI.sp (fun _ _ _ _ _ => sp_no _ _ _ _ _) ⟨_, rfl, k, n, A, hI.sp, hG, hn, fun p H1 s1 e1 => ?_⟩)⟩
    exact ⟨_, _, rfl, .inr (tq e1), _, _, rfl, rfl, _, rfl, iteF (q H1 s1)⟩


def p_difference (K : PySem.W.Frag) (a b c : V) (H : Hp) (Q : VK) : Prop := ∃ (k : Kd) (n : Nat) (A : Nat → Nat → El k) (x y : Vc (El k) n), Sc K H a k n A ∧ Row H b x ∧ Row H c y ∧ n ≤ 6 ∧ ∀ r H', Same H H' → Row H' r (x + y.sc (-1)) → Q r H'
theorem c_difference (T : Tx K mg) : Cal P w K mg base 4 "difference" ["space", "x", "y"] (sp3 (p_difference K)) :=
  cal_of (d := d_difference) (lv := 3) (i := 31) (j := 31) T rfl rfl rfl rfl rfl (keep_of (d := d_difference) (i := 31) T rfl) (S := ⟨rfl, rfl, rfl, by decide +kernel, rfl, by decide +kernel, by decide +kernel⟩) (N := ["space", "x", "y"]) (fun _ _ _ _ _ _ us hl => match us, hl with | [_, _, _], _ => rfl) len3 <| fun f cdv A outer s H vs Q E hr h => by
    obtain ⟨v0, v1, v2, rfl, h⟩ := h
    have nd : (["space", "x", "y"] : List Str).Nodup := by decide +kernel
    refine ⟨_, (pss_one (ps_ret (pe_cal (c_add T) (hr.mono (by decide)) (by rfl) (pa_cons (pe_fldK K (pv 0)) (pa_cons (pv 1) (pa_cons (pe_cal (c_scaled T) (hr.mono (by decide)) (by rfl) (pa_cons (pe_fldK K (pv 0)) (pa_cons (pv 2) (pa_cons (pe_calM (pe_fldK K (pv 0)) (m_Field_negative T) (hr.mono (by decide)) (pa_cons pe_int pa_nil)) pa_nil)))) pa_nil)))))), ?_⟩
    obtain ⟨k, n, A, x, y, hS, hx, hy, hn, q⟩ := h
    refine ⟨_, rfl, rS_field T hS fun f hf => ⟨_, rfl, _, rfl, rS_field T hS fun f2 hf2 => ⟨_, rfl, _, rfl, rS_field T hS fun f3 hf3 => mF hf3 (fd_no k) ⟨_, _, rfl, k, 1, hf3, iv_one k, ?_⟩⟩⟩⟩
    refine ⟨_, _, _, rfl, k, n, y, _, hf2, hy, rfl, by omega, fun r H1 s1 h1 => ?_⟩
    exact ⟨_, _, _, rfl, k, n, x, _, hf.mono s1, hx.mono s1, h1, by omega, fun r2 H2 s2 h2 => q r2 H2 (s1.trans s2) h2⟩


def p_rows_between (K : PySem.W.Frag) (a b c : V) (H : Hp) (Q : VK) : Prop := ∃ (k : Kd) (n : Nat) (A : Nat → Nat → El k) (x y : Vc (El k) n), Sc K H a k n A ∧ Row H b x ∧ Row H c y ∧ n ≤ 6 ∧ ∀ r H', Same H H' → RowsT H' r (btw (QF.of n A) x y) → Q r H'
theorem c_rows_between (T : Tx K mg) : Cal P w K mg base 7 "rows_between" ["space", "x", "y"] (sp3 (p_rows_between K)) :=
  cal_of (d := d_rows_between) (lv := 6) (i := 32) (j := 32) T rfl rfl rfl rfl rfl (keep_of (d := d_rows_between) (i := 32) T rfl) (S := ⟨rfl, rfl, rfl, by decide +kernel, rfl, by decide +kernel, by decide +kernel⟩) (N := ["space", "x", "y", "d"]) (fun _ _ _ _ _ _ us hl => match us, hl with | [_, _, _], _ => rfl) len3 <| fun f cdv A outer s H vs Q E hr h => by
    obtain ⟨v0, v1, v2, rfl, h⟩ := h
    have nd : (["space", "x", "y", "d"] : List Str).Nodup := by decide +kernel
    refine ⟨_, (pss_cons (ps_if (pt_cmpR (op_eqDK K hr.units) (pv 1) (pv 2) (nomark _)) (pss_one (ps_ret (pe_tup pa_nil))) pss_nil) (pss_cons (ps_set (i := 3) nd rfl (Or.inl rfl) (pe_cal (c_difference T) (hr.mono (by decide)) (by rfl) (pa_cons (pv 0) (pa_cons (pv 2) (pa_cons (pv 1) pa_nil))))) (pss_cons (ps_if (pt_cmpR op_ne (pe_calM (pv 0) (m_Space_value T) (hr.mono (by decide)) (pa_cons (pv 3) pa_nil)) pe_int (nomark _)) (pss_one (ps_ret (pe_tup (pa_cons (pv 3) pa_nil)))) pss_nil) (pss_one (ps_ret (pe_tup (pa_cons (pe_cal (c_add T) (hr.mono (by decide)) (by rfl) (pa_cons (pe_fldK K (pv 0)) (pa_cons (pv 1) (pa_cons (pv 2) pa_nil)))) (pa_cons (pv 2) pa_nil)))))))), ?_⟩
    obtain ⟨k, n, A, x, y, hS, hx, hy, hn, q⟩ := h
    refine ⟨_, rfl, _, rfl, _, _, dp_row hx, dp_row hy, row_shaped x, row_shaped y, _, rfl, ?_⟩
    rw [row_eqv]
    unfold btw at q
    refine ite2 (fun c => ?_) fun c => ?_
    · have c := of_decide_eq_true c
      rw [if_pos c] at q
      exact ⟨by decide, fun p hp => q _ _ (upd_none hp) ⟨p, [], rfl, upd_same, .nil⟩⟩
    · have c : ¬ x = y := fun z => c (decide_eq_true z)
      rw [if_neg c] at q
      refine ⟨_, rfl, _, rfl, _, rfl, _, _, _, rfl, k, n, A, y, x, hS, hy, hx, hn, fun r H1 s1 h1 => ?_⟩
      have S1 := hS.mono s1
      refine ⟨_, rfl, mS S1 (fun _ _ _ _ _ => sp_no _ _ _ _ _) ⟨_, rfl, _, _, rfl, k, n, A, _, S1, h1, hn, fun H2 s2 => ⟨rfl, _, rfl, ?_⟩⟩⟩
      by_cases c0 : qA A (y + x.sc (-1)) = 0
      · rw [eq_iv c0]
        rw [if_neg (show ¬ ((QF.of n A).Q (y + x.sc (-1)) ≠ 0) from fun z => z c0)] at q
        have s12 := s1.trans s2
        refine iteF ⟨_, rfl, rS_field T (S1.mono s2) fun f hf => ⟨_, rfl, _, rfl, _, _, _, rfl, k, n, x, y, hf, hx.mono s12, hy.mono s12, by omega, fun r3 H3 s3 h3 => ⟨_, rfl, (by decide : (2 : Nat) ≤ sizeLine), fun p hp => ?_⟩⟩⟩
        have sp := upd_none (o := .tup [r3, v2]) hp
        exact q _ _ ((s12.trans s3).trans sp) ⟨p, _, rfl, upd_same, .cons (h3.mono sp) (.cons (hy.mono ((s12.trans s3).trans sp)) .nil)⟩
      · rw [ne_iv c0]
        rw [if_pos (show (QF.of n A).Q (y + x.sc (-1)) ≠ 0 from c0)] at q
        refine iteT ⟨_, rfl, (by decide : (1 : Nat) ≤ sizeLine), fun p hp => ?_⟩
        have sp := upd_none (o := .tup [r]) hp
        exact q _ _ ((s1.trans s2).trans sp) ⟨p, _, rfl, upd_same, .cons (h1.mono (s2.trans sp)) .nil⟩


end
end Wit

namespace Wit
open PySem PySem.Spec PyProof.Rows L2
section
variable {P : Program} {w : World} {K : PySem.W.Frag} {mg : Str → Option Value} {base : Heap}

/-- how many items the sequence at a slot has -/
def many (i : Nat) (σ : L2.St) (H : Hp) : Nat := match σ[i]? with
  | some (some (.ref a)) => match H a with
    | some (.tup xs) => xs.length
    | some (.lst xs) => xs.length
    | _ => 0
  | _ => 0
theorem many_e {k : Kd} {n : Nat} {M : List (Vc (El k) n)} {i : Nat} {σ : L2.St} {H : Hp} {v : V} (h : RowsE H v M) (e : σ[i]? = some (some v)) : many i σ H = M.length := by
  obtain ⟨a, rs, rfl, h, p⟩ := h
  unfold many
  rw [e]
  rcases h with h | h <;> simp only [h] <;> exact Paired.len p
theorem RowsE.len_at {k : Kd} {n : Nat} {M : List (Vc (El k) n)} {H : Hp} {v : V} (h : RowsE H v M) : ∃ a rs, v = .ref a ∧ (SqL K H a rs ∨ SqT K H a rs) ∧ rs.length = M.length := by
  obtain ⟨a, rs, rfl, h, p⟩ := h
  exact ⟨a, rs, rfl, h.elim (fun z => .inr (tq z)) (fun z => .inl (lq' z)), Paired.len p⟩
theorem rev_take {α : Type} {l : List α} {i : Nat} {x : α} (h : l[l.length - 1 - i]? = some x) (hi : i < l.length) : l.reverse.take (i + 1) = l.reverse.take i ++ [x] := by
  have e : l.reverse[i]? = some x := by rw [List.getElem?_reverse hi]; exact h
  rw [List.take_add_one, e]
  rfl
theorem btw_le {k : Kd} {n : Nat} (G : QF (El k) n) (x y : Vc (El k) n) : (btw G x y).length ≤ 2 := by
  unfold btw
  split
  · exact Nat.zero_le _
  · split
    · exact Nat.le_succ _
    · exact Nat.le_refl _
theorem cat_rows {k : Kd} {n : Nat} {H : Hp} {a b : V} {M N : List (Vc (El k) n)} {Q : VK} (hM : RowsT H a M) (hN : RowsT H b N) (hl : M.length + N.length ≤ 1000) (q : ∀ r H', Same H H' → RowsT H' r (M ++ N) → Q r H') : rCatA K a b H Q := by
  obtain ⟨am, ms, rfl, hm, pm⟩ := hM
  obtain ⟨an, ns, rfl, hn, pn⟩ := hN
  have l1 := Paired.len pm
  have l2 := Paired.len pn
  refine ⟨_, _, _, _, rfl, rfl, tq hm, tq hn, ?_, fun e => ?_, fun _ e => ?_, fun _ _ p hp => ?_⟩
  · rw [l1, l2]
    exact Nat.le_of_lt (small_n hl)
  · subst e
    cases pm
    exact q _ H (Same.refl _) ⟨an, ns, rfl, hn, pn⟩
  · subst e
    cases pn
    rw [List.append_nil] at q
    exact q _ H (Same.refl _) ⟨am, ms, rfl, hm, pm⟩
  · have sp := upd_none (o := .tup (ms ++ ns)) hp
    exact q _ _ sp ⟨p, _, rfl, upd_same, Paired.append' (RowsP.kt pm sp.kt) (RowsP.kt pn sp.kt)⟩
theorem two_mul_ne {k : Kd} {y : El k} (h : y ≠ 0) : 2 * y ≠ 0 := by
  have t2 := two_ne k
  grind

def p_reflections_of (K : PySem.W.Frag) (a : V) (H : Hp) (Q : VK) : Prop := ∃ (k : Kd) (n : Nat) (A : Nat → Nat → El k) (us : List (Vc (El k) n)) (s : V), Iso K H a s k n A us ∧ Good n A ∧ n ≤ 6 ∧
  ∀ r H' (vs : List (Vc (El k) n)), Same H H' → RowsT H' r vs → (∀ x, (QF.of n A).app us x = (QF.of n A).app vs x) → (∀ u ∈ vs, (QF.of n A).Q u ≠ 0) → vs.length ≤ 1000 → Q r H'
theorem c_reflections_of (T : Tx K mg) : Cal P w K mg base 13 "reflections_of" ["f"] (sp1 (p_reflections_of K)) :=
  cal_of (d := d_reflections_of) (lv := 12) (i := 33) (j := 33) T rfl rfl rfl rfl rfl (keep_of (d := d_reflections_of) (i := 33) T rfl) (S := ⟨rfl, rfl, rfl, by decide +kernel, rfl, by decide +kernel, by decide +kernel⟩) (N := ["f", "space", "rows", "found", "x", "own", "u"]) (fun _ _ _ _ _ _ us hl => match us, hl with | [_], _ => rfl) len1 <| fun f cdv A outer s H vs Q E hr h => by
    obtain ⟨v0, rfl, h⟩ := h
    have nd : (["f", "space", "rows", "found", "x", "own", "u"] : List Str).Nodup := by decide +kernel
    refine ⟨_, (pss_cons (ps_expr (pe_cal (c_check_turns T) (hr.mono (by decide)) (by rfl) (pa_cons (pv 0) (pa_cons pe_str (pa_cons pe_bl pa_nil))))) (pss_cons (ps_set (i := 1) nd rfl (Or.inl rfl) (pe_fldK K (pv 0))) (pss_cons (ps_set (i := 2) nd rfl (Or.inl rfl) (pe_cal (c_identity T) (hr.mono (by decide)) (by rfl) (pa_cons (pe_fldK K (pv 1)) pa_nil))) (pss_cons (ps_set (i := 3) nd rfl (Or.inl rfl) (pe_tup pa_nil)) (pss_cons (ps_while PassesOwn.never (pt_cmpR op_gt (pe_callB (call_len_seqK K) (by rfl) T.len PySem.boot_len (pa_cons (pv 2) pa_nil)) pe_int (nomark _)) (pss_cons (ps_set (i := 4) nd rfl (Or.inl rfl) (pe_cal (c_valued T) (hr.mono (by decide)) (by rfl) (pa_cons (pv 1) (pa_cons (pv 2) pa_nil)))) (pss_cons (ps_set (i := 5) nd rfl (Or.inl rfl) (pe_cal (c_rows_between T) (hr.mono (by decide)) (by rfl) (pa_cons (pv 1) (pa_cons (pv 4) (pa_cons (pe_callI (pv 0) T.callB (o_call0 T) (hr.mono (by decide)) (pa_cons (pv 4) pa_nil)) pa_nil))))) (pss_cons (ps_for PassesOwn.never rfl (pi_revAK K (by rfl) T.reversed (pv 5)) (pg_name (i := 6) nd rfl (Or.inl rfl)) (pss_one (ps_set (i := 0) nd rfl (Or.inl rfl) (pe_calM (pv 0) (m_Isometry_then T) (hr.mono (by decide)) (pa_cons (pe_cal (c_reflection T) (hr.mono (by decide)) (by rfl) (pa_cons (pv 1) (pa_cons (pv 6) pa_nil))) pa_nil))))) (pss_cons (ps_set (i := 3) nd rfl (Or.inl rfl) (pe_op (op_catAK K) (pv 5) (pv 3))) (pss_one (ps_set (i := 2) nd rfl (Or.inl rfl) (pe_cal (c_left_over T) (hr.mono (by decide)) (by rfl) (pa_cons (pv 1) (pa_cons (pv 2) (pa_cons (pe_tup (pa_cons (pv 4) pa_nil)) pa_nil))))))))))) (pss_one (ps_ret (pv 3)))))))), ?_⟩
    obtain ⟨k, n, A, us, sp, hI, hG, hn, q⟩ := h
    refine ⟨_, rfl, _, _, _, rfl, k, n, A, us, sp, hI, rfl, rfl, hG, hn, fun H1 s1 => ?_⟩
    have I1 := hI.mono s1
    refine ⟨_, rfl, rI_space T I1 ?_⟩
    refine ⟨_, rfl, rS_n T I1.sp ⟨_, rfl, k, n, rfl, by omega, fun vr H2 s2 h2 => ?_⟩⟩
    refine ⟨by decide, fun p0 hp0 => ?_⟩
    have s3 := upd_none (o := .tup []) hp0
    refine while_by (fun σ H' => Same H H' ∧ ∃ (vf vr vfd : V) (usf rows fd : List (Vc (El k) n)) (X : Vc (El k) n → Prop) (c4 c5 c6 : Option V), σ = [some vf, some sp, some vr, some vfd, c4, c5, c6] ∧ Iso K H' vf sp k n A usf ∧ RowsE H' vr rows ∧ RowsT H' vfd fd ∧ LI (QF.of n A) us rows usf fd X ∧ fd.length + 2 * rows.length ≤ 2 * n) (fun σ H => many 2 σ H) ?_ (fun σ H' hp => ?_) fun σ H' Z Z' z hh => ?_
    · refine ⟨(s1.trans s2).trans s3, v0, vr, _, us, ident (El k) n, [], fun _ => False, none, none, none, rfl, I1.mono (s2.trans s3), (RowsT.e h2).mono s3, ⟨p0, [], rfl, upd_same, .nil⟩, LI.start ?_, ?_⟩
      · obtain ⟨M, _, _, hR⟩ := hI
        exact hR.ne
      · rw [ident_len]
        show 0 + 2 * n ≤ 2 * n
        omega
    · obtain ⟨s1, vf, vr, vfd, usf, rows, fd, X, c4, c5, c6, rfl, hf, hr2, hfd, hL, hb⟩ := hp
      obtain ⟨ar, rs, rfl, hsq, lr⟩ := hr2.len_at (K := K)
      refine ⟨_, rfl, _, _, rfl, hsq, _, _, rfl, rfl, _, rfl, ?_⟩
      rw [lr]
      refine ite2 (fun c => ?_) fun c => ?_
      · have c : (0 : Int) < (rows.length : Nat) := of_decide_eq_true c
        have S1 := hf.sp
        refine ⟨_, rfl, _, rfl, _, _, rfl, k, n, A, rows, S1, hr2, by omega, hn, hL.some hG.nd (by omega), fun vx H3 x s3 h3 hq hx => ?_⟩
        have S3 := S1.mono s3
        obtain ⟨Mf, ⟨af, df, mf, rfl, haf, _⟩, _⟩ := id (hf.mono s3)
        refine ⟨_, rfl, _, rfl, _, rfl, _, rfl, _, rfl, ?_⟩
        refine ⟨.inr ⟨_, _, haf⟩, _, _, rfl, k, n, A, usf, sp, x, hf.mono s3, h3, hn, fun vy H4 s4 h4 => ?_⟩
        have s14 := s3.trans s4
        refine ⟨_, _, _, rfl, k, n, A, x, _, S1.mono s14, h3.mono s4, h4, hn, fun vo H5 s5 h5 => ?_⟩
        obtain ⟨ao, os, rfl, ho, po⟩ := id h5
        have lo' : os.length = (btw (QF.of n A) x ((QF.of n A).app usf x)).length := Paired.len po
        have s15 := s14.trans s5
        have hok := (btw_ok (G := QF.of n A) (y := (QF.of n A).app usf x) hq ((QF.of n A).app_Q usf hL.nu x) (two_ne k)).2
        refine ⟨_, rfl, _, _, rfl, .inr ⟨tq ho, ?_⟩⟩
        refine RT.for_ItvT (fun i σ H' => Same H5 H' ∧ ∃ vf c6, σ = [some vf, some sp, some (.ref ar), some vfd, some vx, some (.ref ao), c6] ∧ Iso K H' vf sp k n A (usf ++ (btw (QF.of n A) x ((QF.of n A).app usf x)).reverse.take i)) ⟨Same.refl _, _, _, rfl, ?_⟩ (fun i σ H' hp => tq (hp.1 _ _ ho)) (fun i z σ H6 hi ez hp => ?_) fun σ H' hp => ?_
        · rw [List.take_zero, List.append_nil]
          exact hf.mono s15
        · obtain ⟨s6, vf, c6, rfl, hf6⟩ := hp
          obtain ⟨u, eu, hu⟩ := Paired.at' po ez
          rw [lo'] at eu hi
          have hu0 := hok u (List.mem_of_getElem? eu)
          have S6 := S1.mono (s15.trans s6)
          refine ⟨_, rfl, mI hf6 (fun _ _ => is_no _ _) ⟨_, rfl, _, rfl, _, _, rfl, k, n, A, u, S6, hu.mono s6, hu0, hn, fun r H7 s7 h7 => ?_⟩⟩
          refine ⟨_, _, rfl, k, n, A, _, [u], sp, hf6.mono s7, h7, hn, fun r2 H8 s8 h8 => ⟨(s6.trans s7).trans s8, r2, _, rfl, ?_⟩⟩
          rw [rev_take eu hi, ← List.append_assoc]
          exact h8
        · obtain ⟨s6, vf, c6, rfl, hf6⟩ := hp
          rw [lo', ← List.length_reverse, List.take_length] at hf6
          have hl := btw_le (QF.of n A) x ((QF.of n A).app usf x)
          refine ⟨_, rfl, _, rfl, cat_rows (h5.mono s6) (hfd.mono (s15.trans s6)) (by omega) fun r H7 s7 h7 => ?_⟩
          refine ⟨_, rfl, _, rfl, _, rfl, (by decide : (1 : Nat) ≤ sizeLine), fun p1 hp1 => ?_⟩
          have s8 := upd_none (o := .tup [vx]) hp1
          have s18 := ((s15.trans s6).trans s7).trans s8
          refine ⟨_, _, _, rfl, k, n, A, rows, x, p1, vx, S1.mono s18, hr2.mono s18, rfl, upd_same, h3.mono ((((s4.trans s5).trans s6).trans s7).trans s8), by omega, hn, fun r2 H9 s9 h9 => ?_⟩
          have hlt : (lo (QF.of n A) rows x).length < rows.length := lo_len hx (by
            rw [(QF.of n A).B_self]
            exact two_mul_ne hq)
          refine ⟨⟨s1.trans (s18.trans s9), vf, r2, r, _, _, _, _, _, _, _, rfl, hf6.mono ((s7.trans s8).trans s9), h9.e, h7.mono (s8.trans s9), hL.step (two_ne k) hx hq, ?_⟩, ?_⟩
          · rw [List.length_append]
            omega
          · rw [many_e (RowsL.e h9) rfl, many_e hr2 rfl]
            exact hlt
      · have c : ¬ (0 : Int) < (rows.length : Nat) := fun z => c (decide_eq_true z)
        have e0 : rows = [] := List.eq_nil_of_length_eq_zero (by omega)
        subst e0
        exact ⟨_, rfl, q vfd H' fd s1 hfd hL.end hL.nf (by omega)⟩
    · obtain ⟨v, e, p, ys, e1, e2, i, j, e3, e4, kk, e5, qq⟩ := hh
      exact ⟨v, e, p, ys, e1, e2, i, j, e3, e4, kk, e5, z _ _ qq⟩


def p_spinor_norm (K : PySem.W.Frag) (a : V) (H : Hp) (Q : VK) : Prop := ∃ (k : Kd) (n : Nat) (A : Nat → Nat → El k) (us : List (Vc (El k) n)) (s : V), Iso K H a s k n A us ∧ Good n A ∧ n ≤ 6 ∧ ∀ H', Same H H' → Q (.int (chi ((QF.of n A).pq us))) H'
theorem c_spinor_norm (T : Tx K mg) : Cal P w K mg base 14 "spinor_norm" ["f"] (sp1 (p_spinor_norm K)) :=
  cal_of (d := d_spinor_norm) (lv := 13) (i := 34) (j := 34) T rfl rfl rfl rfl rfl (keep_of (d := d_spinor_norm) (i := 34) T rfl) (S := ⟨rfl, rfl, rfl, by decide +kernel, rfl, by decide +kernel, by decide +kernel⟩) (N := ["f", "field", "total", "u"]) (fun _ _ _ _ _ _ us hl => match us, hl with | [_], _ => rfl) len1 <| fun f cdv A outer s H vs Q E hr h => by
    obtain ⟨v0, rfl, h⟩ := h
    have nd : (["f", "field", "total", "u"] : List Str).Nodup := by decide +kernel
    refine ⟨_, (pss_cons (ps_set (i := 1) nd rfl (Or.inl rfl) (pe_fldK K (pe_fldK K (pv 0)))) (pss_cons (ps_set (i := 2) nd rfl (Or.inl rfl) pe_int) (pss_cons (ps_for PassesOwn.never rfl (pi_tupK K (pe_cal (c_reflections_of T) (hr.mono (by decide)) (by rfl) (pa_cons (pv 0) pa_nil))) (pg_name (i := 3) nd rfl (Or.inl rfl)) (pss_one (ps_set (i := 2) nd rfl (Or.inl rfl) (pe_calM (pv 1) (m_Field_multiply T) (hr.mono (by decide)) (pa_cons (pv 2) (pa_cons (pe_calM (pe_fldK K (pv 0)) (m_Space_value T) (hr.mono (by decide)) (pa_cons (pv 3) pa_nil)) pa_nil)))))) (pss_one (ps_ret (pe_ifExp (pt_val (pe_calM (pv 1) (m_Field_is_square T) (hr.mono (by decide)) (pa_cons (pv 2) pa_nil))) pe_int (pe_un un_neg pe_int))))))), ?_⟩
    obtain ⟨k, n, A, us, sp, hI, hG, hn, q⟩ := h
    refine ⟨_, rfl, rI_space T hI (rS_field T hI.sp fun f hf => ?_)⟩
    refine ⟨_, rfl, _, rfl, k, n, A, us, sp, hI, hG, hn, fun r H1 vs s1 h1 happ hne hl => ?_⟩
    obtain ⟨ar, rs, rfl, hr1, pr⟩ := h1
    have lr := Paired.len pr
    refine ⟨_, rfl, ⟨_, tq hr1⟩, ?_⟩
    refine for_it walk_tup (fun i σ H' => Same H1 H' ∧ ∃ c, σ = [some v0, some f, some (iv ((vs.take i).foldl (fun t u => t * qA A u) 1)), c]) ⟨Same.refl _, none, ?_⟩ (fun i σ H' _ hp => tq (hp.1 _ _ hr1)) (fun i z σ H2 H3 hi hp hz => ?_) fun σ H' hp => ?_
    · show [some v0, some f, some (V.int 1), none] = _
      rw [iv_one k]
      rfl
    · obtain ⟨s2, c, rfl⟩ := hp
      obtain ⟨rfl, e1⟩ := hz
      obtain ⟨u, eu, hu⟩ := Paired.at' pr e1
      have s12 := s1.trans s2
      have I2 := hI.mono s12
      refine ⟨_, rfl, mF (hf.mono s12) (fd_no k) ⟨_, rfl, _, rfl, rI_space T I2 (mS I2.sp (fun _ _ _ _ _ => sp_no _ _ _ _ _) ⟨_, rfl, _, _, rfl, k, n, A, u, I2.sp, hu.mono s2, hn, fun H4 s4 => ?_⟩)⟩⟩
      refine ⟨_, _, _, rfl, k, _, _, hf.mono (s12.trans s4), rfl, rfl, s2.trans s4, some z, ?_⟩
      have tk : vs.take (i + 1) = vs.take i ++ [u] := by
        rw [List.take_add_one, eu]
        rfl
      rw [tk, List.foldl_append]
      rfl
    · obtain ⟨s2, c, rfl⟩ := hp
      rw [lr, List.take_length]
      have s12 := s1.trans s2
      have e : chi (vs.foldl (fun t u => t * qA A u) 1) = chi ((QF.of n A).pq us) := by
        obtain ⟨M, _, _, hR⟩ := hI
        exact (spin hG hR.ne hne happ).symm
      rw [← e] at q
      refine ⟨_, rfl, mF (hf.mono s12) (fd_no k) ⟨_, rfl, _, _, rfl, k, _, hf.mono s12, rfl, fun H3 s3 => ⟨_, rfl, ?_⟩⟩⟩
      have q := q H3 (s12.trans s3)
      unfold chi at q
      refine ite2 (fun c => ?_) fun c => ⟨_, rfl, ?_⟩
      · rw [if_pos c] at q
        exact q
      · rw [if_neg c] at q
        exact q


end
end Wit

namespace Wit
open PySem PySem.Spec PyProof.Rows L2
section
variable {P : Program} {w : World} {K : PySem.W.Frag} {mg : Str → Option Value} {base : Heap}

/-! ### the law's own: the state, the field's tables -/
def Stt (H : Hp) (p : Addr) : Prop := ∃ s t : Int, H p = some (.lst [.int s, .int t]) ∧ 0 ≤ s ∧ 0 ≤ t ∧ t < 2147483647
theorem cut_ints {ns : List Int} {lo hi : Option Int} {i : Nat} {z : V} (h : (cutV (ns.map V.int) lo hi)[i]? = some z) : ∃ c, z = .int c := by
  have m := List.mem_of_getElem? h
  unfold cutV at m
  have m := List.mem_of_mem_drop (List.mem_of_mem_take m)
  obtain ⟨c, _, e⟩ := List.mem_map.mp m
  exact ⟨c, e.symm⟩

def p_law_state (K : PySem.W.Frag) (a : V) (H : Hp) (Q : VK) : Prop := ∃ (l : Addr) (ns : List Int), a = .ref l ∧ SqL K H l (ns.map V.int) ∧ ∀ p H', Same H H' → Stt H' p → Q (.ref p) H'
theorem c_law_state (T : Tx K mg) : Cal P w K mg base 1 "_law_state" ["_law_script"] (sp1 (p_law_state K)) :=
  cal_of (d := d_law_state) (lv := 0) (i := 35) (j := 35) T rfl rfl rfl rfl rfl (keep_of (d := d_law_state) (i := 35) T rfl) (S := ⟨rfl, rfl, rfl, by decide +kernel, rfl, by decide +kernel, by decide +kernel⟩) (N := ["_law_script", "_law_seed", "_law_total", "_law_cell"]) (fun _ _ _ _ _ _ us hl => match us, hl with | [_], _ => rfl) len1 <| fun f cdv A outer s H vs Q E hr h => by
    obtain ⟨v0, rfl, h⟩ := h
    have nd : (["_law_script", "_law_seed", "_law_total", "_law_cell"] : List Str).Nodup := by decide +kernel
    refine ⟨_, (pss_cons (ps_set (i := 1) nd rfl (Or.inl rfl) pe_int) (pss_cons (ps_set (i := 2) nd rfl (Or.inl rfl) pe_int) (pss_cons (ps_for PassesOwn.never rfl (pi_listK K (pe_slice (sl_listK K) (pv 0) po_none (po_some pe_int))) (pg_name (i := 3) nd rfl (Or.inl rfl)) (pss_cons (ps_set (i := 1) nd rfl (Or.inl rfl) (pe_op op_add (pe_op op_mul (pv 1) pe_int) (pe_callB call_abs (by rfl) T.abs (by decide +kernel) (pa_cons (pv 3) pa_nil)))) (pss_one (ps_set (i := 2) nd rfl (Or.inl rfl) (pe_op op_mod (pe_callTy call_int1 (by rfl) T.int boot_int (pa_cons (pe_op op_add (pe_op op_mul (pv 2) pe_int) (pv 3)) pa_nil)) pe_int))))) (pss_one (ps_ret (pe_lst (pa_cons (pv 1) (pa_cons (pv 2) pa_nil)))))))), ?_⟩
    obtain ⟨l, ns, rfl, hl, q⟩ := h
    refine ⟨_, rfl, 63, rfl, _, _, rfl, hl, fun p hp => ?_⟩
    have sp := upd_none (o := .lst (cutV (ns.map V.int) none (some 63))) hp
    refine ⟨_, rfl, ⟨_, lq' upd_same⟩, ?_⟩
    refine for_it (walk_list (xs := cutV (ns.map V.int) none (some 63))) (fun i σ H' => H' = upd H p (.lst (cutV (ns.map V.int) none (some 63))) ∧ ∃ (s t : Int) (c : Option V), σ = [some (.ref l), some (.int s), some (.int t), c] ∧ 0 ≤ s ∧ 0 ≤ t ∧ t < 2147483647) ⟨rfl, 0, 1, none, rfl, by omega, by omega, by omega⟩ (fun i σ H' _ hp => by rw [hp.1]; exact lq' upd_same) (fun i z σ H1 H2 hi hp hz => ?_) fun σ H' hp => ?_
    · obtain ⟨rfl, s, t, c, rfl, h1, h2, h3⟩ := hp
      obtain ⟨rfl, e⟩ := hz
      obtain ⟨c, rfl⟩ := cut_ints e
      refine ⟨_, rfl, _, _, rfl, rfl, .inr ⟨by decide, by decide⟩, _, rfl, _, rfl, _, _, rfl, rfl, ?_⟩
      refine ⟨_, rfl, _, _, rfl, rfl, .inr ⟨by decide, by decide⟩, _, rfl, _, _, rfl, rfl, .inl ⟨_, rfl, _, _, rfl, rfl, (by decide : (0 : Int) < 2147483647), ?_⟩⟩
      refine ⟨rfl, _, _, _, rfl, ?_, Int.emod_nonneg _ (by decide), Int.emod_lt_of_pos _ (by decide)⟩
      by_cases hc : c < 0
      · rw [if_pos hc]; omega
      · rw [if_neg hc]; omega
    · obtain ⟨rfl, s, t, c, rfl, h1, h2, h3⟩ := hp
      refine ⟨_, rfl, _, rfl, (by decide : (2 : Nat) ≤ sizeLine), fun p2 hp2 => ?_⟩
      exact q p2 _ (sp.trans (upd_none hp2)) ⟨s, t, upd_same, h1, h2, h3⟩


def p_law_take (a b : V) (H : Hp) (Q : VK) : Prop := ∃ (p : Addr) (m : Nat), a = .ref p ∧ b = .int m ∧ Stt H p ∧ 0 < m ∧ m < 1000 ∧ ∀ (r : Nat) H', But p H H' → Stt H' p → r < m → Q (.int r) H'
theorem c_law_take (T : Tx K mg) : Cal P w K mg base 1 "_law_take" ["_law_state_here", "_law_m"] (sp2 p_law_take) :=
  cal_of (d := d_law_take) (lv := 0) (i := 36) (j := 36) T rfl rfl rfl rfl rfl (keep_of (d := d_law_take) (i := 36) T rfl) (S := ⟨rfl, rfl, rfl, by decide +kernel, rfl, by decide +kernel, by decide +kernel⟩) (N := ["_law_state_here", "_law_m", "_law_value_here"]) (fun _ _ _ _ _ _ us hl => match us, hl with | [_, _], _ => rfl) len2 <| fun f cdv A outer s H vs Q E hr h => by
    obtain ⟨v0, v1, rfl, h⟩ := h
    have nd : (["_law_state_here", "_law_m", "_law_value_here"] : List Str).Nodup := by decide +kernel
    refine ⟨_, (pss_cons (ps_if (pt_cmpR op_gt (pe_ix (ix_listK K) (pv 0) pe_int (fun _ _ => rfl)) pe_int (nomark _)) (pss_cons (ps_set (i := 2) nd rfl (Or.inl rfl) (pe_op op_mod (pe_callTy call_int1 (by rfl) T.int boot_int (pa_cons (pe_ix (ix_listK K) (pv 0) pe_int (fun _ _ => rfl)) pa_nil)) (pv 1))) (pss_cons (ps_asg (pe_op op_fdiv (pe_ix (ix_listK K) (pv 0) pe_int (fun _ _ => rfl)) (pv 1)) (pg_sub (pv 0) pe_int set_list)) (pss_one (ps_ret (pv 2))))) pss_nil) (pss_cons (ps_asg (pe_op op_mod (pe_callTy call_int1 (by rfl) T.int boot_int (pa_cons (pe_op op_add (pe_op op_mul (pe_ix (ix_listK K) (pv 0) pe_int (fun _ _ => rfl)) pe_int) pe_int) pa_nil)) pe_int) (pg_sub (pv 0) pe_int set_list)) (pss_one (ps_ret (pe_op op_mod (pe_callTy call_int1 (by rfl) T.int boot_int (pa_cons (pe_op op_fdiv (pe_ix (ix_listK K) (pv 0) pe_int (fun _ _ => rfl)) pe_int) pa_nil)) (pv 1)))))), ?_⟩
    obtain ⟨p, m, rfl, rfl, ⟨s, t, hp, h1, h2, h3⟩, hm, hm2, q⟩ := h
    have a0 : atI [V.int s, V.int t] 0 = some (.int s) := rfl
    have a1 : atI [V.int s, V.int t] 1 = some (.int t) := rfl
    have fin : ∀ (x : Int) H', But p H H' → Stt H' p → Q (.int (x % (m : Int))) H' := fun x H' b st => by
      have e1 := Int.emod_nonneg x (show (m : Int) ≠ 0 by omega)
      have e2 := Int.emod_lt_of_pos x (show (0 : Int) < (m : Int) by omega)
      have := q (x % (m : Int)).toNat H' b st (by omega)
      rw [Int.toNat_of_nonneg e1] at this
      exact this
    refine ⟨_, rfl, _, _, _, _, rfl, rfl, lq' hp, a0, _, _, rfl, rfl, _, rfl, ?_⟩
    refine ite2 (fun c => ?_) fun c => ?_
    · refine ⟨_, rfl, _, _, _, _, rfl, rfl, lq' hp, a0, .inl ⟨_, rfl, _, rfl, _, _, rfl, rfl, (show (0 : Int) < (m : Int) by omega), ?_⟩⟩
      refine ⟨_, rfl, _, _, _, _, rfl, rfl, lq' hp, a0, _, rfl, _, _, rfl, rfl, ⟨by omega, by omega⟩, ?_⟩
      refine ⟨_, rfl, _, _, _, _, rfl, rfl, hp, rfl, _, rfl, ?_⟩
      exact fin s _ But.upd ⟨_, t, upd_same, Int.ediv_nonneg h1 (by omega), h2, h3⟩
    · refine ⟨_, rfl, _, _, _, _, rfl, rfl, lq' hp, a1, _, _, rfl, rfl, .inr ⟨by decide, by decide⟩, _, _, rfl, rfl, .inl ⟨_, rfl, _, _, rfl, rfl, (by decide : (0 : Int) < 2147483647), ?_⟩⟩
      refine ⟨_, rfl, _, _, _, _, rfl, rfl, hp, rfl, ?_⟩
      have e1 := Int.emod_nonneg (t * 48271 + 11) (show (2147483647 : Int) ≠ 0 by decide)
      have e2 := Int.emod_lt_of_pos (t * 48271 + 11) (show (0 : Int) < 2147483647 by decide)
      refine ⟨_, rfl, _, _, _, _, rfl, rfl, lq' upd_same, rfl, _, _, rfl, rfl, ⟨by decide, by decide⟩, .inl ⟨_, rfl, _, rfl, _, _, rfl, rfl, (show (0 : Int) < (m : Int) by omega), ?_⟩⟩
      exact fin _ _ But.upd ⟨s, _, upd_same, h1, e1, e2⟩


def p_law_prime (a : V) (H : Hp) (Q : VK) : Prop := ∃ k : Kd, a = .int (k.q : Int) ∧ ∀ H', Same H H' → Q (.int (k.p : Int)) H'
theorem c_law_prime (T : Tx K mg) : Cal P w K mg base 1 "_law_prime" ["_law_q"] (sp1 p_law_prime) :=
  cal_of (d := d_law_prime) (lv := 0) (i := 37) (j := 37) T rfl rfl rfl rfl rfl (keep_of (d := d_law_prime) (i := 37) T rfl) (S := ⟨rfl, rfl, rfl, by decide +kernel, rfl, by decide +kernel, by decide +kernel⟩) (N := ["_law_q"]) (fun _ _ _ _ _ _ us hl => match us, hl with | [_], _ => rfl) len1 <| fun f cdv A outer s H vs Q E hr h => by
    obtain ⟨v0, rfl, h⟩ := h
    have nd : (["_law_q"] : List Str).Nodup := by decide +kernel
    refine ⟨_, (pss_one (ps_ret (pe_ix (ix_listK K) (pe_lst (pa_cons pe_int (pa_cons pe_int (pa_cons pe_int (pa_cons pe_int (pa_cons pe_int (pa_cons pe_int pa_nil))))))) (pe_bm PySem.F.plainAttrs_list PySem.F.slot_list_index PySem.F.type_list_index (mt_indexK K) (pe_lst (pa_cons pe_int (pa_cons pe_int (pa_cons pe_int (pa_cons pe_int (pa_cons pe_int (pa_cons pe_int pa_nil))))))) (pa_cons (pv 0) pa_nil)) (fun _ _ => rfl)))), ?_⟩
    obtain ⟨k, rfl, q⟩ := h
    refine ⟨(by decide : (6 : Nat) ≤ sizeLine), fun p1 n1 => ?_⟩
    have s1 := upd_none (o := .lst [V.int 2, .int 3, .int 2, .int 5, .int 7, .int 3]) n1
    refine ⟨(by decide : (6 : Nat) ≤ sizeLine), fun p2 n2 => ?_⟩
    have s2 := upd_none (o := .lst [V.int 2, .int 3, .int 4, .int 5, .int 7, .int 9]) n2
    refine ⟨.inl ⟨rfl, _, lq' upd_same⟩, _, rfl, _, _, _, kj k, .int (k.q : Int), rfl, rfl, lq' upd_same, rfl, rfl, ?_, ?_, ?_, ?_⟩
    · cases k <;> rfl
    · exact beq_self_eq_true (k.q : Int)
    · intro m z hm hz
      cases k
      all_goals
        match m, hm with
        | 0, _ => cases hz; rfl
        | 1, hm => first | (cases hz; rfl) | exact absurd hm (by decide)
        | 2, hm => first | (cases hz; rfl) | exact absurd hm (by decide)
        | 3, hm => first | (cases hz; rfl) | exact absurd hm (by decide)
        | 4, hm => first | (cases hz; rfl) | exact absurd hm (by decide)
        | m + 5, hm => exact absurd hm (by show ¬ (m + 5 < _); simp only [kj]; omega)
    · exact ⟨_, _, _, _, rfl, rfl, lq' (s2 _ _ upd_same), kj_p k, q _ (s1.trans s2)⟩


def p_law_joined (a b c : V) (H : Hp) (Q : VK) : Prop := ∃ (k : Kd) (i j : Int), a = .int (k.q : Int) ∧ b = .int i ∧ c = .int j ∧ ∀ H', Same H H' → Q (.int (jn k i j)) H'
theorem c_law_joined (T : Tx K mg) : Cal P w K mg base 2 "_law_joined" ["_law_q", "_law_low", "_law_high"] (sp3 p_law_joined) :=
  cal_of (d := d_law_joined) (lv := 1) (i := 38) (j := 38) T rfl rfl rfl rfl rfl (keep_of (d := d_law_joined) (i := 38) T rfl) (S := ⟨rfl, rfl, rfl, by decide +kernel, rfl, by decide +kernel, by decide +kernel⟩) (N := ["_law_q", "_law_low", "_law_high", "_law_p"]) (fun _ _ _ _ _ _ us hl => match us, hl with | [_, _, _], _ => rfl) len3 <| fun f cdv A outer s H vs Q E hr h => by
    obtain ⟨v0, v1, v2, rfl, h⟩ := h
    have nd : (["_law_q", "_law_low", "_law_high", "_law_p"] : List Str).Nodup := by decide +kernel
    refine ⟨_, (pss_cons (ps_set (i := 3) nd rfl (Or.inl rfl) (pe_cal (c_law_prime T) (hr.mono (by decide)) (by rfl) (pa_cons (pv 0) pa_nil))) (pss_cons (ps_if (pt_cmpR op_eq (pv 3) (pv 0) (nomark _)) (pss_one (ps_ret (pe_op op_mod (pe_callTy call_int1 (by rfl) T.int boot_int (pa_cons (pv 1) pa_nil)) (pv 3)))) pss_nil) (pss_one (ps_ret (pe_op op_add (pe_op op_mod (pe_callTy call_int1 (by rfl) T.int boot_int (pa_cons (pv 1) pa_nil)) (pv 3)) (pe_op op_mul (pv 3) (pe_op op_mod (pe_callTy call_int1 (by rfl) T.int boot_int (pa_cons (pv 2) pa_nil)) (pv 3)))))))), ?_⟩
    obtain ⟨k, i, j, rfl, rfl, rfl, q⟩ := h
    refine ⟨_, rfl, _, rfl, k, rfl, fun H1 s1 => ?_⟩
    have q := q H1 s1
    unfold jn at q
    refine ⟨_, rfl, _, rfl, rfl, _, rfl, ?_⟩
    have e : decide (V.int (k.p : Int) = V.int (k.q : Int)) = decide (k.q = k.p) := by cases k <;> decide
    rw [e]
    refine ite2 (fun c => ?_) fun c => ?_
    · rw [if_pos (of_decide_eq_true c)] at q
      exact ⟨_, rfl, .inl ⟨_, rfl, _, rfl, _, _, rfl, rfl, p_pos k, q⟩⟩
    · rw [if_neg (fun z => c (decide_eq_true z))] at q
      exact ⟨_, rfl, .inl ⟨_, rfl, _, rfl, _, _, rfl, rfl, p_pos k, _, rfl, _, rfl, .inl ⟨_, rfl, _, rfl, _, _, rfl, rfl, p_pos k, _, _, rfl, rfl, .inl (p_64 k), _, _, rfl, rfl, q⟩⟩⟩


/-- a table of the field as the law keeps it -/
def Tab {k : Kd} (H : Hp) (a : Addr) (g : El k → El k → El k) : Prop := ∃ ls, H a = some (.lst ls) ∧ Paired (fun i v => ∃ b, v = .ref b ∧ H b = some (.lst ((List.range k.q).map fun j => iv (g (El.of k i) (El.of k j))))) (List.range k.q) ls
def LF (H : Hp) (v : V) (k : Kd) : Prop := ∃ a s p, v = .ref a ∧ H a = some (.tup [.int (k.q : Int), .ref s, .ref p]) ∧ Tab (k := k) H s (fun x y => x + y) ∧ Tab (k := k) H p (fun x y => x * y)
def LS (H : Hp) (v : V) (k : Kd) (n : Nat) (A : Nat → Nat → El k) : Prop := ∃ a f m, v = .ref a ∧ H a = some (.tup [QK, f, m]) ∧ LF H f k ∧ RowsT H m (mR A n)
theorem el_of_val {k : Kd} (x : El k) : El.of k x.val = x := El.ext (Nat.mod_eq_of_lt x.lt)
theorem Tab.at {k : Kd} {H : Hp} {a : Addr} {g : El k → El k → El k} (t : Tab H a g) (x : El k) : ∃ ls b, H a = some (.lst ls) ∧ ls[x.val]? = some (.ref b) ∧ H b = some (.lst ((List.range k.q).map fun j => iv (g x (El.of k j)))) := by
  obtain ⟨ls, e, p⟩ := t
  obtain ⟨v, ev, b, rfl, eb⟩ := Paired.at p (show (List.range k.q)[x.val]? = some x.val by simp [x.lt])
  rw [el_of_val] at eb
  exact ⟨ls, b, e, ev, eb⟩
theorem line_val {k : Kd} (g : El k → El k) (y : El k) : ((List.range k.q).map fun j => iv (g (El.of k j)))[y.val]? = some (iv (g y)) := by
  simp [y.lt, el_of_val]
/-- how the tables stand when the state moves -/
theorem Tab.but {k : Kd} {H H' : Hp} {a p : Addr} {s t : Int} {g : El k → El k → El k} (h : Tab H a g) (hp : H p = some (.lst [.int s, .int t])) (b : But p H H') : Tab H' a g := by
  obtain ⟨ls, e, pr⟩ := h
  have l := Paired.len pr
  rw [List.length_range] at l
  have q3 := q_ge k
  refine ⟨ls, b _ _ (fun z => ?_) e, Paired.imp' (fun i v hv => ?_) pr⟩
  · rw [z, hp] at e
    cases e
    simp at l
    omega
  · obtain ⟨c, rfl, ec⟩ := hv
    refine ⟨c, rfl, b _ _ (fun z => ?_) ec⟩
    rw [z, hp] at ec
    have := congrArg (fun o => match o with | some (HO.lst xs) => xs.length | _ => 0) ec
    simp at this
    omega
theorem Tab.mono {k : Kd} {H H' : Hp} {a : Addr} {g : El k → El k → El k} (h : Tab H a g) (s : Same H H') : Tab H' a g := by
  obtain ⟨ls, e, pr⟩ := h
  exact ⟨ls, s _ _ e, Paired.imp' (fun i v ⟨c, z, ec⟩ => ⟨c, z, s _ _ ec⟩) pr⟩
theorem LF.mono {H H' : Hp} {v : V} {k : Kd} (h : LF H v k) (s : Same H H') : LF H' v k := by
  obtain ⟨a, x, p, rfl, e, t1, t2⟩ := h
  exact ⟨a, x, p, rfl, s _ _ e, t1.mono s, t2.mono s⟩
theorem tup_but {H H' : Hp} {a p : Addr} {xs ys : List V} (h : H a = some (.tup xs)) (hp : H p = some (.lst ys)) (b : But p H H') : H' a = some (.tup xs) := b _ _ (fun z => by rw [z, hp] at h; cases h) h
theorem LF.but {H H' : Hp} {v : V} {k : Kd} {p : Addr} {s t : Int} (h : LF H v k) (hp : H p = some (.lst [.int s, .int t])) (b : But p H H') : LF H' v k := by
  obtain ⟨a, x, y, rfl, e, t1, t2⟩ := h
  exact ⟨a, x, y, rfl, tup_but e hp b, t1.but hp b, t2.but hp b⟩
theorem RowsT.butl {k : Kd} {n : Nat} {H H' : Hp} {p : Addr} {ys : List V} {v : V} {M : List (Vc (El k) n)} (h : RowsT H v M) (hp : H p = some (.lst ys)) (b : But p H H') : RowsT H' v M := by
  obtain ⟨a, rs, rfl, e, pr⟩ := h
  exact ⟨a, rs, rfl, tup_but e hp b, Paired.imp' (fun _ _ ⟨c, z, ec⟩ => ⟨c, z, tup_but ec hp b⟩) pr⟩
theorem LS.mono {H H' : Hp} {v : V} {k : Kd} {n : Nat} {A : Nat → Nat → El k} (h : LS H v k n A) (s : Same H H') : LS H' v k n A := by
  obtain ⟨a, f, m, rfl, e, t1, t2⟩ := h
  exact ⟨a, f, m, rfl, s _ _ e, t1.mono s, t2.mono s⟩
theorem LS.but {H H' : Hp} {v : V} {k : Kd} {n : Nat} {A : Nat → Nat → El k} {p : Addr} {s t : Int} (h : LS H v k n A) (hp : H p = some (.lst [.int s, .int t])) (b : But p H H') : LS H' v k n A := by
  obtain ⟨a, f, m, rfl, e, t1, t2⟩ := h
  exact ⟨a, f, m, rfl, tup_but e hp b, t1.but hp b, t2.butl hp b⟩
/-- f[2][x][y], f[1][x][y] read -/
theorem rd_mul {σ : L2.St} {H : Hp} {Q : VK} {tf tx ty : TE} {k : Kd} {x y : El k} {f : V} (hf : LF H f k) (h : ∀ (R : VK), R f H → tf σ H R) (h1 : ∀ (R : VK), R (iv x) H → tx σ H R) (h2 : ∀ (R : VK), R (iv y) H → ty σ H R) (q : Q (iv (x * y)) H) :
    tOp (rIxL K) (tOp (rIxL K) (tOp (rIxT K) tf (tC (.int 2))) tx) ty σ H Q := by
  obtain ⟨a, s, p, rfl, e, t1, t2⟩ := hf
  obtain ⟨ls, b, e2, ev, eb⟩ := t2.at x
  refine h _ ⟨_, _, _, _, rfl, rfl, tq e, rfl, h1 _ ⟨_, _, _, _, rfl, rfl, lq' e2, atI_nat ev, h2 _ ⟨_, _, _, _, rfl, rfl, lq' eb, atI_nat (line_val _ y), q⟩⟩⟩
theorem rd_add {σ : L2.St} {H : Hp} {Q : VK} {tf tx ty : TE} {k : Kd} {x y : El k} {f : V} (hf : LF H f k) (h : ∀ (R : VK), R f H → tf σ H R) (h1 : ∀ (R : VK), R (iv x) H → tx σ H R) (h2 : ∀ (R : VK), R (iv y) H → ty σ H R) (q : Q (iv (x + y)) H) :
    tOp (rIxL K) (tOp (rIxL K) (tOp (rIxT K) tf (tC (.int 1))) tx) ty σ H Q := by
  obtain ⟨a, s, p, rfl, e, t1, t2⟩ := hf
  obtain ⟨ls, b, e2, ev, eb⟩ := t1.at x
  refine h _ ⟨_, _, _, _, rfl, rfl, tq e, rfl, h1 _ ⟨_, _, _, _, rfl, rfl, lq' e2, atI_nat ev, h2 _ ⟨_, _, _, _, rfl, rfl, lq' eb, atI_nat (line_val _ y), q⟩⟩⟩
theorem tv {i : Nat} {v : V} {σ : L2.St} {H : Hp} (h : σ[i]? = some (some v)) (R : VK) (q : R v H) : tVar i σ H R := ⟨_, h, q⟩
/-- v[i] read, a row -/
theorem tx {σ : L2.St} {H : Hp} {k : Kd} {n i : Nat} {tv ti : TE} {x : Vc (El k) n} {v : V} (hx : Row H v x) (hi : i < n) (h : ∀ (R : VK), R v H → tv σ H R) (h1 : ∀ (R : VK), R (.int (i : Nat)) H → ti σ H R) (R : VK) (q : R (iv (x.f i)) H) : tOp (rIxT K) tv ti σ H R := by
  obtain ⟨a, rfl, e⟩ := hx
  exact h _ (h1 _ ⟨_, _, _, _, rfl, rfl, tq e, atI_nat (vl_at x hi), q⟩)

end
end Wit

namespace Wit
open PySem PySem.Spec PyProof.Rows L2
section
variable {P : Program} {w : World} {K : PySem.W.Frag} {mg : Str → Option Value} {base : Heap}

theorem fl_nine : ∀ (k : Kd) (x y : El k), k.q = 9 → jn k ((x.val : Int) % (k.p : Int) * ((y.val : Int) % (k.p : Int)) + 2 * ((x.val : Int) / (k.p : Int)) * ((y.val : Int) / (k.p : Int))) ((x.val : Int) % (k.p : Int) * ((y.val : Int) / (k.p : Int)) + (x.val : Int) / (k.p : Int) * ((y.val : Int) % (k.p : Int))) = ((x * y : El k).val : Int) := by
  intro k; cases k <;> decide +kernel
theorem fl_one : ∀ (k : Kd) (x y : El k), ¬ k.q = 9 → ((x.val : Int) * (y.val : Int)) % (k.q : Int) = ((x * y : El k).val : Int) := by
  intro k; cases k <;> decide +kernel
theorem q_four (k : Kd) : decide (V.int (k.q : Int) = V.int 4) = false := by cases k <;> decide
theorem q_nine (k : Kd) : decide (V.int (k.q : Int) = V.int 9) = decide (k.q = 9) := by cases k <;> decide
theorem q_posI (k : Kd) : (0 : Int) < (k.q : Int) := by cases k <;> decide
/-- the lines done, none of them at s or p -/
def Lns {k : Kd} (H : Hp) (a s p : Addr) (i : Nat) (g : El k → El k → El k) : Prop := ∃ ls, H a = some (.lst ls) ∧ Paired (fun l v => ∃ b, v = .ref b ∧ (b ≠ s ∧ b ≠ p) ∧ H b = some (.lst ((List.range k.q).map fun j => iv (g (El.of k l) (El.of k j))))) (List.range i) ls

def p_law_field (a : V) (H : Hp) (Q : VK) : Prop := ∃ k : Kd, a = .int (k.q : Int) ∧ ∀ r H', Same H H' → LF H' r k → Q r H'
theorem c_law_field (T : Tx K mg) : Cal P w K mg base 3 "_law_field" ["_law_q"] (sp1 p_law_field) :=
  cal_of (d := d_law_field) (lv := 2) (i := 39) (j := 39) T rfl rfl rfl rfl rfl (keep_of (d := d_law_field) (i := 39) T rfl) (S := ⟨rfl, rfl, rfl, by decide +kernel, rfl, by decide +kernel, by decide +kernel⟩) (N := ["_law_q", "_law_p", "_law_sums", "_law_products", "_law_a", "_law_line", "_law_own", "_law_b", "_law_low", "_law_high", "_law_one", "_law_two", "_law_mixed"]) (fun _ _ _ _ _ _ us hl => match us, hl with | [_], _ => rfl) len1 <| fun f cdv A outer s H vs Q E hr h => by
    obtain ⟨v0, rfl, h⟩ := h
    have nd : (["_law_q", "_law_p", "_law_sums", "_law_products", "_law_a", "_law_line", "_law_own", "_law_b", "_law_low", "_law_high", "_law_one", "_law_two", "_law_mixed"] : List Str).Nodup := by decide +kernel
    refine ⟨_, (pss_cons (ps_set (i := 1) nd rfl (Or.inl rfl) (pe_cal (c_law_prime T) (hr.mono (by decide)) (by rfl) (pa_cons (pv 0) pa_nil))) (pss_cons (ps_set (i := 2) nd rfl (Or.inl rfl) (pe_lst pa_nil)) (pss_cons (ps_set (i := 3) nd rfl (Or.inl rfl) (pe_lst pa_nil)) (pss_cons (ps_for PassesOwn.never rfl (pi_range1 (by rfl) T.range (pa_cons (pv 0) pa_nil)) (pg_name (i := 4) nd rfl (Or.inl rfl)) (pss_cons (ps_set (i := 5) nd rfl (Or.inl rfl) (pe_lst pa_nil)) (pss_cons (ps_set (i := 6) nd rfl (Or.inl rfl) (pe_lst pa_nil)) (pss_cons (ps_for PassesOwn.never rfl (pi_range1 (by rfl) T.range (pa_cons (pv 0) pa_nil)) (pg_name (i := 7) nd rfl (Or.inl rfl)) (pss_cons (ps_asg (pe_tup (pa_cons (pe_op op_mod (pe_callTy call_int1 (by rfl) T.int boot_int (pa_cons (pv 4) pa_nil)) (pv 1)) (pa_cons (pe_op op_fdiv (pv 4) (pv 1)) (pa_cons (pe_op op_mod (pe_callTy call_int1 (by rfl) T.int boot_int (pa_cons (pv 7) pa_nil)) (pv 1)) (pa_cons (pe_op op_fdiv (pv 7) (pv 1)) pa_nil))))) (pg_tupK K rfl (pgs_cons (pg_name (i := 8) nd rfl (Or.inl rfl)) (pgs_cons (pg_name (i := 9) nd rfl (Or.inl rfl)) (pgs_cons (pg_name (i := 10) nd rfl (Or.inl rfl)) (pgs_cons (pg_name (i := 11) nd rfl (Or.inl rfl)) pgs_nil)))))) (pss_cons (ps_expr (pe_bm PySem.F.plainAttrs_list PySem.F.slot_list_append PySem.F.type_list_append mt_append (pv 5) (pa_cons (pe_cal (c_law_joined T) (hr.mono (by decide)) (by rfl) (pa_cons (pv 0) (pa_cons (pe_op op_add (pv 8) (pv 10)) (pa_cons (pe_op op_add (pv 9) (pv 11)) pa_nil)))) pa_nil))) (pss_cons (ps_set (i := 12) nd rfl (Or.inl rfl) (pe_op op_add (pe_op op_mul (pv 8) (pv 11)) (pe_op op_mul (pv 9) (pv 10)))) (pss_one (ps_if (pt_cmpR op_eq (pv 0) pe_int (nomark _)) (pss_one (ps_expr (pe_bm PySem.F.plainAttrs_list PySem.F.slot_list_append PySem.F.type_list_append mt_append (pv 6) (pa_cons (pe_cal (c_law_joined T) (hr.mono (by decide)) (by rfl) (pa_cons (pv 0) (pa_cons (pe_op op_add (pe_op op_mul (pv 8) (pv 10)) (pe_op op_mul (pv 9) (pv 11))) (pa_cons (pe_op op_add (pv 12) (pe_op op_mul (pv 9) (pv 11))) pa_nil)))) pa_nil)))) (pss_one (ps_if (pt_cmpR op_eq (pv 0) pe_int (nomark _)) (pss_one (ps_expr (pe_bm PySem.F.plainAttrs_list PySem.F.slot_list_append PySem.F.type_list_append mt_append (pv 6) (pa_cons (pe_cal (c_law_joined T) (hr.mono (by decide)) (by rfl) (pa_cons (pv 0) (pa_cons (pe_op op_add (pe_op op_mul (pv 8) (pv 10)) (pe_op op_mul (pe_op op_mul pe_int (pv 9)) (pv 11))) (pa_cons (pv 12) pa_nil)))) pa_nil)))) (pss_one (ps_expr (pe_bm PySem.F.plainAttrs_list PySem.F.slot_list_append PySem.F.type_list_append mt_append (pv 6) (pa_cons (pe_op op_mod (pe_callTy call_int1 (by rfl) T.int boot_int (pa_cons (pe_op op_mul (pv 4) (pv 7)) pa_nil)) (pv 0)) pa_nil)))))))))))) (pss_cons (ps_expr (pe_bm PySem.F.plainAttrs_list PySem.F.slot_list_append PySem.F.type_list_append mt_append (pv 2) (pa_cons (pv 5) pa_nil))) (pss_one (ps_expr (pe_bm PySem.F.plainAttrs_list PySem.F.slot_list_append PySem.F.type_list_append mt_append (pv 3) (pa_cons (pv 6) pa_nil))))))))) (pss_one (ps_ret (pe_tup (pa_cons (pv 0) (pa_cons (pv 2) (pa_cons (pv 3) pa_nil)))))))))), ?_⟩
    obtain ⟨k, rfl, q⟩ := h
    refine ⟨_, rfl, _, rfl, k, rfl, fun H1 s1 => ?_⟩
    refine ⟨by decide, fun aS nS => ?_⟩
    have sS := upd_none (o := .lst []) nS
    refine ⟨by decide, fun aP nP => ?_⟩
    have sP := upd_none (o := .lst []) nP
    have s0 := (s1.trans sS).trans sP
    have nSP : aS ≠ aP := fun e => by
      rw [← e, upd_same] at nP
      cases nP
    refine ⟨_, rfl, _, rfl, (q_rg k).1, (q_rg k).2, ?_⟩
    rw [q_nat]
    refine for_it walk_rg (fun i σ H' => Same H H' ∧ (∃ c4 c5 c6 c7 c8 c9 c10 c11 c12, σ = [some (.int (k.q : Int)), some (.int (k.p : Int)), some (.ref aS), some (.ref aP), c4, c5, c6, c7, c8, c9, c10, c11, c12]) ∧ Lns (k := k) H' aS aS aP i (fun x y => x + y) ∧ Lns (k := k) H' aP aS aP i (fun x y => x * y)) ⟨s0, ⟨none, none, none, none, none, none, none, none, none, rfl⟩, ⟨[], sP _ _ upd_same, .nil⟩, ⟨[], upd_same, .nil⟩⟩ (fun _ _ _ _ _ => trivial) (fun i z σ H2 H3 hi hp hz => ?_) fun σ H' hp => ?_
    · obtain ⟨s2, ⟨c4, c5, c6, c7, c8, c9, c10, c11, c12, rfl⟩, ⟨lS, eS, pS⟩, ⟨lP, eP, pP⟩⟩ := hp
      obtain ⟨rfl, hz⟩ := hz
      have hz := Eq.trans (b := V.int (i : Int)) hz (iv_of hi)
      subst hz
      refine ⟨by decide, fun aL nL => ?_⟩
      have sL := upd_none (o := .lst []) nL
      refine ⟨by decide, fun aO nO => ?_⟩
      have sO := upd_none (o := .lst []) nO
      have nLO : aL ≠ aO := fun e => by
        rw [← e, upd_same] at nO
        cases nO
      have nO2 := sL.free nO
      refine ⟨_, rfl, _, rfl, (q_rg k).1, (q_rg k).2, ?_⟩
      rw [q_nat]
      refine for_it walk_rg (fun j σ H' => Same H3 H' ∧ (∃ c7 c8 c9 c10 c11 c12, σ = [some (.int (k.q : Int)), some (.int (k.p : Int)), some (.ref aS), some (.ref aP), some (iv (El.of k i)), some (.ref aL), some (.ref aO), c7, c8, c9, c10, c11, c12]) ∧ H' aL = some (.lst ((List.range j).map fun l => iv (El.of k i + El.of k l))) ∧ H' aO = some (.lst ((List.range j).map fun l => iv (El.of k i * El.of k l)))) ⟨sL.trans sO, ⟨_, _, _, _, _, _, rfl⟩, sO _ _ upd_same, upd_same⟩ (fun _ _ _ _ _ => trivial) (fun j z σ H4 H5 hj hp hz => ?_) fun σ H' hp => ?_
      · obtain ⟨s3, ⟨c7, c8, c9, c10, c11, c12, rfl⟩, eL, eO⟩ := hp
        obtain ⟨rfl, hz⟩ := hz
        have hz := Eq.trans (b := V.int (j : Int)) hz (iv_of hj)
        subst hz
        generalize hx : El.of k i = x at *
        generalize hy : El.of k j = y at *
        refine ⟨_, rfl, .inl ⟨_, rfl, _, rfl, _, _, rfl, rfl, p_pos k, _, rfl, _, rfl, _, _, rfl, rfl, p_div k, _, rfl, .inl ⟨_, rfl, _, rfl, _, _, rfl, rfl, p_pos k, _, rfl, _, rfl, _, _, rfl, rfl, p_div k, (by decide : (4 : Nat) ≤ sizeLine), fun pt nt => ?_⟩⟩⟩
        have st := upd_none (o := .tup [.int ((x.val : Int) % (k.p : Int)), .int ((x.val : Int) / (k.p : Int)), .int ((y.val : Int) % (k.p : Int)), .int ((y.val : Int) / (k.p : Int))]) nt
        refine ⟨_, _, rfl, tq upd_same, rfl, _, _, rfl, _, _, rfl, _, _, rfl, _, _, rfl, rfl, ?_⟩
        refine ⟨_, rfl, .inl ⟨rfl, _, lq' (st _ _ eL)⟩, _, rfl, _, rfl, _, rfl, _, _, rfl, rfl, _, rfl, _, rfl, _, _, rfl, rfl, _, _, _, rfl, k, _, _, rfl, rfl, rfl, fun H6 s6 => ?_⟩
        have eL6 := s6 _ _ (st _ _ eL)
        have szL : ∀ m, m < k.q → ∀ g : Nat → El k, ((List.range m).map fun l => iv (g l)).length < sizeLine := fun m hm g => by
          rw [List.length_map, List.length_range]
          have := k.q_le
          exact small_n (by omega)
        refine ⟨_, _, _, rfl, rfl, eL6, szL j hj _, ?_⟩
        rw [jn_add]
        have nL6 : Same H3 (upd H6 aL (.lst ((List.range j).map (fun l => iv (x + El.of k l)) ++ [.int (((x + y : El k)).val : Int)]))) := ((s3.trans st).trans s6).upd nL
        have eO6 : upd H6 aL (.lst ((List.range j).map (fun l => iv (x + El.of k l)) ++ [.int (((x + y : El k)).val : Int)])) aO = some (.lst ((List.range j).map fun l => iv (x * El.of k l))) := by
          rw [upd_ne (Ne.symm nLO)]
          exact s6 _ _ (st _ _ eO)
        have fin : ∀ H7, Same (upd H6 aL (.lst ((List.range j).map (fun l => iv (x + El.of k l)) ++ [.int (((x + y : El k)).val : Int)]))) H7 → (Same H3 (upd H7 aO (.lst ((List.range j).map (fun l => iv (x * El.of k l)) ++ [.int (((x * y : El k)).val : Int)]))) ∧
            upd H7 aO (.lst ((List.range j).map (fun l => iv (x * El.of k l)) ++ [.int (((x * y : El k)).val : Int)])) aL = some (.lst ((List.range (j + 1)).map fun l => iv (x + El.of k l))) ∧
            upd H7 aO (.lst ((List.range j).map (fun l => iv (x * El.of k l)) ++ [.int (((x * y : El k)).val : Int)])) aO = some (.lst ((List.range (j + 1)).map fun l => iv (x * El.of k l)))) := fun H7 s7 => by
          refine ⟨(nL6.trans s7).upd nO2, ?_, ?_⟩
          · rw [upd_ne nLO, s7 _ _ upd_same, List.range_succ, List.map_append, ← hy]
            rfl
          · rw [upd_same, List.range_succ, List.map_append, ← hy]
            rfl
        refine ⟨_, rfl, _, rfl, _, _, rfl, rfl, .inl (mod_64 k _), _, rfl, _, rfl, _, _, rfl, rfl, .inl (div_64 x), _, _, rfl, rfl, ?_⟩
        refine ⟨_, rfl, rfl, _, rfl, ?_⟩
        rw [q_four]
        refine iteF ⟨_, rfl, rfl, _, rfl, ?_⟩
        rw [q_nine]
        refine ite2 (fun c => ?_) fun c => ?_
        · have c := of_decide_eq_true c
          refine ⟨_, rfl, .inl ⟨rfl, _, lq' eO6⟩, _, rfl, _, rfl, _, rfl, _, _, rfl, rfl, .inl (mod_64 k _), _, rfl, _, _, rfl, rfl, .inl (by decide), _, rfl, _, _, rfl, rfl, .inr (div_64 y), _, _, rfl, rfl, _, rfl, _, _, _, rfl, k, _, _, rfl, rfl, rfl, fun H7 s7 => ?_⟩
          refine ⟨_, _, _, rfl, rfl, s7 _ _ eO6, szL j hj _, ?_⟩
          rw [fl_nine k x y c]
          obtain ⟨f1, f2, f3⟩ := fin H7 s7
          exact ⟨f1, ⟨_, _, _, _, _, _, rfl⟩, f2, f3⟩
        · have c : ¬ k.q = 9 := fun z => c (decide_eq_true z)
          refine ⟨_, rfl, .inl ⟨rfl, _, lq' eO6⟩, _, rfl, _, rfl, _, _, rfl, rfl, .inl (el_64 x), .inl ⟨_, rfl, _, rfl, _, _, rfl, rfl, q_posI k, ?_⟩⟩
          refine ⟨_, _, V.int (((x * y : El k)).val : Int), rfl, congrArg (fun i => [V.int i]) (fl_one k x y c), eO6, szL j hj _, ?_⟩
          obtain ⟨f1, f2, f3⟩ := fin _ (Same.refl _)
          exact ⟨f1, ⟨_, _, _, _, _, _, rfl⟩, f2, f3⟩
      · obtain ⟨s3, ⟨c7, c8, c9, c10, c11, c12, rfl⟩, eL, eO⟩ := hp
        have ls1 : lS.length < sizeLine := by
          rw [Paired.len pS, List.length_range]
          have := k.q_le
          exact small_n (by omega)
        have ls2 : lP.length < sizeLine := by
          rw [Paired.len pP, List.length_range]
          have := k.q_le
          exact small_n (by omega)
        have nLS : aL ≠ aS := fun e => by rw [e, eS] at nL; cases nL
        have nLP : aL ≠ aP := fun e => by rw [e, eP] at nL; cases nL
        have nOS : aO ≠ aS := fun e => by rw [e, eS] at nO2; cases nO2
        have nOP : aO ≠ aP := fun e => by rw [e, eP] at nO2; cases nO2
        have eS' := s3 _ _ eS
        have eP' : upd H' aS (.lst (lS ++ [.ref aL])) aP = some (.lst lP) := by
          rw [upd_ne (Ne.symm nSP)]
          exact s3 _ _ eP
        refine ⟨_, rfl, .inl ⟨rfl, _, lq' eS'⟩, _, rfl, _, _, _, rfl, rfl, eS', ls1, ?_⟩
        refine ⟨_, rfl, .inl ⟨rfl, _, lq' eP'⟩, _, rfl, _, _, _, rfl, rfl, eP', ls2, ?_⟩
        have kp : ∀ b o, b ≠ aS ∧ b ≠ aP → H3 b = some o → upd (upd H' aS (.lst (lS ++ [.ref aL]))) aP (.lst (lP ++ [.ref aO])) b = some o := fun b o n e => by
          rw [upd_ne n.2, upd_ne n.1]
          exact s3 _ _ e
        refine ⟨((s2.trans s3).upd (s1.free nS)).upd ((s1.trans sS).free nP), ⟨_, _, _, _, _, _, _, _, _, rfl⟩, ⟨lS ++ [.ref aL], by rw [upd_ne nSP, upd_same], ?_⟩, ⟨lP ++ [.ref aO], upd_same, ?_⟩⟩
        · rw [List.range_succ]
          refine Paired.append' (Paired.imp' (fun l v ⟨b, e, n, eb⟩ => ⟨b, e, n, kp b _ n eb⟩) pS) (.cons ⟨aL, rfl, ⟨nLS, nLP⟩, ?_⟩ .nil)
          rw [upd_ne nLP, upd_ne nLS]
          exact eL
        · rw [List.range_succ]
          refine Paired.append' (Paired.imp' (fun l v ⟨b, e, n, eb⟩ => ⟨b, e, n, kp b _ n eb⟩) pP) (.cons ⟨aO, rfl, ⟨nOS, nOP⟩, ?_⟩ .nil)
          rw [upd_ne nOP, upd_ne nOS]
          exact eO
    · obtain ⟨s2, ⟨c4, c5, c6, c7, c8, c9, c10, c11, c12, rfl⟩, ⟨lS, eS, pS⟩, ⟨lP, eP, pP⟩⟩ := hp
      refine ⟨_, rfl, _, rfl, _, rfl, (by decide : (3 : Nat) ≤ sizeLine), fun p np => ?_⟩
      have sp := upd_none (o := .tup [.int (k.q : Int), .ref aS, .ref aP]) np
      exact q _ _ (s2.trans sp) ⟨p, aS, aP, rfl, upd_same, ⟨lS, sp _ _ eS, Paired.imp' (fun l v ⟨b, e, n, eb⟩ => ⟨b, e, sp _ _ eb⟩) pS⟩, ⟨lP, sp _ _ eP, Paired.imp' (fun l v ⟨b, e, n, eb⟩ => ⟨b, e, sp _ _ eb⟩) pP⟩⟩


end
end Wit

namespace Wit
open PySem PySem.Spec PyProof.Rows L2
section
variable {P : Program} {w : World} {K : PySem.W.Frag} {mg : Str → Option Value} {base : Heap}

theorem inv_first : ∀ (k : Kd) (x : El k), x ≠ 0 → x * x⁻¹ = 1 ∧ ∀ m : El k, m.val < (x⁻¹).val → ¬ x * m = 1 := by
  intro k; cases k <;> decide +kernel
theorem neg_first : ∀ (k : Kd) (x : El k), x + -x = 0 ∧ ∀ m : El k, m.val < (-x).val → ¬ x + m = 0 := by
  intro k; cases k <;> decide +kernel
theorem line_flat {k : Kd} (g : El k → El k) : ((List.range k.q).map fun j => iv (g (El.of k j))).all flatV = true := by
  rw [List.all_map]
  exact List.all_eq_true.mpr fun _ _ => rfl
theorem eqV_iv {k : Kd} (x y : El k) : eqV (iv x) (iv y) = decide (x = y) := by
  show ((x.val : Int) == (y.val : Int)) = _
  by_cases c : x = y
  · subst c
    simp
  · have : ¬ (x.val : Int) = (y.val : Int) := fun e => c (El.ext (by omega))
    simp [c, this]
theorem line_get {k : Kd} (g : El k → El k) {m : Nat} {z : V} (h : ((List.range k.q).map fun j => iv (g (El.of k j)))[m]? = some z) : m < k.q ∧ z = iv (g (El.of k m)) := by
  have lt := (List.getElem?_eq_some_iff.mp h).1
  simp at lt
  simp [lt] at h
  exact ⟨lt, h.symm⟩
theorem val_of {k : Kd} {m : Nat} (h : m < k.q) : (El.of k m).val = m := Nat.mod_eq_of_lt h
/-- a cell of a matrix of rows -/
theorem t_cell {σ : L2.St} {H : Hp} {tm ti tj : TE} {k : Kd} {n i j : Nat} {A : Nat → Nat → El k} {m : V} (hm : RowsT H m (mR A n)) (hi : i < n) (hj : j < n) (h : ∀ (R : VK), R m H → tm σ H R) (h1 : ∀ (R : VK), R (.int (i : Nat)) H → ti σ H R) (h2 : ∀ (R : VK), R (.int (j : Nat)) H → tj σ H R) (R : VK) (q : R (iv (A i j)) H) : tOp (rIxT K) (tOp (rIxT K) tm ti) tj σ H R := by
  obtain ⟨a, ms, rfl, e, pm⟩ := hm
  obtain ⟨b, x1, xs, y1, z1⟩ := rows_cell pm hi hj
  exact h _ (h1 _ ⟨_, _, _, _, rfl, rfl, tq e, atI_nat x1, h2 _ ⟨_, _, _, _, rfl, rfl, tq y1, atI_nat z1, q⟩⟩)

def p_law_mul (a b c : V) (H : Hp) (Q : VK) : Prop := ∃ (k : Kd) (x y : El k), LF H a k ∧ b = iv x ∧ c = iv y ∧ Q (iv (x * y)) H
theorem c_law_mul (T : Tx K mg) : Cal P w K mg base 1 "_law_mul" ["_law_f", "_law_a", "_law_b"] (sp3 p_law_mul) :=
  cal_of (d := d_law_mul) (lv := 0) (i := 40) (j := 40) T rfl rfl rfl rfl rfl (keep_of (d := d_law_mul) (i := 40) T rfl) (S := ⟨rfl, rfl, rfl, by decide +kernel, rfl, by decide +kernel, by decide +kernel⟩) (N := ["_law_f", "_law_a", "_law_b"]) (fun _ _ _ _ _ _ us hl => match us, hl with | [_, _, _], _ => rfl) len3 <| fun f cdv A outer s H vs Q E hr h => by
    obtain ⟨v0, v1, v2, rfl, h⟩ := h
    have nd : (["_law_f", "_law_a", "_law_b"] : List Str).Nodup := by decide +kernel
    refine ⟨_, (pss_one (ps_ret (pe_ix (ix_listK K) (pe_ix (ix_listK K) (pe_ix (ix_tupK K) (pv 0) pe_int (fun _ _ => rfl)) (pv 1) (fun _ _ => rfl)) (pv 2) (fun _ _ => rfl)))), ?_⟩
    obtain ⟨k, x, y, hf, rfl, rfl, q⟩ := h
    exact rd_mul hf (tv rfl) (tv rfl) (tv rfl) q


def p_law_negative (a b : V) (H : Hp) (Q : VK) : Prop := ∃ (k : Kd) (x : El k), LF H a k ∧ b = iv x ∧ Q (iv (-x)) H
theorem c_law_negative (T : Tx K mg) : Cal P w K mg base 1 "_law_negative" ["_law_f", "_law_a"] (sp2 p_law_negative) :=
  cal_of (d := d_law_negative) (lv := 0) (i := 41) (j := 41) T rfl rfl rfl rfl rfl (keep_of (d := d_law_negative) (i := 41) T rfl) (S := ⟨rfl, rfl, rfl, by decide +kernel, rfl, by decide +kernel, by decide +kernel⟩) (N := ["_law_f", "_law_a"]) (fun _ _ _ _ _ _ us hl => match us, hl with | [_, _], _ => rfl) len2 <| fun f cdv A outer s H vs Q E hr h => by
    obtain ⟨v0, v1, rfl, h⟩ := h
    have nd : (["_law_f", "_law_a"] : List Str).Nodup := by decide +kernel
    refine ⟨_, (pss_one (ps_ret (pe_bm PySem.F.plainAttrs_list PySem.F.slot_list_index PySem.F.type_list_index (mt_indexK K) (pe_ix (ix_listK K) (pe_ix (ix_tupK K) (pv 0) pe_int (fun _ _ => rfl)) (pv 1) (fun _ _ => rfl)) (pa_cons pe_int pa_nil)))), ?_⟩
    obtain ⟨k, x, ⟨a, s, p, rfl, e, t1, t2⟩, rfl, q⟩ := h
    obtain ⟨ls, b, e2, ev, eb⟩ := t1.at x
    obtain ⟨n1, n2⟩ := neg_first k x
    refine ⟨_, rfl, _, _, _, _, rfl, rfl, tq e, rfl, _, rfl, _, _, _, _, rfl, rfl, lq' e2, atI_nat ev, ?_⟩
    refine ⟨.inl ⟨rfl, _, lq' eb⟩, b, _, .int 0, (-x).val, iv (x + -x), rfl, rfl, lq' eb, rfl, line_flat _, line_val _ (-x), ?_, fun m z hm hz => ?_, q⟩
    · rw [iv_zero k, eqV_iv, n1]
      exact decide_eq_true rfl
    · obtain ⟨hl, rfl⟩ := line_get _ hz
      rw [iv_zero k, eqV_iv]
      exact decide_eq_false (n2 _ (by rw [val_of hl]; exact hm))


def p_law_inverse (a b : V) (H : Hp) (Q : VK) : Prop := ∃ (k : Kd) (x : El k), LF H a k ∧ b = iv x ∧ x ≠ 0 ∧ Q (iv x⁻¹) H
theorem c_law_inverse (T : Tx K mg) : Cal P w K mg base 1 "_law_inverse" ["_law_f", "_law_a"] (sp2 p_law_inverse) :=
  cal_of (d := d_law_inverse) (lv := 0) (i := 42) (j := 42) T rfl rfl rfl rfl rfl (keep_of (d := d_law_inverse) (i := 42) T rfl) (S := ⟨rfl, rfl, rfl, by decide +kernel, rfl, by decide +kernel, by decide +kernel⟩) (N := ["_law_f", "_law_a"]) (fun _ _ _ _ _ _ us hl => match us, hl with | [_, _], _ => rfl) len2 <| fun f cdv A outer s H vs Q E hr h => by
    obtain ⟨v0, v1, rfl, h⟩ := h
    have nd : (["_law_f", "_law_a"] : List Str).Nodup := by decide +kernel
    refine ⟨_, (pss_one (ps_ret (pe_bm PySem.F.plainAttrs_list PySem.F.slot_list_index PySem.F.type_list_index (mt_indexK K) (pe_ix (ix_listK K) (pe_ix (ix_tupK K) (pv 0) pe_int (fun _ _ => rfl)) (pv 1) (fun _ _ => rfl)) (pa_cons pe_int pa_nil)))), ?_⟩
    obtain ⟨k, x, ⟨a, s, p, rfl, e, t1, t2⟩, rfl, hx, q⟩ := h
    obtain ⟨ls, b, e2, ev, eb⟩ := t2.at x
    obtain ⟨n1, n2⟩ := inv_first k x hx
    refine ⟨_, rfl, _, _, _, _, rfl, rfl, tq e, rfl, _, rfl, _, _, _, _, rfl, rfl, lq' e2, atI_nat ev, ?_⟩
    refine ⟨.inl ⟨rfl, _, lq' eb⟩, b, _, .int 1, (x⁻¹).val, iv (x * x⁻¹), rfl, rfl, lq' eb, rfl, line_flat _, line_val _ x⁻¹, ?_, fun m z hm hz => ?_, q⟩
    · rw [iv_one k, eqV_iv, n1]
      exact decide_eq_true rfl
    · obtain ⟨hl, rfl⟩ := line_get _ hz
      rw [iv_one k, eqV_iv]
      exact decide_eq_false (n2 _ (by rw [val_of hl]; exact hm))


def p_law_sum (a b c : V) (H : Hp) (Q : VK) : Prop := ∃ (k : Kd) (n : Nat) (x y : Vc (El k) n), LF H a k ∧ Row H b x ∧ Row H c y ∧ n ≤ 1000 ∧ ∀ r H', Same H H' → Row H' r (x + y) → Q r H'
theorem c_law_sum (T : Tx K mg) : Cal P w K mg base 1 "_law_sum" ["_law_f", "_law_v", "_law_w"] (sp3 p_law_sum) :=
  cal_of (d := d_law_sum) (lv := 0) (i := 43) (j := 43) T rfl rfl rfl rfl rfl (keep_of (d := d_law_sum) (i := 43) T rfl) (S := ⟨rfl, rfl, rfl, by decide +kernel, rfl, by decide +kernel, by decide +kernel⟩) (N := ["_law_f", "_law_v", "_law_w", "_law_k"]) (fun _ _ _ _ _ _ us hl => match us, hl with | [_, _, _], _ => rfl) len3 <| fun f cdv A outer s H vs Q E hr h => by
    obtain ⟨v0, v1, v2, rfl, h⟩ := h
    have nd : (["_law_f", "_law_v", "_law_w", "_law_k"] : List Str).Nodup := by decide +kernel
    refine ⟨_, (pss_one (ps_ret (pe_callTy (call_tuple_ofK K) (by rfl) T.tuple boot_tuple (pa_cons (pe_lc (own := [("_law_k", 3)]) (g := (gName 3)) (tt := tYes) rfl nd (pi_range1 (by rfl) T.range (pa_cons (pe_callB (call_len_seqK K) (by rfl) T.len PySem.boot_len (pa_cons (pv 1) pa_nil)) pa_nil)) (blkOk_by (by kernel_rfl)) (fun _ _ _ _ _ => (pg_name (i := 3) nd rfl (Or.inl rfl))) (fun _ _ _ _ _ => pts_nil) (fun _ _ _ _ _ => (pe_ix (ix_listK K) (pe_ix (ix_listK K) (pe_ix (ix_tupK K) (pv 0) pe_int (fun _ _ => rfl)) (pe_ix (ix_tupK K) (pv 1) (pv 3) (fun _ _ => rfl)) (fun _ _ => rfl)) (pe_ix (ix_tupK K) (pv 2) (pv 3) (fun _ _ => rfl)) (fun _ _ => rfl)))) pa_nil)))), ?_⟩
    obtain ⟨k, n, x, y, hf, hx, hy, hn, q⟩ := h
    obtain ⟨ax, rfl, ex⟩ := id hx
    refine ⟨_, rfl, _, _, rfl, .inr (tq ex), _, rfl, by omega, by rw [vl_len]; omega, ?_⟩
    rw [vl_len, Int.toNat_natCast]
    refine lc_tup walk_rg (fun j z _ => z = iv (x.f j + y.f j)) (small_n hn) (fun _ _ => trivial) (fun _ _ _ _ _ z => z) yFn_same (fun j z H1 H2 yes hj s1 s2 hz hyes => ?_) gName_mono fun p H' ys s1 hp pr => ?_
    · obtain ⟨rfl, rfl⟩ := hz
      exact ⟨rfl, rd_add (hf.mono s2) (tv rfl) (tx (hx.mono s2) hj (tv rfl) (tv rfl)) (tx (hy.mono s2) hj (tv rfl) (tv rfl)) (hyes _ _ (Same.refl _) rfl)⟩
    · exact q _ H' s1 (row_of hp pr fun _ _ => rfl)


def p_law_times (a b c : V) (H : Hp) (Q : VK) : Prop := ∃ (k : Kd) (n : Nat) (x : Vc (El k) n) (t : El k), LF H a k ∧ Row H b x ∧ c = iv t ∧ n ≤ 1000 ∧ ∀ r H', Same H H' → Row H' r (x.sc t) → Q r H'
theorem c_law_times (T : Tx K mg) : Cal P w K mg base 1 "_law_times" ["_law_f", "_law_v", "_law_c"] (sp3 p_law_times) :=
  cal_of (d := d_law_times) (lv := 0) (i := 44) (j := 44) T rfl rfl rfl rfl rfl (keep_of (d := d_law_times) (i := 44) T rfl) (S := ⟨rfl, rfl, rfl, by decide +kernel, rfl, by decide +kernel, by decide +kernel⟩) (N := ["_law_f", "_law_v", "_law_c", "_law_x"]) (fun _ _ _ _ _ _ us hl => match us, hl with | [_, _, _], _ => rfl) len3 <| fun f cdv A outer s H vs Q E hr h => by
    obtain ⟨v0, v1, v2, rfl, h⟩ := h
    have nd : (["_law_f", "_law_v", "_law_c", "_law_x"] : List Str).Nodup := by decide +kernel
    refine ⟨_, (pss_one (ps_ret (pe_callTy (call_tuple_ofK K) (by rfl) T.tuple boot_tuple (pa_cons (pe_lc (own := [("_law_x", 3)]) (g := (gName 3)) (tt := tYes) rfl nd (pi_tupK K (pv 1)) (blkOk_by (by kernel_rfl)) (fun _ _ _ _ _ => (pg_name (i := 3) nd rfl (Or.inl rfl))) (fun _ _ _ _ _ => pts_nil) (fun _ _ _ _ _ => (pe_ix (ix_listK K) (pe_ix (ix_listK K) (pe_ix (ix_tupK K) (pv 0) pe_int (fun _ _ => rfl)) (pv 3) (fun _ _ => rfl)) (pv 2) (fun _ _ => rfl)))) pa_nil)))), ?_⟩
    obtain ⟨k, n, x, t, hf, ⟨ax, rfl, ex⟩, rfl, hn, q⟩ := h
    refine ⟨_, rfl, _, rfl, ⟨_, tq ex⟩, ?_⟩
    refine lc_tup walk_one (fun j z _ => z = iv (x.f j * t)) (small_n hn) (fun H' s => tq (s _ _ ex)) (fun _ _ _ _ _ z => z) yAt_same (fun j z H1 H2 yes hj s1 s2 hz hyes => ?_) gName_mono fun p H' ys s1 hp pr => ?_
    · obtain ⟨rfl, e1⟩ := hz
      rw [vl_at x hj] at e1
      cases e1
      exact ⟨rfl, rd_mul (hf.mono s2) (tv rfl) (tv rfl) (tv rfl) (hyes _ _ (Same.refl _) rfl)⟩
    · exact q _ H' s1 (row_of hp pr fun _ _ => rfl)


def p_law_combined (a b c d : V) (H : Hp) (Q : VK) : Prop := ∃ (k : Kd) (n m : Nat) (M : List (Vc (El k) n)) (w : Vc (El k) m), LF H a k ∧ RowsT H b M ∧ Row H c w ∧ d = .int n ∧ M.length = m ∧ n ≤ 1000 ∧ m ≤ 1000 ∧ ∀ r H', Same H H' → Row H' r (ap M w) → Q r H'
theorem c_law_combined (T : Tx K mg) : Cal P w K mg base 2 "_law_combined" ["_law_f", "_law_rows", "_law_weights", "_law_n"] (sp4 p_law_combined) :=
  cal_of (d := d_law_combined) (lv := 1) (i := 45) (j := 45) T rfl rfl rfl rfl rfl (keep_of (d := d_law_combined) (i := 45) T rfl) (S := ⟨rfl, rfl, rfl, by decide +kernel, rfl, by decide +kernel, by decide +kernel⟩) (N := ["_law_f", "_law_rows", "_law_weights", "_law_n", "_law_total", "_law_k"]) (fun _ _ _ _ _ _ us hl => match us, hl with | [_, _, _, _], _ => rfl) len4 <| fun f cdv A outer s H vs Q E hr h => by
    obtain ⟨v0, v1, v2, v3, rfl, h⟩ := h
    have nd : (["_law_f", "_law_rows", "_law_weights", "_law_n", "_law_total", "_law_k"] : List Str).Nodup := by decide +kernel
    refine ⟨_, (pss_cons (ps_set (i := 4) nd rfl (Or.inl rfl) (pe_callTy (call_tuple_ofK K) (by rfl) T.tuple boot_tuple (pa_cons (pe_lc (own := [("_law_k", 5)]) (g := (gName 5)) (tt := tYes) rfl nd (pi_range1 (by rfl) T.range (pa_cons (pv 3) pa_nil)) (blkOk_by (by kernel_rfl)) (fun _ _ _ _ _ => (pg_name (i := 5) nd rfl (Or.inl rfl))) (fun _ _ _ _ _ => pts_nil) (fun _ _ _ _ _ => pe_int)) pa_nil))) (pss_cons (ps_for PassesOwn.never rfl (pi_range1 (by rfl) T.range (pa_cons (pe_callB (call_len_seqK K) (by rfl) T.len PySem.boot_len (pa_cons (pv 2) pa_nil)) pa_nil)) (pg_name (i := 5) nd rfl (Or.inl rfl)) (pss_one (ps_set (i := 4) nd rfl (Or.inl rfl) (pe_cal (c_law_sum T) (hr.mono (by decide)) (by rfl) (pa_cons (pv 0) (pa_cons (pv 4) (pa_cons (pe_cal (c_law_times T) (hr.mono (by decide)) (by rfl) (pa_cons (pv 0) (pa_cons (pe_ix (ix_tupK K) (pv 1) (pv 5) (fun _ _ => rfl)) (pa_cons (pe_ix (ix_tupK K) (pv 2) (pv 5) (fun _ _ => rfl)) pa_nil)))) pa_nil))))))) (pss_one (ps_ret (pv 4))))), ?_⟩
    obtain ⟨k, n, m, M, w', hf, ⟨am, ms, rfl, em, pm⟩, hw, rfl, lM, hn, hm, q⟩ := h
    obtain ⟨aw, rfl, ew⟩ := id hw
    refine ⟨_, rfl, _, rfl, by omega, by omega, ?_⟩
    rw [Int.toNat_natCast]
    refine lc_tup walk_rg (fun j z _ => z = .int 0) (small_n hn) (fun _ _ => trivial) (fun _ _ _ _ _ z => z) yFn_same (fun j z H1 H2 yes hj s1 s2 hz hyes => ?_) gName_mono fun p H1 ys s1 hp pr => ?_
    · exact ⟨rfl, hyes _ _ (Same.refl _) rfl⟩
    · have h0 : Row H1 (.ref p) (Vc.nul (El k) n) := ⟨p, rfl, by
        rw [hp, Paired.eq_map (f := fun _ => V.int 0) pr]
        unfold vl
        rw [iv_zero k]
        rfl⟩
      refine ⟨_, rfl, _, _, rfl, .inr (tq (s1 _ _ ew)), _, rfl, by omega, by rw [vl_len]; omega, ?_⟩
      rw [vl_len, Int.toNat_natCast]
      refine for_it walk_rg (fun i σ H' => Same H H' ∧ ∃ acc c, σ = [some v0, some (.ref am), some (.ref aw), some (.int n), some acc, c] ∧ Row H' acc (comb (M.take i) w'.f)) ⟨s1, _, none, rfl, h0⟩ (fun _ _ _ _ _ => trivial) (fun j z σ H2 H3 hj hp hz => ?_) fun σ H' hp => ?_
      · obtain ⟨s2, acc, c, rfl, ha⟩ := hp
        obtain ⟨rfl, rfl⟩ := hz
        obtain ⟨y, ey, hy⟩ := rowsP_at pm (i := j) (by omega)
        refine ⟨_, rfl, _, rfl, _, rfl, _, rfl, _, rfl, _, _, _, _, rfl, rfl, tq (s2 _ _ em), atI_nat ey, ?_⟩
        refine tx (hw.mono s2) hj (tv rfl) (tv rfl) _ ⟨_, _, _, rfl, k, n, _, _, hf.mono s2, hy.mono s2, rfl, hn, fun r H4 s4 h4 => ?_⟩
        refine ⟨_, _, _, rfl, k, n, _, _, hf.mono (s2.trans s4), ha.mono s4, h4, hn, fun r2 H5 s5 h5 => ⟨(s2.trans s4).trans s5, r2, _, rfl, ?_⟩⟩
        rw [comb_take (by omega)]
        exact h5
      · obtain ⟨s2, acc, c, rfl, ha⟩ := hp
        rw [List.take_of_length_le (by omega)] at ha
        exact ⟨_, rfl, q _ _ s2 ha⟩


def p_law_unit (a b : V) (H : Hp) (Q : VK) : Prop := ∃ (k : Kd) (n i : Nat), a = .int n ∧ b = .int i ∧ n ≤ 1000 ∧ ∀ r H', Same H H' → Row H' r (Vc.un (El k) n i) → Q r H'
theorem c_law_unit (T : Tx K mg) : Cal P w K mg base 1 "_law_unit" ["_law_n", "_law_i"] (sp2 p_law_unit) :=
  cal_of (d := d_law_unit) (lv := 0) (i := 46) (j := 46) T rfl rfl rfl rfl rfl (keep_of (d := d_law_unit) (i := 46) T rfl) (S := ⟨rfl, rfl, rfl, by decide +kernel, rfl, by decide +kernel, by decide +kernel⟩) (N := ["_law_n", "_law_i", "_law_k"]) (fun _ _ _ _ _ _ us hl => match us, hl with | [_, _], _ => rfl) len2 <| fun f cdv A outer s H vs Q E hr h => by
    obtain ⟨v0, v1, rfl, h⟩ := h
    have nd : (["_law_n", "_law_i", "_law_k"] : List Str).Nodup := by decide +kernel
    refine ⟨_, (pss_one (ps_ret (pe_callTy (call_tuple_ofK K) (by rfl) T.tuple boot_tuple (pa_cons (pe_lc (own := [("_law_k", 2)]) (g := (gName 2)) (tt := tYes) rfl nd (pi_range1 (by rfl) T.range (pa_cons (pv 0) pa_nil)) (blkOk_by (by kernel_rfl)) (fun _ _ _ _ _ => (pg_name (i := 2) nd rfl (Or.inl rfl))) (fun _ _ _ _ _ => pts_nil) (fun _ _ _ _ _ => (pe_callTy call_int1 (by rfl) T.int boot_int (pa_cons (pe_cmpR op_eq (pv 2) (pv 1) (nomark _)) pa_nil)))) pa_nil)))), ?_⟩
    obtain ⟨k, n, i, rfl, rfl, hn, q⟩ := h
    refine ⟨_, rfl, _, rfl, by omega, by omega, ?_⟩
    rw [Int.toNat_natCast]
    refine lc_tup walk_rg (fun j y _ => y = iv ((Vc.un (El k) n i).f j)) (small_n hn) (fun _ _ => trivial) (fun _ _ _ _ _ z => z) yFn_same (fun j x H1 H2 yes hj s1 s2 hy hyes => ?_) gName_mono fun p H' ys s1 hp pr => ?_
    · obtain ⟨rfl, rfl⟩ := hy
      refine ⟨rfl, _, rfl, _, rfl, rfl, .inr ⟨_, rfl, hyes _ _ (Same.refl _) ?_⟩⟩
      have e : decide (V.int (j : Int) = V.int (i : Int)) = decide (j = i) := decide_eq_decide.mpr ⟨fun z => by injection z with z; omega, fun z => by rw [z]⟩
      rw [e]
      unfold Vc.un
      rw [Vc.of_f hj]
      by_cases c : j = i
      · rw [if_pos c, if_pos (decide_eq_true c)]; exact iv_one k
      · rw [if_neg c, if_neg (by simpa using c)]; exact iv_zero k
    · exact q _ H' s1 (row_of hp pr fun _ _ => rfl)


def p_law_identity (a : V) (H : Hp) (Q : VK) : Prop := ∃ (k : Kd) (n : Nat), a = .int n ∧ n ≤ 1000 ∧ ∀ r H', Same H H' → RowsT H' r (ident (El k) n) → Q r H'
theorem c_law_identity (T : Tx K mg) : Cal P w K mg base 2 "_law_identity" ["_law_n"] (sp1 p_law_identity) :=
  cal_of (d := d_law_identity) (lv := 1) (i := 63) (j := 63) T rfl rfl rfl rfl rfl (keep_of (d := d_law_identity) (i := 63) T rfl) (S := ⟨rfl, rfl, rfl, by decide +kernel, rfl, by decide +kernel, by decide +kernel⟩) (N := ["_law_n", "_law_i"]) (fun _ _ _ _ _ _ us hl => match us, hl with | [_], _ => rfl) len1 <| fun f cdv A outer s H vs Q E hr h => by
    obtain ⟨v0, rfl, h⟩ := h
    have nd : (["_law_n", "_law_i"] : List Str).Nodup := by decide +kernel
    refine ⟨_, (pss_one (ps_ret (pe_callTy (call_tuple_ofK K) (by rfl) T.tuple boot_tuple (pa_cons (pe_lc (own := [("_law_i", 1)]) (g := (gName 1)) (tt := tYes) rfl nd (pi_range1 (by rfl) T.range (pa_cons (pv 0) pa_nil)) (blkOk_by (by kernel_rfl)) (fun _ _ _ _ _ => (pg_name (i := 1) nd rfl (Or.inl rfl))) (fun _ _ _ _ _ => pts_nil) (fun _ _ _ _ _ => (pe_cal (c_law_unit T) (hr.mono (by decide)) (by rfl) (pa_cons (pv 0) (pa_cons (pv 1) pa_nil))))) pa_nil)))), ?_⟩
    obtain ⟨k, n, rfl, hn, q⟩ := h
    refine ⟨_, rfl, _, rfl, by omega, by omega, ?_⟩
    rw [Int.toNat_natCast]
    refine lc_tup walk_rg (fun j y H => Row H y (Vc.un (El k) n j)) (small_n hn) (fun _ _ => trivial) (fun _ _ _ _ s z => z.kt s) yFn_same (fun j x H1 H2 yes hj s1 s2 hy hyes => ?_) gName_mono fun p H' ys s1 hp pr => ?_
    · obtain ⟨rfl, rfl⟩ := hy
      exact ⟨rfl, _, rfl, _, rfl, _, _, rfl, k, n, j, rfl, rfl, hn, hyes⟩
    · exact q _ H' s1 ⟨p, ys, rfl, hp, rowsP_of pr⟩


def p_law_image (a b c : V) (H : Hp) (Q : VK) : Prop := ∃ (k : Kd) (n : Nat) (M : List (Vc (El k) n)) (x : Vc (El k) n), LF H a k ∧ Row H b x ∧ RowsT H c M ∧ M.length = n ∧ n ≤ 1000 ∧ ∀ r H', Same H H' → Row H' r (ap M x) → Q r H'
theorem c_law_image (T : Tx K mg) : Cal P w K mg base 3 "_law_image" ["_law_f", "_law_x", "_law_matrix"] (sp3 p_law_image) :=
  cal_of (d := d_law_image) (lv := 2) (i := 52) (j := 52) T rfl rfl rfl rfl rfl (keep_of (d := d_law_image) (i := 52) T rfl) (S := ⟨rfl, rfl, rfl, by decide +kernel, rfl, by decide +kernel, by decide +kernel⟩) (N := ["_law_f", "_law_x", "_law_matrix"]) (fun _ _ _ _ _ _ us hl => match us, hl with | [_, _, _], _ => rfl) len3 <| fun f cdv A outer s H vs Q E hr h => by
    obtain ⟨v0, v1, v2, rfl, h⟩ := h
    have nd : (["_law_f", "_law_x", "_law_matrix"] : List Str).Nodup := by decide +kernel
    refine ⟨_, (pss_one (ps_ret (pe_cal (c_law_combined T) (hr.mono (by decide)) (by rfl) (pa_cons (pv 0) (pa_cons (pv 2) (pa_cons (pv 1) (pa_cons (pe_callB (call_len_seqK K) (by rfl) T.len PySem.boot_len (pa_cons (pv 1) pa_nil)) pa_nil))))))), ?_⟩
    obtain ⟨k, n, M, x, hf, hx, hM, lM, hn, q⟩ := h
    obtain ⟨ax, rfl, ex⟩ := id hx
    refine ⟨_, rfl, _, rfl, _, rfl, _, rfl, _, _, rfl, .inr (tq ex), ?_⟩
    rw [vl_len]
    exact ⟨_, _, _, _, rfl, k, n, n, M, x, hf, hM, hx, rfl, lM, hn, hn, q⟩


def p_law_after (a b c : V) (H : Hp) (Q : VK) : Prop := ∃ (k : Kd) (n : Nat) (M N : List (Vc (El k) n)), LF H a k ∧ RowsT H b M ∧ RowsT H c N ∧ M.length = n ∧ N.length = n ∧ n ≤ 1000 ∧ ∀ r H', Same H H' → RowsT H' r (M.map (ap N)) → Q r H'
theorem c_law_after (T : Tx K mg) : Cal P w K mg base 4 "_law_after" ["_law_f", "_law_one", "_law_two"] (sp3 p_law_after) :=
  cal_of (d := d_law_after) (lv := 3) (i := 54) (j := 54) T rfl rfl rfl rfl rfl (keep_of (d := d_law_after) (i := 54) T rfl) (S := ⟨rfl, rfl, rfl, by decide +kernel, rfl, by decide +kernel, by decide +kernel⟩) (N := ["_law_f", "_law_one", "_law_two", "_law_row"]) (fun _ _ _ _ _ _ us hl => match us, hl with | [_, _, _], _ => rfl) len3 <| fun f cdv A outer s H vs Q E hr h => by
    obtain ⟨v0, v1, v2, rfl, h⟩ := h
    have nd : (["_law_f", "_law_one", "_law_two", "_law_row"] : List Str).Nodup := by decide +kernel
    refine ⟨_, (pss_one (ps_ret (pe_callTy (call_tuple_ofK K) (by rfl) T.tuple boot_tuple (pa_cons (pe_lc (own := [("_law_row", 3)]) (g := (gName 3)) (tt := tYes) rfl nd (pi_tupK K (pv 1)) (blkOk_by (by kernel_rfl)) (fun _ _ _ _ _ => (pg_name (i := 3) nd rfl (Or.inl rfl))) (fun _ _ _ _ _ => pts_nil) (fun _ _ _ _ _ => (pe_cal (c_law_image T) (hr.mono (by decide)) (by rfl) (pa_cons (pv 0) (pa_cons (pv 3) (pa_cons (pv 2) pa_nil)))))) pa_nil)))), ?_⟩
    obtain ⟨k, n, M, N, hf, ⟨am, ms, rfl, hm, hM⟩, hN, lM, lN, hn, q⟩ := h
    refine ⟨_, rfl, _, rfl, ⟨_, tq hm⟩, ?_⟩
    have lm : ms.length = n := by rw [Paired.len hM, lM]
    refine lc_tup (n := n) (lm ▸ walk_tup) (fun j z H => Row H z (ap N (M.getD j (Vc.nul (El k) n)))) (small_n hn) (fun H' s => tq (s _ _ hm)) (fun _ _ _ _ s z => z.kt s) yAt_same (fun j z H1 H2 yes hj s1 s2 hz hyes => ?_) gName_mono fun p H' ys s1 hp pr => ?_
    · obtain ⟨rfl, e1⟩ := hz
      refine ⟨rfl, _, rfl, _, rfl, _, rfl, ?_⟩
      exact ⟨_, _, _, rfl, k, n, N, _, hf.mono s2, (rowsP_get hM e1).mono s2, RowsT.mono hN s2, lN, hn, fun r H3 s3 h3 => hyes r H3 s3 h3⟩
    · refine q _ H' s1 ⟨p, ys, rfl, hp, ?_⟩
      rw [map_range (ap N) M (Vc.nul (El k) n), lM]
      exact rowsP_of pr


end
end Wit

namespace Wit
open PySem PySem.Spec PyProof.Rows L2
section
variable {P : Program} {w : World} {K : PySem.W.Frag} {mg : Str → Option Value} {base : Heap}

theorem sm_up {F : Type} [Lean.Grind.Field F] (f : Nat → F) (m : Nat) : sm f (m + 1) = sm f m + f m := rfl
theorem add_nil {k : Kd} (x : El k) : x + 0 = x := by grind
theorem nul_mul {k : Kd} (x : El k) : 0 * x = 0 := by grind
theorem Row.len {k : Kd} {n : Nat} {H : Hp} {v : V} {x : Vc (El k) n} (h : Row H v x) : ∃ a, v = .ref a ∧ SqT K H a (vl x) := let ⟨a, e, q⟩ := h; ⟨a, e, tq q⟩

def p_law_product (a b c : V) (H : Hp) (Q : VK) : Prop := ∃ (k : Kd) (n : Nat) (A : Nat → Nat → El k) (x y : Vc (El k) n), LS H a k n A ∧ Row H b x ∧ Row H c y ∧ n ≤ 1000 ∧ Q (iv (bA A x y)) H
theorem c_law_product (T : Tx K mg) : Cal P w K mg base 1 "_law_product" ["_law_s", "_law_x", "_law_y"] (sp3 p_law_product) :=
  cal_of (d := d_law_product) (lv := 0) (i := 47) (j := 47) T rfl rfl rfl rfl rfl (keep_of (d := d_law_product) (i := 47) T rfl) (S := ⟨rfl, rfl, rfl, by decide +kernel, rfl, by decide +kernel, by decide +kernel⟩) (N := ["_law_s", "_law_x", "_law_y", "_law_kind", "_law_f", "_law_matrix", "_law_total", "_law_i", "_law_j", "_law_c", "_law_one", "_law_two", "_law_last"]) (fun _ _ _ _ _ _ us hl => match us, hl with | [_, _, _], _ => rfl) len3 <| fun f cdv A outer s H vs Q E hr h => by
    obtain ⟨v0, v1, v2, rfl, h⟩ := h
    have nd : (["_law_s", "_law_x", "_law_y", "_law_kind", "_law_f", "_law_matrix", "_law_total", "_law_i", "_law_j", "_law_c", "_law_one", "_law_two", "_law_last"] : List Str).Nodup := by decide +kernel
    refine ⟨_, (pss_cons (ps_asg (pv 0) (pg_tupK K rfl (pgs_cons (pg_name (i := 3) nd rfl (Or.inl rfl)) (pgs_cons (pg_name (i := 4) nd rfl (Or.inl rfl)) (pgs_cons (pg_name (i := 5) nd rfl (Or.inl rfl)) pgs_nil))))) (pss_cons (ps_set (i := 6) nd rfl (Or.inl rfl) pe_int) (pss_cons (ps_for PassesOwn.never rfl (pi_range1 (by rfl) T.range (pa_cons (pe_callB (call_len_seqK K) (by rfl) T.len PySem.boot_len (pa_cons (pv 1) pa_nil)) pa_nil)) (pg_name (i := 7) nd rfl (Or.inl rfl)) (pss_one (ps_for PassesOwn.never rfl (pi_range1 (by rfl) T.range (pa_cons (pe_callB (call_len_seqK K) (by rfl) T.len PySem.boot_len (pa_cons (pv 1) pa_nil)) pa_nil)) (pg_name (i := 8) nd rfl (Or.inl rfl)) (pss_cons (ps_set (i := 9) nd rfl (Or.inl rfl) (pe_ix (ix_tupK K) (pe_ix (ix_tupK K) (pv 5) (pv 7) (fun _ _ => rfl)) (pv 8) (fun _ _ => rfl))) (pss_one (ps_if (PW.pt (pw_and (pt_cmpR op_ne (pv 9) pe_int (nomark _)) (pw_and1 (pt_cmpR op_eq (pv 3) pe_str (nomark _))))) (pss_cons (ps_set (i := 10) nd rfl (Or.inl rfl) (pe_ix (ix_listK K) (pe_ix (ix_listK K) (pe_ix (ix_tupK K) (pv 4) pe_int (fun _ _ => rfl)) (pe_ix (ix_tupK K) (pv 1) (pv 7) (fun _ _ => rfl)) (fun _ _ => rfl)) (pe_ix (ix_tupK K) (pv 2) (pv 8) (fun _ _ => rfl)) (fun _ _ => rfl))) (pss_cons (ps_set (i := 11) nd rfl (Or.inl rfl) (pe_ix (ix_listK K) (pe_ix (ix_listK K) (pe_ix (ix_tupK K) (pv 4) pe_int (fun _ _ => rfl)) (pe_ix (ix_tupK K) (pv 1) (pv 8) (fun _ _ => rfl)) (fun _ _ => rfl)) (pe_ix (ix_tupK K) (pv 2) (pv 7) (fun _ _ => rfl)) (fun _ _ => rfl))) (pss_one (ps_set (i := 6) nd rfl (Or.inl rfl) (pe_ix (ix_listK K) (pe_ix (ix_listK K) (pe_ix (ix_tupK K) (pv 4) pe_int (fun _ _ => rfl)) (pv 6) (fun _ _ => rfl)) (pe_ix (ix_listK K) (pe_ix (ix_listK K) (pe_ix (ix_tupK K) (pv 4) pe_int (fun _ _ => rfl)) (pv 9) (fun _ _ => rfl)) (pe_ix (ix_listK K) (pe_ix (ix_listK K) (pe_ix (ix_tupK K) (pv 4) pe_int (fun _ _ => rfl)) (pv 10) (fun _ _ => rfl)) (pv 11) (fun _ _ => rfl)) (fun _ _ => rfl)) (fun _ _ => rfl)))))) (pss_one (ps_if (pt_cmpR op_ne (pv 9) pe_int (nomark _)) (pss_cons (ps_set (i := 12) nd rfl (Or.inl rfl) (pe_ix (ix_tupK K) (pv 2) (pv 8) (fun _ _ => rfl))) (pss_cons (ps_if (pt_cmpR op_eq (pv 3) pe_str (nomark _)) (pss_one (ps_set (i := 12) nd rfl (Or.inl rfl) pe_dead)) pss_nil) (pss_one (ps_set (i := 6) nd rfl (Or.inl rfl) (pe_ix (ix_listK K) (pe_ix (ix_listK K) (pe_ix (ix_tupK K) (pv 4) pe_int (fun _ _ => rfl)) (pv 6) (fun _ _ => rfl)) (pe_ix (ix_listK K) (pe_ix (ix_listK K) (pe_ix (ix_tupK K) (pv 4) pe_int (fun _ _ => rfl)) (pv 9) (fun _ _ => rfl)) (pe_ix (ix_listK K) (pe_ix (ix_listK K) (pe_ix (ix_tupK K) (pv 4) pe_int (fun _ _ => rfl)) (pe_ix (ix_tupK K) (pv 1) (pv 7) (fun _ _ => rfl)) (fun _ _ => rfl)) (pv 12) (fun _ _ => rfl)) (fun _ _ => rfl)) (fun _ _ => rfl)))))) pss_nil)))))))) (pss_one (ps_ret (pv 6)))))), ?_⟩
    obtain ⟨k, n, A, x, y, ⟨as, f, m, rfl, es, hf, hm⟩, hx, hy, hn, q⟩ := h
    obtain ⟨ax, rfl, ex⟩ := id hx
    refine ⟨_, rfl, _, _, rfl, tq es, rfl, _, _, rfl, _, _, rfl, _, _, rfl, rfl, ?_⟩
    refine ⟨_, rfl, _, _, rfl, .inr (tq ex), _, rfl, by omega, by rw [vl_len]; omega, ?_⟩
    rw [vl_len, Int.toNat_natCast]
    refine for_it walk_rg (fun i σ H' => H' = H ∧ ∃ c7 c8 c9 c10 c11 c12, σ = [some (.ref as), some (.ref ax), some v2, some QK, some f, some m, some (iv (sm (fun i => sm (fun j => A i j * (x.f i * y.f j + x.f j * y.f i)) n) i)), c7, c8, c9, c10, c11, c12]) ⟨rfl, none, none, none, none, none, none, ?_⟩ (fun _ _ _ _ _ => trivial) (fun i z σ H1 H2 hi hp hz => ?_) fun σ H' hp => ?_
    · show [some (.ref as), some (.ref ax), some v2, some QK, some f, some m, some (V.int 0), none, none, none, none, none, none] = _
      rw [iv_zero k]
      rfl
    · obtain ⟨rfl, c7, c8, c9, c10, c11, c12, rfl⟩ := hp
      obtain ⟨rfl, rfl⟩ := hz
      refine ⟨_, rfl, _, _, rfl, .inr (tq ex), _, rfl, by omega, by rw [vl_len]; omega, ?_⟩
      rw [vl_len, Int.toNat_natCast]
      refine for_it walk_rg (fun j σ H' => H' = H2 ∧ ∃ c8 c9 c10 c11 c12, σ = [some (.ref as), some (.ref ax), some v2, some QK, some f, some m, some (iv (sm (fun i => sm (fun j => A i j * (x.f i * y.f j + x.f j * y.f i)) n) i + sm (fun j => A i j * (x.f i * y.f j + x.f j * y.f i)) j)), some (.int i), c8, c9, c10, c11, c12]) ⟨rfl, c8, c9, c10, c11, c12, ?_⟩ (fun _ _ _ _ _ => trivial) (fun j z σ H3 H4 hj hp hz => ?_) fun σ H' hp => ?_
      · rw [show sm (fun j => A i j * (x.f i * y.f j + x.f j * y.f i)) 0 = (0 : El k) from rfl, add_nil]
        rfl
      · obtain ⟨rfl, c8, c9, c10, c11, c12, rfl⟩ := hp
        obtain ⟨rfl, rfl⟩ := hz
        rw [sm_up, ← Lean.Grind.Semiring.add_assoc]
        refine t_cell hm hi hj (tv rfl) (tv rfl) (tv rfl) _ ?_
        refine ⟨_, rfl, rfl, _, rfl, ?_⟩
        by_cases c0 : A i j = 0
        · rw [eq_iv c0]
          refine iteF (iteF ⟨_, rfl, rfl, _, rfl, ?_⟩)
          rw [eq_iv c0, c0, nul_mul, add_nil]
          exact iteF ⟨rfl, _, _, _, _, _, rfl⟩
        · rw [ne_iv c0]
          refine iteT ⟨_, rfl, rfl, _, rfl, ?_⟩
          rw [qk_qua]
          refine iteT (rd_mul hf (tv rfl) (tx hx hi (tv rfl) (tv rfl)) (tx hy hj (tv rfl) (tv rfl)) ?_)
          refine rd_mul hf (tv rfl) (tx hx hj (tv rfl) (tv rfl)) (tx hy hi (tv rfl) (tv rfl)) ?_
          refine rd_add hf (tv rfl) (tv rfl) (fun R r => rd_mul hf (tv rfl) (tv rfl) (fun R r => rd_add hf (tv rfl) (tv rfl) (tv rfl) r) r) ?_
          exact ⟨rfl, _, _, _, _, _, rfl⟩
      · obtain ⟨rfl, c8, c9, c10, c11, c12, rfl⟩ := hp
        exact ⟨rfl, _, _, _, _, _, _, rfl⟩
    · obtain ⟨rfl, c7, c8, c9, c10, c11, c12, rfl⟩ := hp
      refine ⟨_, rfl, ?_⟩
      rw [bA_s2] at q
      exact q


def p_law_value (a b : V) (H : Hp) (Q : VK) : Prop := ∃ (k : Kd) (n : Nat) (A : Nat → Nat → El k) (x : Vc (El k) n), LS H a k n A ∧ Tri A n ∧ Row H b x ∧ n ≤ 1000 ∧ Q (iv (qA A x)) H
theorem c_law_value (T : Tx K mg) : Cal P w K mg base 2 "_law_value" ["_law_s", "_law_x"] (sp2 p_law_value) :=
  cal_of (d := d_law_value) (lv := 1) (i := 48) (j := 48) T rfl rfl rfl rfl rfl (keep_of (d := d_law_value) (i := 48) T rfl) (S := ⟨rfl, rfl, rfl, by decide +kernel, rfl, by decide +kernel, by decide +kernel⟩) (N := ["_law_s", "_law_x", "_law_kind", "_law_f", "_law_matrix", "_law_total", "_law_i", "_law_j"]) (fun _ _ _ _ _ _ us hl => match us, hl with | [_, _], _ => rfl) len2 <| fun f cdv A outer s H vs Q E hr h => by
    obtain ⟨v0, v1, rfl, h⟩ := h
    have nd : (["_law_s", "_law_x", "_law_kind", "_law_f", "_law_matrix", "_law_total", "_law_i", "_law_j"] : List Str).Nodup := by decide +kernel
    refine ⟨_, (pss_cons (ps_asg (pv 0) (pg_tupK K rfl (pgs_cons (pg_name (i := 2) nd rfl (Or.inl rfl)) (pgs_cons (pg_name (i := 3) nd rfl (Or.inl rfl)) (pgs_cons (pg_name (i := 4) nd rfl (Or.inl rfl)) pgs_nil))))) (pss_cons (ps_if (pt_cmpR op_eq (pv 2) pe_str (nomark _)) (pss_one (ps_ret pe_int)) pss_nil) (pss_cons (ps_if (pt_cmpR op_eq (pv 2) pe_str (nomark _)) (pss_one (ps_ret (pe_cal (c_law_product T) (hr.mono (by decide)) (by rfl) (pa_cons (pv 0) (pa_cons (pv 1) (pa_cons (pv 1) pa_nil)))))) pss_nil) (pss_cons (ps_set (i := 5) nd rfl (Or.inl rfl) pe_int) (pss_cons (ps_for PassesOwn.never rfl (pi_range1 (by rfl) T.range (pa_cons (pe_callB (call_len_seqK K) (by rfl) T.len PySem.boot_len (pa_cons (pv 1) pa_nil)) pa_nil)) (pg_name (i := 6) nd rfl (Or.inl rfl)) (pss_one (ps_for PassesOwn.never rfl (pi_range2 (by rfl) T.range (pa_cons (pv 6) (pa_cons (pe_callB (call_len_seqK K) (by rfl) T.len PySem.boot_len (pa_cons (pv 1) pa_nil)) pa_nil))) (pg_name (i := 7) nd rfl (Or.inl rfl)) (pss_one (ps_set (i := 5) nd rfl (Or.inl rfl) (pe_ix (ix_listK K) (pe_ix (ix_listK K) (pe_ix (ix_tupK K) (pv 3) pe_int (fun _ _ => rfl)) (pv 5) (fun _ _ => rfl)) (pe_ix (ix_listK K) (pe_ix (ix_listK K) (pe_ix (ix_tupK K) (pv 3) pe_int (fun _ _ => rfl)) (pe_ix (ix_tupK K) (pe_ix (ix_tupK K) (pv 4) (pv 6) (fun _ _ => rfl)) (pv 7) (fun _ _ => rfl)) (fun _ _ => rfl)) (pe_ix (ix_listK K) (pe_ix (ix_listK K) (pe_ix (ix_tupK K) (pv 3) pe_int (fun _ _ => rfl)) (pe_ix (ix_tupK K) (pv 1) (pv 6) (fun _ _ => rfl)) (fun _ _ => rfl)) (pe_ix (ix_tupK K) (pv 1) (pv 7) (fun _ _ => rfl)) (fun _ _ => rfl)) (fun _ _ => rfl)) (fun _ _ => rfl))))))) (pss_one (ps_ret (pv 5)))))))), ?_⟩
    obtain ⟨k, n, A, x, ⟨as, f, m, rfl, es, hf, hm⟩, htri, hx, hn, q⟩ := h
    obtain ⟨ax, rfl, ex⟩ := id hx
    refine ⟨_, rfl, _, _, rfl, tq es, rfl, _, _, rfl, _, _, rfl, _, _, rfl, rfl, ?_⟩
    refine ⟨_, rfl, rfl, _, rfl, ?_⟩
    rw [qk_alt]
    refine iteF ⟨_, rfl, rfl, _, rfl, ?_⟩
    rw [qk_her]
    refine iteF ⟨_, rfl, _, _, rfl, .inr (tq ex), _, rfl, by omega, by rw [vl_len]; omega, ?_⟩
    rw [vl_len, Int.toNat_natCast]
    refine for_it walk_rg (fun i σ H' => H' = H ∧ ∃ c6 c7, σ = [some (.ref as), some (.ref ax), some QK, some f, some m, some (iv (sm (fun i => sm (fun t => A i (i + t) * (x.f i * x.f (i + t))) (n - i)) i)), c6, c7]) ⟨rfl, none, none, ?_⟩ (fun _ _ _ _ _ => trivial) (fun i z σ H1 H2 hi hp hz => ?_) fun σ H' hp => ?_
    · show [some (.ref as), some (.ref ax), some QK, some f, some m, some (V.int 0), none, none] = _
      rw [iv_zero k]
      rfl
    · obtain ⟨rfl, c6, c7, rfl⟩ := hp
      obtain ⟨rfl, rfl⟩ := hz
      refine ⟨_, rfl, _, rfl, _, _, rfl, .inr (tq ex), _, _, rfl, ⟨by omega, by omega, by omega, by rw [vl_len]; omega⟩, ?_⟩
      rw [vl_len]
      have w2 : Walk (Itr (i : Int) ((n : Int) - (i : Int)).toNat) (n - i) (fun _ => True) (YFn fun j => .int ((i + j : Nat) : Int)) := by
        have e2 : ((n : Int) - (i : Int)).toNat = n - i := by omega
        rw [e2]
        exact walk_range.mono (fun _ h => h) fun j H x H' _ _ y => ⟨y.1, y.2.trans (congrArg V.int (by omega))⟩
      refine for_it w2 (fun j σ H' => H' = H2 ∧ ∃ c7, σ = [some (.ref as), some (.ref ax), some QK, some f, some m, some (iv (sm (fun i => sm (fun t => A i (i + t) * (x.f i * x.f (i + t))) (n - i)) i + sm (fun t => A i (i + t) * (x.f i * x.f (i + t))) j)), some (.int i), c7]) ⟨rfl, c7, ?_⟩ (fun _ _ _ _ _ => trivial) (fun j z σ H3 H4 hj hp hz => ?_) fun σ H' hp => ?_
      · rw [show sm (fun t => A i (i + t) * (x.f i * x.f (i + t))) 0 = (0 : El k) from rfl, add_nil]
        rfl
      · obtain ⟨rfl, c7, rfl⟩ := hp
        obtain ⟨rfl, rfl⟩ := hz
        have hij : i + j < n := by omega
        rw [sm_up, ← Lean.Grind.Semiring.add_assoc]
        refine rd_add hf (tv rfl) (tv rfl) (fun R r => rd_mul hf (tv rfl) (t_cell hm hi hij (tv rfl) (tv rfl) (tv rfl)) (fun R r => rd_mul hf (tv rfl) (tx hx hi (tv rfl) (tv rfl)) (tx hx hij (tv rfl) (tv rfl)) r) r) ?_
        exact ⟨rfl, _, rfl⟩
      · obtain ⟨rfl, c7, rfl⟩ := hp
        exact ⟨rfl, _, _, rfl⟩
    · obtain ⟨rfl, c6, c7, rfl⟩ := hp
      refine ⟨_, rfl, ?_⟩
      rw [← lq_eq htri] at q
      exact q


def p_law_along (a b c : V) (H : Hp) (Q : VK) : Prop := ∃ (k : Kd) (n : Nat) (A : Nat → Nat → El k) (u : Vc (El k) n), LS H a k n A ∧ Row H b u ∧ c = iv (-(qA A u)⁻¹) ∧ n ≤ 1000 ∧ ∀ r H', Same H H' → RowsT H' r (rfM (QF.of n A) u) → Q r H'
theorem c_law_along (T : Tx K mg) : Cal P w K mg base 2 "_law_along" ["_law_s", "_law_u", "_law_c"] (sp3 p_law_along) :=
  cal_of (d := d_law_along) (lv := 1) (i := 53) (j := 53) T rfl rfl rfl rfl rfl (keep_of (d := d_law_along) (i := 53) T rfl) (S := ⟨rfl, rfl, rfl, by decide +kernel, rfl, by decide +kernel, by decide +kernel⟩) (N := ["_law_s", "_law_u", "_law_c", "_law_f", "_law_n", "_law_rows", "_law_i", "_law_x"]) (fun _ _ _ _ _ _ us hl => match us, hl with | [_, _, _], _ => rfl) len3 <| fun f cdv A outer s H vs Q E hr h => by
    obtain ⟨v0, v1, v2, rfl, h⟩ := h
    have nd : (["_law_s", "_law_u", "_law_c", "_law_f", "_law_n", "_law_rows", "_law_i", "_law_x"] : List Str).Nodup := by decide +kernel
    refine ⟨_, (pss_cons (ps_set (i := 3) nd rfl (Or.inl rfl) (pe_ix (ix_tupK K) (pv 0) pe_int (fun _ _ => rfl))) (pss_cons (ps_set (i := 4) nd rfl (Or.inl rfl) (pe_callB (call_len_seqK K) (by rfl) T.len PySem.boot_len (pa_cons (pe_ix (ix_tupK K) (pv 0) pe_int (fun _ _ => rfl)) pa_nil))) (pss_cons (ps_set (i := 5) nd rfl (Or.inl rfl) (pe_lst pa_nil)) (pss_cons (ps_for PassesOwn.never rfl (pi_range1 (by rfl) T.range (pa_cons (pv 4) pa_nil)) (pg_name (i := 6) nd rfl (Or.inl rfl)) (pss_cons (ps_set (i := 7) nd rfl (Or.inl rfl) (pe_cal (c_law_unit T) (hr.mono (by decide)) (by rfl) (pa_cons (pv 4) (pa_cons (pv 6) pa_nil)))) (pss_one (ps_expr (pe_bm PySem.F.plainAttrs_list PySem.F.slot_list_append PySem.F.type_list_append mt_append (pv 5) (pa_cons (pe_cal (c_law_sum T) (hr.mono (by decide)) (by rfl) (pa_cons (pv 3) (pa_cons (pv 7) (pa_cons (pe_cal (c_law_times T) (hr.mono (by decide)) (by rfl) (pa_cons (pv 3) (pa_cons (pv 1) (pa_cons (pe_cal (c_law_mul T) (hr.mono (by decide)) (by rfl) (pa_cons (pv 3) (pa_cons (pv 2) (pa_cons (pe_cal (c_law_product T) (hr.mono (by decide)) (by rfl) (pa_cons (pv 0) (pa_cons (pv 7) (pa_cons (pv 1) pa_nil)))) pa_nil)))) pa_nil)))) pa_nil)))) pa_nil)))))) (pss_one (ps_ret (pe_callTy (call_tuple_ofK K) (by rfl) T.tuple boot_tuple (pa_cons (pv 5) pa_nil)))))))), ?_⟩
    obtain ⟨k, n, A, u, hS, hu, rfl, hn, q⟩ := h
    obtain ⟨as, f, m, rfl, es, hf, am, ms, rfl, em, pm⟩ := id hS
    have lm : ms.length = n := by rw [Paired.len pm, mR_len]
    refine ⟨_, rfl, _, _, _, _, rfl, rfl, tq es, rfl, ?_⟩
    refine ⟨_, rfl, _, _, _, _, rfl, rfl, tq es, rfl, _, _, rfl, .inr (tq em), ?_⟩
    rw [lm]
    refine ⟨by decide, fun aR nR => ?_⟩
    have sR := upd_none (o := .lst []) nR
    refine ⟨_, rfl, _, rfl, by omega, by omega, ?_⟩
    rw [Int.toNat_natCast]
    refine for_it walk_rg (fun i σ H' => Same H H' ∧ ∃ c d, σ = [some (.ref as), some v1, some (iv (-(qA A u)⁻¹)), some f, some (.int n), some (.ref aR), c, d] ∧ LL H' aR (((List.range i).map (Vc.un (El k) n)).map ((QF.of n A).rf u))) ⟨sR, none, none, rfl, [], upd_same, .nil⟩ (fun _ _ _ _ _ => trivial) (fun i z σ H1 H2 hi hp hz => ?_) fun σ H' hp => ?_
    · obtain ⟨s1, c, d, rfl, rs, eR, pR⟩ := hp
      obtain ⟨rfl, rfl⟩ := hz
      refine ⟨_, rfl, _, rfl, _, _, rfl, k, n, i, rfl, rfl, hn, fun x H3 s3 h3 => ?_⟩
      have s13 := s1.trans s3
      have eR3 := s3 _ _ eR
      refine ⟨_, rfl, .inl ⟨rfl, _, lq' eR3⟩, ?_⟩
      refine ⟨_, rfl, _, rfl, _, rfl, _, rfl, _, rfl, _, rfl, _, rfl, _, rfl, _, rfl, _, _, _, rfl, k, n, A, _, _, hS.mono s13, h3, hu.mono s13, hn, ?_⟩
      refine ⟨_, _, _, rfl, k, _, _, hf.mono s13, rfl, rfl, ?_⟩
      refine ⟨_, _, _, rfl, k, n, u, _, hf.mono s13, hu.mono s13, rfl, hn, fun r H5 s5 h5 => ?_⟩
      refine ⟨_, _, _, rfl, k, n, _, _, hf.mono (s13.trans s5), h3.mono s5, h5, hn, fun r2 H6 s6 h6 => ?_⟩
      have eR6 := s6 _ _ (s5 _ _ eR3)
      refine ⟨_, _, _, rfl, rfl, eR6, small_n (by rw [Paired.len pR, List.length_map, List.length_map, List.length_range]; omega), ?_⟩
      have kt : KT H6 (upd H6 aR (.lst (rs ++ [r2]))) := kt_lst eR6
      refine ⟨((s13.trans s5).trans s6).upd nR, _, _, rfl, _, upd_same, ?_⟩
      rw [List.range_succ, List.map_append, List.map_append]
      exact Paired.append' (RowsP.kt pR (KT.trans ((s3.trans s5).trans s6).kt kt)) (.cons (h6.kt kt) .nil)
    · obtain ⟨s1, c, d, rfl, rs, eR, pR⟩ := hp
      refine ⟨_, rfl, _, _, rfl, .inl ⟨lq' eR, fun p hp => ?_⟩⟩
      have sp := upd_none (o := .tup rs) hp
      exact q _ _ (s1.trans sp) ⟨p, rs, rfl, upd_same, pR.kt sp.kt⟩


end
end Wit

namespace Wit
open PySem PySem.Spec PyProof.Rows L2
section
variable {P : Program} {w : World} {K : PySem.W.Frag} {mg : Str → Option Value} {base : Heap}

theorem fld0 {σ : L2.St} {H : Hp} {k : Kd} {f : V} {tf : TE} (hf : LF H f k) (h : ∀ (R : VK), R f H → tf σ H R) (R : VK) (q : R (.int (k.q : Int)) H) : tOp (rIxT K) tf (tC (.int 0)) σ H R := by
  obtain ⟨a, s, p, rfl, e, _, _⟩ := hf
  exact h _ ⟨_, _, _, _, rfl, rfl, tq e, rfl, q⟩
theorem ls1 {σ : L2.St} {H : Hp} {k : Kd} {n : Nat} {A : Nat → Nat → El k} {v : V} {ts : TE} (hS : LS H v k n A) (h : ∀ (R : VK), R v H → ts σ H R) (R : VK) (q : ∀ f, LF H f k → R f H) : tOp (rIxT K) ts (tC (.int 1)) σ H R := by
  obtain ⟨a, f, m, rfl, e, hf, hm⟩ := hS
  exact h _ ⟨_, _, _, _, rfl, rfl, tq e, rfl, q f hf⟩
theorem ls2 {σ : L2.St} {H : Hp} {k : Kd} {n : Nat} {A : Nat → Nat → El k} {v : V} {ts : TE} (hS : LS H v k n A) (h : ∀ (R : VK), R v H → ts σ H R) (R : VK) (q : ∀ m, RowsT H m (mR A n) → R m H) : tOp (rIxT K) ts (tC (.int 2)) σ H R := by
  obtain ⟨a, f, m, rfl, e, hf, hm⟩ := hS
  exact h _ ⟨_, _, _, _, rfl, rfl, tq e, rfl, q m hm⟩
theorem rows_len {k : Kd} {n : Nat} {H : Hp} {v : V} {M : List (Vc (El k) n)} (h : RowsT H v M) : ∃ p ys, [v] = [.ref p] ∧ (SqL K H p ys ∨ SqT K H p ys) ∧ ys.length = M.length := by
  obtain ⟨a, rs, rfl, e, pr⟩ := h
  exact ⟨a, rs, rfl, .inr (tq e), Paired.len pr⟩
theorem sq_in {k : Kd} (x : El k) : inV (iv x) ((List.range k.q).map fun i => iv (El.of k i * El.of k i)) = x.sq := by
  unfold inV El.sq
  rw [List.any_map]
  congr 1
  funext i
  show decide ((((El.of k i * El.of k i).val : Nat) : Int) = ((x.val : Nat) : Int)) = decide _
  exact decide_eq_decide.mpr ⟨fun z => El.ext (by omega), fun z => by rw [z]⟩
theorem sq_flat {k : Kd} : ((List.range k.q).map fun i => iv (El.of k i * El.of k i)).all flatV = true := by
  rw [List.all_map]
  exact List.all_eq_true.mpr fun _ _ => rfl

def p_law_restricted (a b : V) (H : Hp) (Q : VK) : Prop := ∃ (k : Kd) (n : Nat) (A : Nat → Nat → El k) (P : List (Vc (El k) n)), LS H a k n A ∧ Tri A n ∧ RowsL H b P ∧ P.length = n ∧ n ≤ 1000 ∧ ∀ r H', Same H H' → LS H' r k n (rA (QF.of n A) P) → Q r H'
theorem c_law_restricted (T : Tx K mg) : Cal P w K mg base 3 "_law_restricted" ["_law_s", "_law_rows"] (sp2 p_law_restricted) :=
  cal_of (d := d_law_restricted) (lv := 2) (i := 49) (j := 49) T rfl rfl rfl rfl rfl (keep_of (d := d_law_restricted) (i := 49) T rfl) (S := ⟨rfl, rfl, rfl, by decide +kernel, rfl, by decide +kernel, by decide +kernel⟩) (N := ["_law_s", "_law_rows", "_law_kind", "_law_f", "_law_matrix", "_law_out", "_law_i", "_law_line", "_law_j", "_law_c"]) (fun _ _ _ _ _ _ us hl => match us, hl with | [_, _], _ => rfl) len2 <| fun f cdv A outer s H vs Q E hr h => by
    obtain ⟨v0, v1, rfl, h⟩ := h
    have nd : (["_law_s", "_law_rows", "_law_kind", "_law_f", "_law_matrix", "_law_out", "_law_i", "_law_line", "_law_j", "_law_c"] : List Str).Nodup := by decide +kernel
    refine ⟨_, (pss_cons (ps_asg (pv 0) (pg_tupK K rfl (pgs_cons (pg_name (i := 2) nd rfl (Or.inl rfl)) (pgs_cons (pg_name (i := 3) nd rfl (Or.inl rfl)) (pgs_cons (pg_name (i := 4) nd rfl (Or.inl rfl)) pgs_nil))))) (pss_cons (ps_set (i := 5) nd rfl (Or.inl rfl) (pe_lst pa_nil)) (pss_cons (ps_for PassesOwn.never rfl (pi_range1 (by rfl) T.range (pa_cons (pe_callB (call_len_seqK K) (by rfl) T.len PySem.boot_len (pa_cons (pv 1) pa_nil)) pa_nil)) (pg_name (i := 6) nd rfl (Or.inl rfl)) (pss_cons (ps_set (i := 7) nd rfl (Or.inl rfl) (pe_lst pa_nil)) (pss_cons (ps_for PassesOwn.never rfl (pi_range1 (by rfl) T.range (pa_cons (pe_callB (call_len_seqK K) (by rfl) T.len PySem.boot_len (pa_cons (pv 1) pa_nil)) pa_nil)) (pg_name (i := 8) nd rfl (Or.inl rfl)) (pss_cons (ps_set (i := 9) nd rfl (Or.inl rfl) pe_int) (pss_cons (ps_if (PW.pt (pw_or (pt_cmpR op_ne (pv 2) pe_str (nomark _)) (pw_or1 (pt_cmpR op_lt (pv 6) (pv 8) (nomark _))))) (pss_one (ps_set (i := 9) nd rfl (Or.inl rfl) (pe_cal (c_law_product T) (hr.mono (by decide)) (by rfl) (pa_cons (pv 0) (pa_cons (pe_ix (ix_listK K) (pv 1) (pv 6) (fun _ _ => rfl)) (pa_cons (pe_ix (ix_listK K) (pv 1) (pv 8) (fun _ _ => rfl)) pa_nil)))))) (pss_one (ps_if (pt_cmpR op_eq (pv 6) (pv 8) (nomark _)) (pss_one (ps_set (i := 9) nd rfl (Or.inl rfl) (pe_cal (c_law_value T) (hr.mono (by decide)) (by rfl) (pa_cons (pv 0) (pa_cons (pe_ix (ix_listK K) (pv 1) (pv 6) (fun _ _ => rfl)) pa_nil))))) pss_nil))) (pss_one (ps_expr (pe_bm PySem.F.plainAttrs_list PySem.F.slot_list_append PySem.F.type_list_append mt_append (pv 7) (pa_cons (pv 9) pa_nil))))))) (pss_one (ps_expr (pe_bm PySem.F.plainAttrs_list PySem.F.slot_list_append PySem.F.type_list_append mt_append (pv 5) (pa_cons (pe_callTy (call_tuple_ofK K) (by rfl) T.tuple boot_tuple (pa_cons (pv 7) pa_nil)) pa_nil))))))) (pss_one (ps_ret (pe_tup (pa_cons (pv 2) (pa_cons (pv 3) (pa_cons (pe_callTy (call_tuple_ofK K) (by rfl) T.tuple boot_tuple (pa_cons (pv 5) pa_nil)) pa_nil))))))))), ?_⟩
    obtain ⟨k, n, A, P, hS, htri, ⟨ar, rs, rfl, er, pr⟩, lP, hn, q⟩ := h
    obtain ⟨as, f, m, rfl, es, hf, hm⟩ := id hS
    have lr : rs.length = n := by rw [Paired.len pr, lP]
    refine ⟨_, rfl, _, _, rfl, tq es, rfl, _, _, rfl, _, _, rfl, _, _, rfl, rfl, ?_⟩
    refine ⟨by decide, fun aO nO => ?_⟩
    have sO := upd_none (o := .lst []) nO
    refine ⟨_, rfl, _, _, rfl, .inl (lq' (sO _ _ er)), _, rfl, by omega, by omega, ?_⟩
    rw [lr, Int.toNat_natCast]
    refine for_it walk_rg (fun i σ H' => Same H H' ∧ ∃ c6 c7 c8 c9, σ = [some (.ref as), some (.ref ar), some QK, some f, some m, some (.ref aO), c6, c7, c8, c9] ∧ LL H' aO ((List.range i).map fun i => Vc.of n (rA (QF.of n A) P i))) ⟨sO, none, none, none, none, rfl, [], upd_same, .nil⟩ (fun _ _ _ _ _ => trivial) (fun i z σ H1 H2 hi hp hz => ?_) fun σ H' hp => ?_
    · obtain ⟨s1, c6, c7, c8, c9, rfl, os, eO, pO⟩ := hp
      obtain ⟨rfl, rfl⟩ := hz
      refine ⟨by decide, fun aL nL => ?_⟩
      have sL := upd_none (o := .lst []) nL
      refine ⟨_, rfl, _, _, rfl, .inl (lq' (sL _ _ (s1 _ _ er))), _, rfl, by omega, by omega, ?_⟩
      rw [lr, Int.toNat_natCast]
      obtain ⟨y1, ey1, hy1⟩ := rowsP_at pr (i := i) (by omega)
      refine for_it walk_rg (fun j σ H' => Same H2 H' ∧ ∃ c8 c9, σ = [some (.ref as), some (.ref ar), some QK, some f, some m, some (.ref aO), some (.int i), some (.ref aL), c8, c9] ∧ H' aL = some (.lst ((List.range j).map fun l => iv (rA (QF.of n A) P i l)))) ⟨sL, _, _, rfl, upd_same⟩ (fun _ _ _ _ _ => trivial) (fun j z σ H3 H4 hj hp hz => ?_) fun σ H' hp => ?_
      · obtain ⟨s3, c8, c9, rfl, eL⟩ := hp
        obtain ⟨rfl, rfl⟩ := hz
        have s13 := s1.trans s3
        have S3 := hS.mono s13
        obtain ⟨y2, ey2, hy2⟩ := rowsP_at pr (i := j) (by omega)
        have fin : ∀ x : El k, x = rA (QF.of n A) P i j → (tDrop (tBM K "list" rAppend (tVar 7) (tCons (tVar 9) tNil))) { nx := fun σ H' => Same H2 H' ∧ ∃ c8 c9, σ = [some (.ref as), some (.ref ar), some QK, some f, some m, some (.ref aO), some (.int i), some (.ref aL), c8, c9] ∧ H' aL = some (.lst ((List.range (j + 1)).map fun l => iv (rA (QF.of n A) P i l))), rt := Q } [some (.ref as), some (.ref ar), some QK, some f, some m, some (.ref aO), some (.int i), some (.ref aL), some (.int j), some (iv x)] H4 := fun x hx => by
          refine ⟨_, rfl, .inl ⟨rfl, _, lq' eL⟩, _, rfl, _, _, _, rfl, rfl, eL, small_n (by rw [List.length_map, List.length_range]; omega), s3.upd nL, _, _, rfl, ?_⟩
          rw [upd_same, List.range_succ, List.map_append, hx]
          rfl
        refine ⟨_, rfl, rfl, _, rfl, ?_⟩
        rw [ne_same]
        refine iteF ⟨_, rfl, _, rfl, _, _, rfl, rfl, _, rfl, ?_⟩
        unfold rA at fin
        refine ite2 (fun c => ?_) fun c => ?_
        · have c : i < j := by
            have := of_decide_eq_true c
            omega
          rw [if_pos c] at fin
          refine ⟨_, rfl, _, rfl, _, rfl, _, _, _, _, rfl, rfl, lq' (s13 _ _ er), atI_nat ey1, _, rfl, _, rfl, _, _, _, _, rfl, rfl, lq' (s13 _ _ er), atI_nat ey2, ?_⟩
          exact ⟨_, _, _, rfl, k, n, A, _, _, S3, hy1.mono s13, hy2.mono s13, hn, fin _ rfl⟩
        · have c : ¬ i < j := fun z => c (decide_eq_true (by omega))
          rw [if_neg c] at fin
          refine ⟨_, rfl, _, rfl, rfl, _, rfl, ?_⟩
          refine ite2 (fun d => ?_) fun d => ?_
          · have d : i = j := by
              have := of_decide_eq_true d
              injection this with this
              omega
            rw [if_pos d] at fin
            refine ⟨_, rfl, _, rfl, _, rfl, _, _, _, _, rfl, rfl, lq' (s13 _ _ er), atI_nat ey1, ?_⟩
            exact ⟨_, _, rfl, k, n, A, _, S3, htri, hy1.mono s13, hn, fin _ rfl⟩
          · have d : ¬ i = j := fun z => d (decide_eq_true (by rw [z]))
            rw [if_neg d] at fin
            have := fin 0 rfl
            rw [← iv_zero k] at this
            exact this
      · obtain ⟨s3, c8, c9, rfl, eL⟩ := hp
        have eO3 := s3 _ _ eO
        refine ⟨_, rfl, .inl ⟨rfl, _, lq' eO3⟩, _, rfl, _, _, rfl, .inl ⟨lq' eL, fun aK nK => ?_⟩⟩
        have sK := upd_none (o := .tup ((List.range n).map fun l => iv (rA (QF.of n A) P i l))) nK
        refine ⟨_, _, _, rfl, rfl, sK _ _ eO3, small_n (by rw [Paired.len pO, List.length_map, List.length_range]; omega), ?_⟩
        have kt : KT (upd H' aK (.tup ((List.range n).map fun l => iv (rA (QF.of n A) P i l)))) (upd (upd H' aK (.tup ((List.range n).map fun l => iv (rA (QF.of n A) P i l)))) aO (.lst (os ++ [.ref aK]))) := kt_lst (sK _ _ eO3)
        refine ⟨((s1.trans s3).trans sK).upd nO, _, _, _, _, rfl, _, upd_same, ?_⟩
        rw [List.range_succ, List.map_append]
        refine Paired.append' (RowsP.kt pO (KT.trans (s3.trans sK).kt kt)) (.cons ⟨aK, rfl, kt _ _ ?_ rfl⟩ .nil)
        rw [upd_same]
        congr 2
        exact List.map_congr_left fun l hl => by rw [Vc.of_f (List.mem_range.mp hl)]
    · obtain ⟨s1, c6, c7, c8, c9, rfl, os, eO, pO⟩ := hp
      refine ⟨_, rfl, _, rfl, _, rfl, _, _, rfl, .inl ⟨lq' eO, fun aK nK => ?_⟩⟩
      have sK := upd_none (o := .tup os) nK
      refine ⟨(by decide : (3 : Nat) ≤ sizeLine), fun aZ nZ => ?_⟩
      have sZ := upd_none (o := .tup [QK, f, .ref aK]) nZ
      exact q _ _ ((s1.trans sK).trans sZ) ⟨aZ, f, .ref aK, rfl, upd_same, hf.mono ((s1.trans sK).trans sZ), aK, os, rfl, sZ _ _ upd_same, pO.kt (sK.trans sZ).kt⟩


def p_law_turns (a b : V) (H : Hp) (Q : VK) : Prop := ∃ (k : Kd) (n : Nat) (A : Nat → Nat → El k) (us : List (Vc (El k) n)), LS H a k n A ∧ Tri A n ∧ RowsT H b us ∧ (∀ u ∈ us, qA A u ≠ 0) ∧ n ≤ 1000 ∧ ∀ r H' M, Same H H' → RowsT H' r M → RP (QF.of n A) us M → Q r H'
theorem c_law_turns (T : Tx K mg) : Cal P w K mg base 5 "_law_turns" ["_law_s", "_law_rows"] (sp2 p_law_turns) :=
  cal_of (d := d_law_turns) (lv := 4) (i := 65) (j := 65) T rfl rfl rfl rfl rfl (keep_of (d := d_law_turns) (i := 65) T rfl) (S := ⟨rfl, rfl, rfl, by decide +kernel, rfl, by decide +kernel, by decide +kernel⟩) (N := ["_law_s", "_law_rows", "_law_f", "_law_found", "_law_u", "_law_c"]) (fun _ _ _ _ _ _ us hl => match us, hl with | [_, _], _ => rfl) len2 <| fun f cdv A outer s H vs Q E hr h => by
    obtain ⟨v0, v1, rfl, h⟩ := h
    have nd : (["_law_s", "_law_rows", "_law_f", "_law_found", "_law_u", "_law_c"] : List Str).Nodup := by decide +kernel
    refine ⟨_, (pss_cons (ps_set (i := 2) nd rfl (Or.inl rfl) (pe_ix (ix_tupK K) (pv 0) pe_int (fun _ _ => rfl))) (pss_cons (ps_set (i := 3) nd rfl (Or.inl rfl) (pe_cal (c_law_identity T) (hr.mono (by decide)) (by rfl) (pa_cons (pe_callB (call_len_seqK K) (by rfl) T.len PySem.boot_len (pa_cons (pe_ix (ix_tupK K) (pv 0) pe_int (fun _ _ => rfl)) pa_nil)) pa_nil))) (pss_cons (ps_for PassesOwn.never rfl (pi_tupK K (pv 1)) (pg_name (i := 4) nd rfl (Or.inl rfl)) (pss_cons (ps_set (i := 5) nd rfl (Or.inl rfl) (pe_cal (c_law_negative T) (hr.mono (by decide)) (by rfl) (pa_cons (pv 2) (pa_cons (pe_cal (c_law_inverse T) (hr.mono (by decide)) (by rfl) (pa_cons (pv 2) (pa_cons (pe_cal (c_law_value T) (hr.mono (by decide)) (by rfl) (pa_cons (pv 0) (pa_cons (pv 4) pa_nil))) pa_nil))) pa_nil)))) (pss_one (ps_set (i := 3) nd rfl (Or.inl rfl) (pe_cal (c_law_after T) (hr.mono (by decide)) (by rfl) (pa_cons (pv 2) (pa_cons (pv 3) (pa_cons (pe_cal (c_law_along T) (hr.mono (by decide)) (by rfl) (pa_cons (pv 0) (pa_cons (pv 4) (pa_cons (pv 5) pa_nil)))) pa_nil)))))))) (pss_one (ps_ret (pv 3)))))), ?_⟩
    obtain ⟨k, n, A, us, hS, htri, ⟨ar, rs, rfl, er, pr⟩, hne, hn, q⟩ := h
    have lr := Paired.len pr
    refine ls1 hS (tv rfl) _ fun f hf => ?_
    refine ls2 hS (tv rfl) _ fun m hm => ?_
    obtain ⟨p, ys, e, sq, ly⟩ := rows_len (K := K) hm
    rw [mR_len] at ly
    refine ⟨p, ys, e, sq, ?_⟩
    rw [ly]
    refine ⟨_, rfl, k, n, rfl, hn, fun r H1 s1 h1 => ?_⟩
    refine ⟨_, rfl, _, rfl, ⟨_, tq (s1 _ _ er)⟩, ?_⟩
    refine for_it walk_tup (fun i σ H' => Same H H' ∧ ∃ vf c4 c5 M, σ = [some v0, some (.ref ar), some f, some vf, c4, c5] ∧ RowsT H' vf M ∧ RP (QF.of n A) (us.take i) M) ⟨s1, r, none, none, _, rfl, h1, RP.ident _⟩ (fun i σ H' _ hp => tq (hp.1 _ _ er)) (fun i z σ H2 H3 hi hp hz => ?_) fun σ H' hp => ?_
    · obtain ⟨s2, vf, c4, c5, M, rfl, hM, hR⟩ := hp
      obtain ⟨rfl, e1⟩ := hz
      obtain ⟨u, eu, hu⟩ := Paired.at' pr e1
      have hu2 := hu.mono s2
      have S2 := hS.mono s2
      have f2 := hf.mono s2
      have u0 := hne u (List.mem_of_getElem? eu)
      refine ⟨_, rfl, _, rfl, _, rfl, _, rfl, _, _, rfl, k, n, A, u, S2, htri, hu2, hn, ?_⟩
      refine ⟨_, _, rfl, k, _, f2, rfl, u0, ?_⟩
      refine ⟨_, _, rfl, k, _, f2, rfl, ?_⟩
      refine ⟨_, rfl, _, rfl, _, rfl, _, rfl, _, rfl, _, _, _, rfl, k, n, A, u, S2, hu2, rfl, hn, fun r4 H4 s4 h4 => ?_⟩
      have hR2 := RP.rf (QF.of n A) u0
      refine ⟨_, _, _, rfl, k, n, M, _, f2.mono s4, hM.mono s4, h4, hR.len, hR2.len, hn, fun r5 H5 s5 h5 => ?_⟩
      refine ⟨(s2.trans s4).trans s5, _, _, _, _, rfl, h5, ?_⟩
      have tk : us.take (i + 1) = us.take i ++ [u] := by
        rw [List.take_add_one, eu]
        rfl
      rw [tk]
      exact hR.mul hR2
    · obtain ⟨s2, vf, c4, c5, M, rfl, hM, hR⟩ := hp
      rw [lr, List.take_length] at hR
      exact ⟨_, rfl, q vf H' M s2 hM hR⟩


def p_law_class (a b : V) (H : Hp) (Q : VK) : Prop := ∃ (k : Kd) (n : Nat) (A : Nat → Nat → El k) (us : List (Vc (El k) n)), LS H a k n A ∧ Tri A n ∧ RowsT H b us ∧ n ≤ 1000 ∧ ∀ H', Same H H' → Q (.int (chi ((QF.of n A).pq us))) H'
theorem c_law_class (T : Tx K mg) : Cal P w K mg base 3 "_law_class" ["_law_s", "_law_rows"] (sp2 p_law_class) :=
  cal_of (d := d_law_class) (lv := 2) (i := 66) (j := 66) T rfl rfl rfl rfl rfl (keep_of (d := d_law_class) (i := 66) T rfl) (S := ⟨rfl, rfl, rfl, by decide +kernel, rfl, by decide +kernel, by decide +kernel⟩) (N := ["_law_s", "_law_rows", "_law_f", "_law_total", "_law_u", "_law_c"]) (fun _ _ _ _ _ _ us hl => match us, hl with | [_, _], _ => rfl) len2 <| fun f cdv A outer s H vs Q E hr h => by
    obtain ⟨v0, v1, rfl, h⟩ := h
    have nd : (["_law_s", "_law_rows", "_law_f", "_law_total", "_law_u", "_law_c"] : List Str).Nodup := by decide +kernel
    refine ⟨_, (pss_cons (ps_set (i := 2) nd rfl (Or.inr rfl) (pe_ix (ix_tupK K) (pv 0) pe_int (fun _ _ => rfl))) (pss_cons (ps_set (i := 3) nd rfl (Or.inl rfl) pe_int) (pss_cons (ps_for PassesOwn.never rfl (pi_tupK K (pv 1)) (pg_name (i := 4) nd rfl (Or.inl rfl)) (pss_one (ps_set (i := 3) nd rfl (Or.inl rfl) (pe_cal (c_law_mul T) (hr.mono (by decide)) (by rfl) (pa_cons (pv 2) (pa_cons (pv 3) (pa_cons (pe_cal (c_law_value T) (hr.mono (by decide)) (by rfl) (pa_cons (pv 0) (pa_cons (pv 4) pa_nil))) pa_nil))))))) (pss_one (ps_ret (pe_ifExp (pt_cmpR (op_in_seqK K) (pv 3) (pe_lc (own := [("_law_c", 5)]) (g := (gName 5)) (tt := tYes) rfl nd (pi_range1 (by rfl) T.range (pa_cons (pe_ix (ix_tupK K) (pv 2) pe_int (fun _ _ => rfl)) pa_nil)) (blkOk_by (by kernel_rfl)) (fun _ _ _ _ _ => (pg_name (i := 5) nd rfl (Or.inl rfl))) (fun _ _ _ _ _ => pts_nil) (fun _ _ _ _ _ => (pe_ix (ix_listK K) (pe_ix (ix_listK K) (pe_ix (ix_tupK K) (pv 2) pe_int (fun _ _ => rfl)) (pv 5) (fun _ _ => rfl)) (pv 5) (fun _ _ => rfl)))) (by rfl)) pe_int (pe_un un_neg pe_int))))))), ?_⟩
    obtain ⟨k, n, A, us, hS, htri, ⟨ar, rs, rfl, er, pr⟩, hn, q⟩ := h
    have lr := Paired.len pr
    refine ls1 hS (tv rfl) _ fun f hf => ?_
    refine ⟨_, rfl, _, rfl, ⟨_, tq er⟩, ?_⟩
    refine for_it walk_tup (fun i σ H' => H' = H ∧ ∃ c, σ = [some v0, some (.ref ar), some f, some (iv ((us.take i).foldl (fun t u => t * qA A u) 1)), c, none]) ⟨rfl, none, ?_⟩ (fun i σ H' _ hp => by rw [hp.1]; exact tq er) (fun i z σ H2 H3 hi hp hz => ?_) fun σ H' hp => ?_
    · show [some v0, some (.ref ar), some f, some (V.int 1), none, none] = _
      rw [iv_one k]
      rfl
    · obtain ⟨rfl, c, rfl⟩ := hp
      obtain ⟨rfl, e1⟩ := hz
      obtain ⟨u, eu, hu⟩ := Paired.at' pr e1
      refine ⟨_, rfl, _, rfl, _, rfl, _, rfl, _, _, rfl, k, n, A, u, hS, htri, hu, hn, ?_⟩
      refine ⟨_, _, _, rfl, k, _, _, hf, rfl, rfl, rfl, some z, ?_⟩
      have tk : us.take (i + 1) = us.take i ++ [u] := by
        rw [List.take_add_one, eu]
        rfl
      rw [tk, List.foldl_append]
      rfl
    · obtain ⟨rfl, c, rfl⟩ := hp
      rw [lr, List.take_length]
      refine ⟨_, rfl, fld0 hf (tv rfl) _ ⟨_, rfl, (q_rg k).1, (q_rg k).2, ?_⟩⟩
      rw [q_nat]
      refine lc_lst (Q := fun y H2 => rIn K false (iv (us.foldl (fun t u => t * qA A u) 1)) y H2 _) walk_rg (fun i y _ => y = iv (El.of k i * El.of k i)) (q_small k) (fun _ _ => trivial) (fun _ _ _ _ _ z => z) yFn_same (fun c x H3 H4 yes hc s3 s4 hy hyes => ?_) gName_mono fun p H' ys s1 hp pr => ?_
      · obtain ⟨rfl, hy⟩ := hy
        have hy := Eq.trans (b := V.int (c : Int)) hy (iv_of hc)
        subst hy
        exact ⟨rfl, rd_mul (hf.mono s4) (tv rfl) (tv rfl) (tv rfl) (hyes _ _ (Same.refl _) rfl)⟩
      · have ey := Paired.eq_map pr
        subst ey
        refine ⟨p, _, rfl, .inl (lq' hp), rfl, sq_flat, _, rfl, ?_⟩
        show if inV (iv _) _ = true then _ else _
        rw [sq_in]
        have q := q H' s1
        unfold chi at q
        refine ite2 (fun c => ?_) fun c => ⟨_, rfl, ?_⟩
        · rw [if_pos (show ((QF.of n A).pq us).sq = true from c)] at q
          exact q
        · rw [if_neg (show ¬ ((QF.of n A).pq us).sq = true from c)] at q
          exact q


def nsq (k : Kd) : List Nat := (List.range k.q).filter fun c => !(El.of k c).sq
def nsB (k : Kd) : List Nat → Bool
  | [] => false
  | j :: _ => decide (El.of k j ≠ 0)
theorem nsq_ok : ∀ k : Kd, nsB k (nsq k) = true := by
  intro k; cases k <;> decide +kernel

def p_law_nonsquare (a : V) (H : Hp) (Q : VK) : Prop := ∃ k : Kd, LF H a k ∧ ∀ (x : El k) H', Same H H' → x ≠ 0 → Q (iv x) H'
theorem c_law_nonsquare (T : Tx K mg) : Cal P w K mg base 1 "_law_nonsquare" ["_law_f"] (sp1 p_law_nonsquare) :=
  cal_of (d := d_law_nonsquare) (lv := 0) (i := 57) (j := 57) T rfl rfl rfl rfl rfl (keep_of (d := d_law_nonsquare) (i := 57) T rfl) (S := ⟨rfl, rfl, rfl, by decide +kernel, rfl, by decide +kernel, by decide +kernel⟩) (N := ["_law_f", "_law_squares", "_law_c"]) (fun _ _ _ _ _ _ us hl => match us, hl with | [_], _ => rfl) len1 <| fun f cdv A outer s H vs Q E hr h => by
    obtain ⟨v0, rfl, h⟩ := h
    have nd : (["_law_f", "_law_squares", "_law_c"] : List Str).Nodup := by decide +kernel
    refine ⟨_, (pss_cons (ps_set (i := 1) nd rfl (Or.inr rfl) (pe_lc (own := [("_law_c", 2)]) (g := (gName 2)) (tt := tYes) rfl nd (pi_range1 (by rfl) T.range (pa_cons (pe_ix (ix_tupK K) (pv 0) pe_int (fun _ _ => rfl)) pa_nil)) (blkOk_by (by kernel_rfl)) (fun _ _ _ _ _ => (pg_name (i := 2) nd rfl (Or.inl rfl))) (fun _ _ _ _ _ => pts_nil) (fun _ _ _ _ _ => (pe_ix (ix_listK K) (pe_ix (ix_listK K) (pe_ix (ix_tupK K) (pv 0) pe_int (fun _ _ => rfl)) (pv 2) (fun _ _ => rfl)) (pv 2) (fun _ _ => rfl))))) (pss_one (ps_ret (pe_ix (ix_listK K) (pe_lc (own := [("_law_c", 2)]) (g := (gName 2)) rfl nd (pi_range1 (by rfl) T.range (pa_cons (pe_ix (ix_tupK K) (pv 0) pe_int (fun _ _ => rfl)) pa_nil)) (blkOk_by (by kernel_rfl)) (fun _ _ _ _ _ => (pg_name (i := 2) nd rfl (Or.inl rfl))) (fun _ _ _ _ _ => (pts_one (pt_cmpR (op_notIn_seqK K) (pv 2) (pv 1) (by rfl)))) (fun _ _ _ _ _ => (pv 2))) pe_int (fun _ _ => rfl))))), ?_⟩
    obtain ⟨k, hf, q⟩ := h
    refine fld0 hf (tv rfl) _ ⟨_, rfl, (q_rg k).1, (q_rg k).2, ?_⟩
    rw [q_nat]
    refine lc_set walk_rg (fun i y _ => y = iv (El.of k i * El.of k i)) (q_small k) (fun _ _ => trivial) (fun _ _ _ _ _ z => z) yFn_same (fun c x H3 H4 yes hc s3 s4 hy hyes => ?_) gName_mono fun p H1 ys s1 np hp pr => ?_
    · obtain ⟨rfl, hy⟩ := hy
      have hy := Eq.trans (b := V.int (c : Int)) hy (iv_of hc)
      subst hy
      exact ⟨rfl, rd_mul (hf.mono s4) (tv rfl) (tv rfl) (tv rfl) (hyes _ _ (Same.refl _) rfl)⟩
    · have ey := Paired.eq_map pr
      subst ey
      refine fld0 (hf.mono s1) (tv rfl) _ ⟨_, rfl, (q_rg k).1, (q_rg k).2, ?_⟩
      rw [q_nat]
      refine lc_fil (Q := fun x H1 => tC (.int 0) _ H1 fun y H2 => rIxL K x y H2 _) walk_rg (fun i y _ => y = iv (El.of k i)) (fun c => !(El.of k c).sq) (q_small k) (fun _ _ => trivial) (fun _ _ _ _ _ z => z) yFn_same (fun c x H3 H4 yes no hc s3 s4 hy hyes hno => ?_) fun aH H2 hs s2 nH eH pH => ?_
      · obtain ⟨rfl, hy⟩ := hy
        have hy := Eq.trans (b := V.int (c : Int)) hy (iv_of hc)
        subst hy
        refine ⟨rfl, _, rfl, _, rfl, _, _, rfl, .inl (lq' (s4 _ _ hp)), rfl, sq_flat, _, rfl, ?_⟩
        show if (!inV (iv _) _) = true then _ else _
        rw [sq_in]
        cases e : (El.of k c).sq with
        | true => exact iteF (hno _ (by show (!(El.of k c).sq) = false; rw [e]; rfl) (Same.refl _))
        | false => exact iteT ⟨_, rfl, hyes _ _ (by show (!(El.of k c).sq) = true; rw [e]; rfl) (Same.refl _) rfl⟩
      · have ey := Paired.eq_map pH
        have hk := nsq_ok k
        have en : (List.range k.q).filter (fun c => !(El.of k c).sq) = nsq k := rfl
        rw [en] at ey
        cases e : nsq k with
        | nil => rw [e] at hk; cases hk
        | cons j t =>
          rw [e] at hk ey
          subst ey
          exact ⟨_, _, _, _, rfl, rfl, lq' eH, atI_nat (j := 0) rfl, q _ _ (s1.trans s2) (of_decide_eq_true hk)⟩


end
end Wit

namespace Wit
open PySem PySem.Spec PyProof.Rows L2
section
variable {P : Program} {w : World} {K : PySem.W.Frag} {mg : Str → Option Value} {base : Heap}

theorem Stt.up {H : Hp} {p d : Addr} {o : HO} (st : Stt H p) (ne : d ≠ p) : Stt (upd H d o) p := by
  obtain ⟨s, t, e, z⟩ := st
  exact ⟨s, t, by rw [upd_ne (Ne.symm ne)]; exact e, z⟩
theorem Stt.mono {H H' : Hp} {p : Addr} (st : Stt H p) (s : Same H H') : Stt H' p := let ⟨a, b, e, z⟩ := st; ⟨a, b, s _ _ e, z⟩
theorem But.up {H H' : Hp} {p d : Addr} {o : HO} (b : But p H H') (n : H d = none) : But p H (L2.upd H' d o) := fun c u ne e => by
  rw [upd_ne (ne_of_none e n)]
  exact b c u ne e
theorem But.same' {H H1 H' : Hp} {p : Addr} (b : But p H H1) (s : Same H1 H') : But p H H' := b.trans (But.of_same s)
theorem Stt.ne {H : Hp} {p d : Addr} (st : Stt H p) (n : H d = none) : d ≠ p := fun e => by
  obtain ⟨s, t, z, _⟩ := st
  rw [e, z] at n
  cases n
theorem LF.st {H H' : Hp} {v : V} {k : Kd} {p : Addr} (h : LF H v k) (st : Stt H p) (b : But p H H') : LF H' v k := let ⟨_, _, e, _⟩ := st; h.but e b
theorem LS.st {H H' : Hp} {v : V} {k : Kd} {n : Nat} {A : Nat → Nat → El k} {p : Addr} (h : LS H v k n A) (st : Stt H p) (b : But p H H') : LS H' v k n A := let ⟨_, _, e, _⟩ := st; h.but e b
theorem Row.st {k : Kd} {n : Nat} {H H' : Hp} {p : Addr} {v : V} {x : Vc (El k) n} (h : Row H v x) (st : Stt H p) (b : But p H H') : Row H' v x := by
  obtain ⟨s, t, e, _⟩ := st
  obtain ⟨a, rfl, z⟩ := h
  exact ⟨a, rfl, tup_but z e b⟩
theorem RowsP.st {k : Kd} {n : Nat} {H H' : Hp} {p : Addr} {rs : List V} {M : List (Vc (El k) n)} (h : RowsP H M rs) (st : Stt H p) (b : But p H H') : RowsP H' M rs := Paired.imp' (fun _ _ q => q.st st b) h
theorem RowsT.st {k : Kd} {n : Nat} {H H' : Hp} {p : Addr} {v : V} {M : List (Vc (El k) n)} (h : RowsT H v M) (st : Stt H p) (b : But p H H') : RowsT H' v M := let ⟨_, _, e, _⟩ := st; h.butl e b
theorem LL.st {k : Kd} {n : Nat} {H H' : Hp} {p a : Addr} {M : List (Vc (El k) n)} (h : LL H a M) (st : Stt H p) (b : But p H H') (ne : a ≠ p) : LL H' a M := let ⟨rs, e, q⟩ := h; ⟨rs, b _ _ ne e, q.st st b⟩

def p_law_any_row (a b c : V) (H : Hp) (Q : VK) : Prop := ∃ (p : Addr) (k : Kd) (n : Nat), a = .ref p ∧ Stt H p ∧ LF H b k ∧ c = .int n ∧ n ≤ 1000 ∧ ∀ r H' (x : Vc (El k) n), But p H H' → Stt H' p → Row H' r x → Q r H'
theorem c_law_any_row (T : Tx K mg) : Cal P w K mg base 2 "_law_any_row" ["_law_state_here", "_law_f", "_law_n"] (sp3 p_law_any_row) :=
  cal_of (d := d_law_any_row) (lv := 1) (i := 51) (j := 51) T rfl rfl rfl rfl rfl (keep_of (d := d_law_any_row) (i := 51) T rfl) (S := ⟨rfl, rfl, rfl, by decide +kernel, rfl, by decide +kernel, by decide +kernel⟩) (N := ["_law_state_here", "_law_f", "_law_n", "_law_k"]) (fun _ _ _ _ _ _ us hl => match us, hl with | [_, _, _], _ => rfl) len3 <| fun f cdv A outer s H vs Q E hr h => by
    obtain ⟨v0, v1, v2, rfl, h⟩ := h
    have nd : (["_law_state_here", "_law_f", "_law_n", "_law_k"] : List Str).Nodup := by decide +kernel
    refine ⟨_, (pss_one (ps_ret (pe_callTy (call_tuple_ofK K) (by rfl) T.tuple boot_tuple (pa_cons (pe_lc (own := [("_law_k", 3)]) (g := (gName 3)) (tt := tYes) rfl nd (pi_range1 (by rfl) T.range (pa_cons (pv 2) pa_nil)) (blkOk_by (by kernel_rfl)) (fun _ _ _ _ _ => (pg_name (i := 3) nd rfl (Or.inl rfl))) (fun _ _ _ _ _ => pts_nil) (fun _ _ _ _ _ => (pe_cal (c_law_take T) (hr.mono (by decide)) (by rfl) (pa_cons (pv 0) (pa_cons (pe_ix (ix_tupK K) (pv 1) pe_int (fun _ _ => rfl)) pa_nil))))) pa_nil)))), ?_⟩
    obtain ⟨p, k, n, rfl, st, hf, rfl, hn, q⟩ := h
    refine ⟨_, rfl, _, rfl, by omega, by omega, ?_⟩
    rw [Int.toNat_natCast]
    refine fun D hD => lc_it walk_rg (fun i H' => But p H H' ∧ Stt H' p ∧ ∃ g : Nat → El k, H' D = some (.lst ((List.range i).map fun j => iv (g j)))) ⟨But.up (But.of_same (Same.refl _)) hD, st.up (st.ne hD), fun _ => 0, upd_same⟩ (fun _ _ _ _ => trivial) (fun i x H1 H2 hi hp hy => ?_) fun H' hp => ?_
    · obtain ⟨b1, st1, g, e1⟩ := hp
      obtain ⟨rfl, rfl⟩ := hy
      have f1 := hf.st st b1
      refine ⟨rfl, ?_⟩
      unfold tYes
      dsimp only
      rw [if_pos rfl]
      refine ⟨_, rfl, fld0 f1 (tv rfl) _ ⟨_, _, rfl, p, k.q, rfl, rfl, st1, k.q_pos, by have := k.q_le; omega, fun r H3 b3 st3 hr => ?_⟩⟩
      refine ⟨_, b3 _ _ (st.ne hD) e1, small_n (by rw [List.length_map, List.length_range]; omega), (b1.trans b3).up hD, st3.up (st.ne hD), fun j => if j = i then El.of k r else g j, ?_⟩
      rw [upd_same, List.range_succ, List.map_append]
      congr 2
      congr 1
      · exact List.map_congr_left fun j hj => by
          have := List.mem_range.mp hj
          exact congrArg iv (if_neg (show ¬ j = i by omega)).symm
      · show [V.int (r : Nat)] = [iv (if i = i then El.of k r else g i)]
        rw [if_pos rfl, iv_of hr]
    · obtain ⟨b1, st1, g, e1⟩ := hp
      refine ⟨D, _, rfl, .inl ⟨lq' e1, fun l hl => ?_⟩⟩
      refine q _ _ (Vc.of n g) (b1.same' (upd_none hl)) (st1.mono (upd_none hl)) ⟨l, rfl, ?_⟩
      rw [upd_same]
      congr 2
      exact List.map_congr_left fun j hj => by rw [Vc.of_f (List.mem_range.mp hj)]


def p_law_good_rows (a b c : V) (H : Hp) (Q : VK) : Prop := ∃ (p : Addr) (k : Kd) (n : Nat) (A : Nat → Nat → El k) (m : Nat), a = .ref p ∧ Stt H p ∧ LS H b k n A ∧ Tri A n ∧ c = .int m ∧ m < 900 ∧ n ≤ 1000 ∧ ∀ r H' (us : List (Vc (El k) n)), But p H H' → Stt H' p → RowsT H' r us → (∀ u ∈ us, qA A u ≠ 0) → us.length ≤ 1000 → Q r H'
theorem c_law_good_rows (T : Tx K mg) : Cal P w K mg base 3 "_law_good_rows" ["_law_state_here", "_law_s", "_law_most"] (sp3 p_law_good_rows) :=
  cal_of (d := d_law_good_rows) (lv := 2) (i := 64) (j := 64) T rfl rfl rfl rfl rfl (keep_of (d := d_law_good_rows) (i := 64) T rfl) (S := ⟨rfl, rfl, rfl, by decide +kernel, rfl, by decide +kernel, by decide +kernel⟩) (N := ["_law_state_here", "_law_s", "_law_most", "_law_found", "_law_turn", "_law_u"]) (fun _ _ _ _ _ _ us hl => match us, hl with | [_, _, _], _ => rfl) len3 <| fun f cdv A outer s H vs Q E hr h => by
    obtain ⟨v0, v1, v2, rfl, h⟩ := h
    have nd : (["_law_state_here", "_law_s", "_law_most", "_law_found", "_law_turn", "_law_u"] : List Str).Nodup := by decide +kernel
    refine ⟨_, (pss_cons (ps_set (i := 3) nd rfl (Or.inl rfl) (pe_lst pa_nil)) (pss_cons (ps_for PassesOwn.never rfl (pi_range1 (by rfl) T.range (pa_cons (pe_cal (c_law_take T) (hr.mono (by decide)) (by rfl) (pa_cons (pv 0) (pa_cons (pe_op op_add (pv 2) pe_int) pa_nil))) pa_nil)) (pg_name (i := 4) nd rfl (Or.inl rfl)) (pss_cons (ps_set (i := 5) nd rfl (Or.inl rfl) (pe_cal (c_law_any_row T) (hr.mono (by decide)) (by rfl) (pa_cons (pv 0) (pa_cons (pe_ix (ix_tupK K) (pv 1) pe_int (fun _ _ => rfl)) (pa_cons (pe_callB (call_len_seqK K) (by rfl) T.len PySem.boot_len (pa_cons (pe_ix (ix_tupK K) (pv 1) pe_int (fun _ _ => rfl)) pa_nil)) pa_nil))))) (pss_one (ps_if (pt_cmpR op_ne (pe_cal (c_law_value T) (hr.mono (by decide)) (by rfl) (pa_cons (pv 1) (pa_cons (pv 5) pa_nil))) pe_int (nomark _)) (pss_one (ps_expr (pe_bm PySem.F.plainAttrs_list PySem.F.slot_list_append PySem.F.type_list_append mt_append (pv 3) (pa_cons (pv 5) pa_nil)))) pss_nil)))) (pss_one (ps_ret (pe_callTy (call_tuple_ofK K) (by rfl) T.tuple boot_tuple (pa_cons (pv 3) pa_nil)))))), ?_⟩
    obtain ⟨p, k, n, A, m, rfl, st, hS, htri, rfl, hm, hn, q⟩ := h
    refine ⟨by decide, fun aF nF => ?_⟩
    have sF := upd_none (o := .lst []) nF
    refine ⟨_, rfl, _, rfl, _, _, rfl, rfl, _, _, rfl, p, m + 1, rfl, rfl, st.mono sF, by omega, by omega, fun r H1 b1 st1 hr => ?_⟩
    refine ⟨_, rfl, by omega, by omega, ?_⟩
    rw [Int.toNat_natCast]
    have ne := st.ne nF
    refine for_it walk_rg (fun i σ H' => But p H H' ∧ Stt H' p ∧ ∃ (c4 c5 : Option V) (us : List (Vc (El k) n)), σ = [some (.ref p), some v1, some (.int m), some (.ref aF), c4, c5] ∧ LL H' aF us ∧ (∀ u ∈ us, qA A u ≠ 0) ∧ us.length ≤ i) ⟨(But.of_same sF).trans b1, st1, none, none, [], rfl, ⟨[], b1 _ _ ne upd_same, .nil⟩, (fun _ h => nomatch h), Nat.le_refl _⟩ (fun _ _ _ _ _ => trivial) (fun i z σ H2 H3 hi hp hz => ?_) fun σ H' hp => ?_
    · obtain ⟨b2, st2, c4, c5, us, rfl, hL, hne, hl⟩ := hp
      obtain ⟨rfl, rfl⟩ := hz
      have S2 := hS.st st b2
      refine ⟨_, rfl, ls1 S2 (tv rfl) _ fun f hf => ls2 S2 (tv rfl) _ fun mm hmm => ?_⟩
      obtain ⟨pp, ys, e, sq, ly⟩ := rows_len (K := K) hmm
      rw [mR_len] at ly
      refine ⟨pp, ys, e, sq, ?_⟩
      rw [ly]
      refine ⟨_, _, _, rfl, p, k, n, rfl, st2, hf, rfl, hn, fun r4 H4 x b4 st4 h4 => ?_⟩
      have b14 := b2.trans b4
      refine ⟨_, rfl, _, rfl, _, _, rfl, k, n, A, x, hS.st st b14, htri, h4, hn, rfl, _, rfl, ?_⟩
      have hL4 := hL.st st2 b4 ne
      by_cases c0 : qA A x = 0
      · rw [eq_iv c0]
        exact iteF ⟨b14, st4, _, _, us, rfl, hL4, hne, by omega⟩
      · rw [ne_iv c0]
        obtain ⟨fs, eF, pF⟩ := hL4
        refine iteT ⟨_, rfl, .inl ⟨rfl, _, lq' eF⟩, _, rfl, _, _, _, rfl, rfl, eF, small_n (by rw [Paired.len pF]; omega), ?_⟩
        refine ⟨b14.up nF, st4.up ne, _, _, us ++ [x], rfl, ⟨_, upd_same, Paired.append' (pF.kt (kt_lst eF)) (.cons (h4.kt (kt_lst eF)) .nil)⟩, fun u hu => ?_, by rw [List.length_append]; exact Nat.succ_le_succ hl⟩
        rcases List.mem_append.mp hu with z | z
        · exact hne u z
        · rw [List.mem_singleton.mp z]
          exact c0
    · obtain ⟨b2, st2, c4, c5, us, rfl, ⟨fs, eF, pF⟩, hne, hl⟩ := hp
      refine ⟨_, rfl, _, _, rfl, .inl ⟨lq' eF, fun d hd => ?_⟩⟩
      have sd := upd_none (o := .tup fs) hd
      exact q _ _ us (b2.same' sd) (st2.mono sd) ⟨d, fs, rfl, upd_same, pF.kt sd.kt⟩ hne (by omega)


theorem turn_ne {r t n : Nat} (h1 : r < n) (h2 : t < n - 1) : (r + 1 + t) % n ≠ r ∧ (r + 1 + t) % n < n := by
  refine ⟨?_, Nat.mod_lt _ (by omega)⟩
  by_cases c : r + 1 + t < n
  · rw [Nat.mod_eq_of_lt c]
    omega
  · rw [Nat.mod_eq_sub_mod (by omega), Nat.mod_eq_of_lt (by omega)]
    omega
theorem rowsP_set {k : Kd} {n : Nat} {H : Hp} {y : V} {x : Vc (El k) n} (hy : Row H y x) : ∀ {M : List (Vc (El k) n)} {rs : List V} {j : Nat}, RowsP H M rs → RowsP H (M.set j x) (rs.set j y)
  | _, _, _, .nil => .nil
  | _, _, 0, .cons _ t => .cons hy t
  | _, _, _ + 1, .cons a t => .cons a (rowsP_set hy t)

def p_law_basis (a b c : V) (H : Hp) (Q : VK) : Prop := ∃ (p : Addr) (k : Kd) (n : Nat), a = .ref p ∧ Stt H p ∧ LF H b k ∧ c = .int n ∧ n < 900 ∧ ∀ r H' (P : List (Vc (El k) n)), But p H H' → Stt H' p → RowsL H' r P → Bas P → Q r H'
theorem c_law_basis (T : Tx K mg) : Cal P w K mg base 2 "_law_basis" ["_law_state_here", "_law_f", "_law_n"] (sp3 p_law_basis) :=
  cal_of (d := d_law_basis) (lv := 1) (i := 50) (j := 50) T rfl rfl rfl rfl rfl (keep_of (d := d_law_basis) (i := 50) T rfl) (S := ⟨rfl, rfl, rfl, by decide +kernel, rfl, by decide +kernel, by decide +kernel⟩) (N := ["_law_state_here", "_law_f", "_law_n", "_law_rows", "_law_turn", "_law_i", "_law_j"]) (fun _ _ _ _ _ _ us hl => match us, hl with | [_, _, _], _ => rfl) len3 <| fun f cdv A outer s H vs Q E hr h => by
    obtain ⟨v0, v1, v2, rfl, h⟩ := h
    have nd : (["_law_state_here", "_law_f", "_law_n", "_law_rows", "_law_turn", "_law_i", "_law_j"] : List Str).Nodup := by decide +kernel
    refine ⟨_, (pss_cons (ps_setLc (i := 3) (own := [("_law_i", 5)]) (g := (gName 5)) (tt := tYes) rfl nd rfl rfl (sw_true rfl rfl rfl (by decide +kernel)) (pi_range1 (by rfl) T.range (pa_cons (pv 2) pa_nil)) (blkOk_by (by kernel_rfl)) (fun _ _ _ _ _ => (pg_name (i := 5) nd rfl (Or.inl rfl))) (fun _ _ _ _ _ => pts_nil) (fun _ _ _ _ _ => (pe_cal (c_law_unit T) (hr.mono (by decide)) (by rfl) (pa_cons (pv 2) (pa_cons (pv 5) pa_nil))))) (pss_cons (ps_if (pt_cmpR op_lt (pv 2) pe_int (nomark _)) (pss_one (ps_ret (pv 3))) pss_nil) (pss_cons (ps_for PassesOwn.never rfl (pi_range1 (by rfl) T.range (pa_cons (pe_cal (c_law_take T) (hr.mono (by decide)) (by rfl) (pa_cons (pv 0) (pa_cons pe_int pa_nil))) pa_nil)) (pg_name (i := 4) nd rfl (Or.inl rfl)) (pss_cons (ps_set (i := 5) nd rfl (Or.inl rfl) (pe_cal (c_law_take T) (hr.mono (by decide)) (by rfl) (pa_cons (pv 0) (pa_cons (pv 2) pa_nil)))) (pss_cons (ps_set (i := 6) nd rfl (Or.inl rfl) (pe_op op_mod (pe_callTy call_int1 (by rfl) T.int boot_int (pa_cons (pe_op op_add (pe_op op_add (pv 5) pe_int) (pe_cal (c_law_take T) (hr.mono (by decide)) (by rfl) (pa_cons (pv 0) (pa_cons (pe_op op_sub (pv 2) pe_int) pa_nil)))) pa_nil)) (pv 2))) (pss_one (ps_asg (pe_cal (c_law_sum T) (hr.mono (by decide)) (by rfl) (pa_cons (pv 1) (pa_cons (pe_ix (ix_listK K) (pv 3) (pv 5) (fun _ _ => rfl)) (pa_cons (pe_cal (c_law_times T) (hr.mono (by decide)) (by rfl) (pa_cons (pv 1) (pa_cons (pe_ix (ix_listK K) (pv 3) (pv 6) (fun _ _ => rfl)) (pa_cons (pe_cal (c_law_take T) (hr.mono (by decide)) (by rfl) (pa_cons (pv 0) (pa_cons (pe_ix (ix_tupK K) (pv 1) pe_int (fun _ _ => rfl)) pa_nil))) pa_nil)))) pa_nil)))) (pg_sub (pv 3) (pv 5) set_list)))))) (pss_one (ps_ret (pv 3)))))), ?_⟩
    obtain ⟨p, k, n, rfl, st, hf, rfl, hn, q⟩ := h
    refine ⟨_, rfl, _, rfl, by omega, by omega, ?_⟩
    rw [Int.toNat_natCast]
    refine lc_set walk_rg (fun j y H => Row H y (Vc.un (El k) n j)) (small_n (by omega)) (fun _ _ => trivial) (fun _ _ _ _ s z => z.kt s) yFn_same (fun j x H1 H2 yes hj s1 s2 hy hyes => ?_) gName_mono fun aR H1 ys s1 nR eR pr => ?_
    · obtain ⟨rfl, rfl⟩ := hy
      exact ⟨rfl, _, rfl, _, rfl, _, _, rfl, k, n, j, rfl, rfl, by omega, hyes⟩
    · have hR : RowsP H1 (ident (El k) n) ys := rowsP_of pr
      have st1 := st.mono s1
      have ne := st.ne nR
      refine ⟨_, rfl, _, _, rfl, rfl, _, rfl, ?_⟩
      refine ite2 (fun c => ?_) fun c => ?_
      · exact ⟨_, rfl, q _ H1 _ (But.of_same s1) st1 ⟨aR, ys, rfl, eR, hR⟩ Bas.ident⟩
      · have c : 2 ≤ n := by
          have : ¬ (n : Int) < 2 := fun z => c (decide_eq_true z)
          omega
        refine ⟨_, rfl, _, _, rfl, p, 5, rfl, rfl, st1, by decide, by decide, fun r H2 b2 st2 hr => ?_⟩
        refine ⟨_, rfl, by omega, by omega, ?_⟩
        rw [Int.toNat_natCast]
        refine for_it walk_rg (fun i σ H' => But p H H' ∧ Stt H' p ∧ ∃ c4 c5 c6 P, σ = [some (.ref p), some v1, some (.int n), some (.ref aR), c4, c5, c6] ∧ LL H' aR P ∧ Bas P) ⟨(But.of_same s1).trans b2, st2, none, none, none, _, rfl, LL.st ⟨ys, eR, hR⟩ st1 b2 ne, Bas.ident⟩ (fun _ _ _ _ _ => trivial) (fun i z σ H3 H4 hi hp hz => ?_) fun σ H' hp => ?_
        · obtain ⟨b3, st3, c4, c5, c6, P, rfl, hL, hB⟩ := hp
          obtain ⟨rfl, rfl⟩ := hz
          refine ⟨_, rfl, _, rfl, _, _, rfl, p, n, rfl, rfl, st3, by omega, by omega, fun r5 H5 b5 st5 h5 => ?_⟩
          refine ⟨_, rfl, _, _, rfl, rfl, _, rfl, _, rfl, _, _, rfl, rfl, _, _, rfl, p, n - 1, rfl, ?_, st5, by omega, by omega, fun r6 H6 b6 st6 h6 => ?_⟩
          · show V.int ((n : Int) - 1) = V.int ((n - 1 : Nat) : Int)
            congr 1
            omega
          refine ⟨_, _, rfl, rfl, .inl ⟨_, rfl, _, rfl, _, _, rfl, rfl, (show (0 : Int) < (n : Int) by omega), ?_⟩⟩
          have ej : ((r5 : Int) + 1 + (r6 : Int)) % (n : Int) = (((r5 + 1 + r6) % n : Nat) : Int) := by
            first | exact (Int.natCast_emod _ _).symm | exact (Int.natCast_mod _ _).symm | simp
          obtain ⟨j1, j2⟩ := turn_ne h5 h6
          have hL6 := (hL.st st3 b5 ne).st st5 b6 ne
          obtain ⟨fs, eF, pF⟩ := hL6
          have lP : P.length = n := hB.1
          obtain ⟨y1, ey1, hy1⟩ := rowsP_at pF (i := r5) (by omega)
          obtain ⟨y2, ey2, hy2⟩ := rowsP_at pF (i := (r5 + 1 + r6) % n) (by omega)
          have b36 := (b3.trans b5).trans b6
          have f6 := hf.st st b36
          have ey2' : atI fs (((r5 : Int) + 1 + (r6 : Int)) % (n : Int)) = some y2 := by
            rw [ej]
            exact atI_nat ey2
          refine ⟨_, rfl, _, rfl, _, rfl, _, _, _, _, rfl, rfl, lq' eF, atI_nat ey1, ?_⟩
          refine ⟨_, rfl, _, rfl, _, rfl, _, _, _, _, rfl, rfl, lq' eF, ey2', ?_⟩
          refine ⟨_, rfl, fld0 f6 (tv rfl) _ ⟨_, _, rfl, p, k.q, rfl, rfl, st6, k.q_pos, by have := k.q_le; omega, fun r7 H7 b7 st7 h7 => ?_⟩⟩
          have f7 := f6.st st6 b7
          refine ⟨_, _, _, rfl, k, n, _, El.of k r7, f7, hy2.st st6 b7, iv_of h7, by omega, fun r8 H8 s8 h8 => ?_⟩
          refine ⟨_, _, _, rfl, k, n, _, _, f7.mono s8, (hy1.st st6 b7).mono s8, h8, by omega, fun r9 H9 s9 h9 => ?_⟩
          have eF9 := s9 _ _ (s8 _ _ (b7 _ _ ne eF))
          have lf : fs.length = n := by rw [Paired.len pF, lP]
          refine ⟨_, rfl, _, rfl, _, _, _, _, rfl, rfl, eF9, ixN_n (j := r5) (by omega), ?_⟩
          refine ⟨((b36.trans b7).same' (s8.trans s9)).up nR, (st7.mono (s8.trans s9)).up ne, _, _, _, _, rfl, ⟨_, upd_same, rowsP_set (h9.kt (kt_lst eF9)) (RowsP.kt (pF.st st6 b7) (KT.trans (s8.trans s9).kt (kt_lst eF9)))⟩, hB.op h5 j2 j1 _⟩
        · obtain ⟨b3, st3, c4, c5, c6, P, rfl, ⟨fs, eF, pF⟩, hB⟩ := hp
          exact ⟨_, rfl, q _ H' P b3 st3 ⟨aR, fs, rfl, eF, pF⟩ hB⟩


end
end Wit

namespace Wit
open PySem PySem.Spec PyProof.Rows L2
section
variable {P : Program} {w : World} {K : PySem.W.Frag} {mg : Str → Option Value} {base : Heap}

theorem int_eq (a b : Int) : decide (V.int a = V.int b) = decide (a = b) := decide_eq_decide.mpr ⟨fun z => by injection z, fun z => by rw [z]⟩
def told (n r s m : Int) : Bool := !decide (s = r - 1) && (decide (s = r) && (decide (m = 1) || (decide (m = -1) && decide (0 < n - r))))
theorem odd_in (k : Kd) : inV (.int (k.q : Int)) [V.int 3, .int 5, .int 7, .int 9] = true := by cases k <;> rfl

def p_law_is_odd (a : V) (H : Hp) (Q : VK) : Prop := ∃ k : Kd, LF H a k ∧ ∀ H', Same H H' → Q (.bl true) H'
theorem c_law_is_odd (T : Tx K mg) : Cal P w K mg base 1 "_law_is_odd" ["_law_f"] (sp1 p_law_is_odd) :=
  cal_of (d := d_law_is_odd) (lv := 0) (i := 56) (j := 56) T rfl rfl rfl rfl rfl (keep_of (d := d_law_is_odd) (i := 56) T rfl) (S := ⟨rfl, rfl, rfl, by decide +kernel, rfl, by decide +kernel, by decide +kernel⟩) (N := ["_law_f"]) (fun _ _ _ _ _ _ us hl => match us, hl with | [_], _ => rfl) len1 <| fun f cdv A outer s H vs Q E hr h => by
    obtain ⟨v0, rfl, h⟩ := h
    have nd : (["_law_f"] : List Str).Nodup := by decide +kernel
    refine ⟨_, (pss_one (ps_ret (pe_cmpR (op_in_seqK K) (pe_ix (ix_tupK K) (pv 0) pe_int (fun _ _ => rfl)) (pe_tup (pa_cons pe_int (pa_cons pe_int (pa_cons pe_int (pa_cons pe_int pa_nil))))) (by rfl)))), ?_⟩
    obtain ⟨k, hf, q⟩ := h
    refine fld0 hf (tv rfl) _ ⟨(by decide : (4 : Nat) ≤ sizeLine), fun p np => ⟨p, [V.int 3, .int 5, .int 7, .int 9], rfl, .inr (tq upd_same), rfl, rfl, ?_⟩⟩
    show Q (.bl (inV _ _)) _
    rw [odd_in]
    exact q _ (upd_none np)


def p_law_is_told (a b c d e g : V) (H : Hp) (Q : VK) : Prop := ∃ (k : Kd) (n r s m : Int), a = QK ∧ LF H b k ∧ c = .int n ∧ d = .int r ∧ e = .int s ∧ g = .int m ∧ ∀ H', Same H H' → Q (.bl (told n r s m)) H'
theorem c_law_is_told (T : Tx K mg) : Cal P w K mg base 2 "_law_is_told" ["_law_kind", "_law_f", "_law_n", "_law_r", "_law_s", "_law_mark"] (sp6 p_law_is_told) :=
  cal_of (d := d_law_is_told) (lv := 1) (i := 58) (j := 58) T rfl rfl rfl rfl rfl (keep_of (d := d_law_is_told) (i := 58) T rfl) (S := ⟨rfl, rfl, rfl, by decide +kernel, rfl, by decide +kernel, by decide +kernel⟩) (N := ["_law_kind", "_law_f", "_law_n", "_law_r", "_law_s", "_law_mark", "_law_rank", "_law_odd"]) (fun _ _ _ _ _ _ us hl => match us, hl with | [_, _, _, _, _, _], _ => rfl) len6 <| fun f cdv A outer s H vs Q E hr h => by
    obtain ⟨v0, v1, v2, v3, v4, v5, rfl, h⟩ := h
    have nd : (["_law_kind", "_law_f", "_law_n", "_law_r", "_law_s", "_law_mark", "_law_rank", "_law_odd"] : List Str).Nodup := by decide +kernel
    refine ⟨_, (pss_cons (ps_set (i := 6) nd rfl (Or.inl rfl) (pe_op op_sub (pv 2) (pv 3))) (pss_cons (ps_set (i := 7) nd rfl (Or.inl rfl) (pe_cal (c_law_is_odd T) (hr.mono (by decide)) (by rfl) (pa_cons (pv 1) pa_nil))) (pss_cons (ps_if (PW.pt (pw_and (PW.pt (pw_or (pt_cmpR op_eq (pv 0) pe_str (nomark _)) (pw_or1 (PW.pt (pw_and (pt_cmpR op_eq (pv 0) pe_str (nomark _)) (pw_and1 (pt_not (pt_val (pv 7))))))))) (pw_and1 (pt_cmpR op_eq (pe_op op_mod (pv 6) pe_int) pe_int (nomark _))))) (pss_one (ps_ret pe_bl)) pss_nil) (pss_cons (ps_if (pt_cmpR op_ne (pv 0) pe_str (nomark _)) (pss_one (ps_ret (pe_and (pe_cmpR op_eq (pv 4) (pv 3) (nomark _)) (pe_one (pe_cmpR op_eq (pv 5) pe_int (nomark _)))))) pss_nil) (pss_cons (ps_if (pt_cmpR op_eq (pv 4) (pe_op op_sub (pv 3) pe_int) (nomark _)) (pss_one (ps_ret (pe_and (pe_not (pv 7)) (pe_one (pe_cmpR op_eq (pv 5) pe_int (nomark _)))))) pss_nil) (pss_one (ps_ret (pe_and (pe_cmpR op_eq (pv 4) (pv 3) (nomark _)) (pe_one (pe_or (pe_cmpR op_eq (pv 5) pe_int (nomark _)) (pe_one (pe_and (pe_cmpR op_eq (pv 5) (pe_un un_neg pe_int) (nomark _)) (pe_one (pe_cmpR op_gt (pv 6) pe_int (nomark _))))))))))))))), ?_⟩
    obtain ⟨k, n, r, sv, m, rfl, hf, rfl, rfl, rfl, rfl, q⟩ := h
    refine ⟨_, rfl, _, rfl, _, _, rfl, rfl, ?_⟩
    refine ⟨_, rfl, _, rfl, k, hf, fun H1 s1 => ?_⟩
    have q := q H1 s1
    unfold told at q
    refine ⟨_, rfl, rfl, _, rfl, ?_⟩
    rw [qk_alt]
    refine iteF ⟨_, rfl, rfl, _, rfl, ?_⟩
    rw [qk_qua]
    refine iteT ⟨_, rfl, true, rfl, iteF (iteF ?_)⟩
    refine ⟨_, rfl, rfl, _, rfl, ?_⟩
    rw [ne_same]
    refine iteF ⟨_, rfl, _, rfl, _, _, rfl, rfl, rfl, _, rfl, ?_⟩
    rw [int_eq]
    by_cases c1 : sv = r - 1
    · rw [decide_eq_true c1] at q ⊢
      exact iteT ⟨_, rfl, true, rfl, false, rfl, iteF q⟩
    rw [decide_eq_false c1] at q ⊢
    refine iteF ⟨_, rfl, _, rfl, rfl, _, rfl, ?_⟩
    rw [int_eq]
    by_cases c2 : sv = r
    · rw [decide_eq_true c2] at q ⊢
      refine iteT ⟨_, rfl, rfl, _, rfl, ?_⟩
      rw [int_eq]
      by_cases c3 : m = 1
      · rw [decide_eq_true c3] at q ⊢
        exact iteT q
      rw [decide_eq_false c3] at q ⊢
      refine iteF ⟨_, rfl, _, rfl, rfl, _, rfl, ?_⟩
      rw [int_eq]
      by_cases c4 : m = -1
      · rw [decide_eq_true c4] at q ⊢
        exact iteT ⟨_, rfl, _, _, rfl, rfl, q⟩
      · rw [decide_eq_false c4] at q ⊢
        exact iteF q
    · rw [decide_eq_false c2] at q ⊢
      exact iteF q


def mk (l : Nat) : Int := if l = 0 then 0 else if l = 1 then 1 else -1
theorem marks_at {l : Nat} {z : V} (h : ([V.int 0, .int 1, .int (-1)] : List V)[l]? = some z) : l < 3 ∧ z = .int (mk l) := by
  match l, h with
  | 0, h => cases h; exact ⟨by decide, rfl⟩
  | 1, h => cases h; exact ⟨by decide, rfl⟩
  | 2, h => cases h; exact ⟨by decide, rfl⟩
def NumsP (H : Hp) (n : Int) (L : List (Int × Int × Int)) (ys : List V) : Prop := Paired (fun t v => ∃ a, v = .ref a ∧ H a = some (.tup [.int n, .int t.1, .int t.2.1, .int t.2.2])) L ys
theorem NumsP.kt {H H' : Hp} {n : Int} {L : List (Int × Int × Int)} {ys : List V} (h : NumsP H n L ys) (s : KT H H') : NumsP H' n L ys := Paired.imp' (fun _ _ ⟨a, e, z⟩ => ⟨a, e, s _ _ z rfl⟩) h
def Fit (n : Nat) (t : Int × Int × Int) : Prop := t.1 = 0 → t.2.1 = 0 ∧ (t.2.2 = 1 ∨ (t.2.2 = -1 ∧ 0 < n))
theorem told_fit {n : Nat} {r s m : Int} (h : told n r s m = true) : Fit n (r, s, m) := fun e => by
  have e : r = 0 := e
  subst e
  unfold told at h
  simp at h
  obtain ⟨_, h1, h2⟩ := h
  refine ⟨h1, h2.imp id fun z => ⟨z.1, by omega⟩⟩

def p_law_all_numbers (a b c : V) (H : Hp) (Q : VK) : Prop := ∃ (k : Kd) (n : Nat), a = QK ∧ LF H b k ∧ c = .int n ∧ n ≤ 100 ∧
  ∀ p H' (L : List (Int × Int × Int)) ys, Same H H' → H' p = some (.lst ys) → NumsP H' n L ys → (∀ t ∈ L, Fit n t) → (∃ t ∈ L, t.1 = 0) → L.length ≤ 700 → Q (.ref p) H'
theorem c_law_all_numbers (T : Tx K mg) : Cal P w K mg base 3 "_law_all_numbers" ["_law_kind", "_law_f", "_law_n"] (sp3 p_law_all_numbers) :=
  cal_of (d := d_law_all_numbers) (lv := 2) (i := 59) (j := 59) T rfl rfl rfl rfl rfl (keep_of (d := d_law_all_numbers) (i := 59) T rfl) (S := ⟨rfl, rfl, rfl, by decide +kernel, rfl, by decide +kernel, by decide +kernel⟩) (N := ["_law_kind", "_law_f", "_law_n", "_law_found", "_law_r", "_law_s", "_law_mark"]) (fun _ _ _ _ _ _ us hl => match us, hl with | [_, _, _], _ => rfl) len3 <| fun f cdv A outer s H vs Q E hr h => by
    obtain ⟨v0, v1, v2, rfl, h⟩ := h
    have nd : (["_law_kind", "_law_f", "_law_n", "_law_found", "_law_r", "_law_s", "_law_mark"] : List Str).Nodup := by decide +kernel
    refine ⟨_, (pss_cons (ps_set (i := 3) nd rfl (Or.inl rfl) (pe_lst pa_nil)) (pss_cons (ps_for PassesOwn.never rfl (pi_range1 (by rfl) T.range (pa_cons (pe_op op_add (pv 2) pe_int) pa_nil)) (pg_name (i := 4) nd rfl (Or.inr rfl)) (pss_one (ps_for PassesOwn.never rfl (pi_listK K (pe_lst (pa_cons (pv 4) (pa_cons (pe_op op_sub (pv 4) pe_int) pa_nil)))) (pg_name (i := 5) nd rfl (Or.inr rfl)) (pss_one (ps_set (i := 3) nd rfl (Or.inl rfl) (pe_op op_cat (pv 3) (pe_lc (own := [("_law_mark", 6)]) (g := (gName 6)) rfl nd (pi_listK K (pe_lst (pa_cons pe_int (pa_cons pe_int (pa_cons (pe_un un_neg pe_int) pa_nil))))) (blkOk_by (by kernel_rfl)) (fun _ _ _ _ _ => (pg_name (i := 6) nd rfl (Or.inl rfl))) (fun _ _ _ _ _ => (pts_one (PW.pt (pw_and (pt_val (pe_cal (c_law_is_told T) (hr.mono (by decide)) (by rfl) (pa_cons (pv 0) (pa_cons (pv 1) (pa_cons (pv 2) (pa_cons (pv 4) (pa_cons (pv 5) (pa_cons (pv 6) pa_nil)))))))) (pw_and1 (pt_cmpR op_ge (pv 5) pe_int (nomark _))))))) (fun _ _ _ _ _ => (pe_tup (pa_cons (pv 2) (pa_cons (pv 4) (pa_cons (pv 5) (pa_cons (pv 6) pa_nil))))))))))))) (pss_one (ps_ret (pv 3))))), ?_⟩
    obtain ⟨k, n, rfl, hf, rfl, hn, q⟩ := h
    refine ⟨by decide, fun aF nF => ?_⟩
    have sF := upd_none (o := .lst []) nF
    refine ⟨_, rfl, _, _, rfl, rfl, _, rfl, by omega, by omega, ?_⟩
    rw [show ((n : Int) + 1).toNat = n + 1 by omega]
    refine for_it walk_rg (fun i σ H' => Same H H' ∧ ∃ (aF : Addr) (c4 c5 : Option V) (L : List (Int × Int × Int)) (ys : List V), σ = [some QK, some v1, some (.int n), some (.ref aF), c4, c5, none] ∧ H' aF = some (.lst ys) ∧ NumsP H' n L ys ∧ (∀ t ∈ L, Fit n t) ∧ (0 < i → ∃ t ∈ L, t.1 = 0) ∧ L.length ≤ 6 * i) ⟨sF, aF, none, none, [], [], rfl, upd_same, .nil, (fun _ h => nomatch h), (fun h => absurd h (Nat.lt_irrefl 0)), Nat.le_refl _⟩ (fun _ _ _ _ _ => trivial) (fun i z σ H1 H2 hi hp hz => ?_) fun σ H' hp => ?_
    · obtain ⟨s1, aF, c4, c5, L, ys, rfl, eF, pF, hfit, hex, hl⟩ := hp
      obtain ⟨rfl, rfl⟩ := hz
      refine ⟨_, rfl, _, rfl, _, _, rfl, rfl, (by decide : (2 : Nat) ≤ sizeLine), fun p2 n2 => ⟨_, rfl, ⟨_, lq' upd_same⟩, ?_⟩⟩
      have s2 := upd_none (o := .lst [.int (i : Nat), .int ((i : Nat) - 1)]) n2
      refine for_it (walk_list (xs := [V.int (i : Nat), .int ((i : Nat) - 1)])) (fun j σ H' => (Same H H' ∧ Same (upd H2 p2 (.lst [.int (i : Nat), .int ((i : Nat) - 1)])) H') ∧ ∃ (aF : Addr) (c5 : Option V) (L : List (Int × Int × Int)) (ys : List V), σ = [some QK, some v1, some (.int n), some (.ref aF), some (.int (i : Nat)), c5, none] ∧ H' aF = some (.lst ys) ∧ NumsP H' n L ys ∧ (∀ t ∈ L, Fit n t) ∧ (0 < i ∨ 0 < j → ∃ t ∈ L, t.1 = 0) ∧ L.length ≤ 6 * i + 3 * j) ⟨⟨s1.trans s2, Same.refl _⟩, aF, c5, L, ys, rfl, s2 _ _ eF, pF.kt s2.kt, hfit, (fun h => hex (by omega)), by omega⟩ (fun j σ H' _ hp => lq' (hp.1.2 _ _ upd_same)) (fun j z σ H3 H4 hj hp hz => ?_) fun σ H' hp => ?_
      · obtain ⟨⟨s3, t3⟩, aF, c5, L, ys, rfl, eF, pF, hfit, hex, hl⟩ := hp
        obtain ⟨rfl, ez⟩ := hz
        obtain ⟨sv, rfl, hsv⟩ : ∃ sv : Int, z = .int sv ∧ (j = 0 → sv = (i : Int)) := by
          match j, ez with
          | 0, ez => cases ez; exact ⟨_, rfl, fun _ => rfl⟩
          | 1, ez => cases ez; exact ⟨_, rfl, fun h => by omega⟩
        have hj : j < 2 := hj
        refine ⟨_, rfl, _, rfl, (by decide : (3 : Nat) ≤ sizeLine), fun pm nm => ⟨_, rfl, ⟨_, lq' upd_same⟩, ?_⟩⟩
        have sm' := upd_none (o := .lst [.int 0, .int 1, .int (-1)]) nm
        refine lc_fil (Q := fun y H2 => rCat (.ref aF) y H2 _) (walk_list (xs := [V.int 0, .int 1, .int (-1)])) (fun l y H => ∃ a, y = .ref a ∧ H a = some (.tup [.int n, .int (i : Nat), .int sv, .int (mk l)])) (fun l => told n i sv (mk l) && decide (0 ≤ sv)) (by decide : (3 : Nat) < sizeLine) (fun H' s => lq' (s _ _ upd_same)) (fun _ _ _ _ s ⟨a, e, z⟩ => ⟨a, e, s _ _ z rfl⟩) yAt_same (fun l z H5 H6 yes no hl' s5 s6 hz hyes hno => ?_) fun aH H5 hs s5 nH eH pH => ?_
        · obtain ⟨rfl, e1⟩ := hz
          obtain ⟨_, rfl⟩ := marks_at e1
          have f6 := hf.mono ((s3.trans sm').trans s6)
          refine ⟨rfl, _, rfl, _, rfl, _, rfl, _, rfl, _, rfl, _, rfl, _, _, _, _, _, _, rfl, k, n, i, sv, mk l, rfl, f6, rfl, rfl, rfl, rfl, fun H7 s7 => ⟨_, rfl, ?_⟩⟩
          cases c1 : told n i sv (mk l) with
          | false => exact iteF (iteF (hno _ (by show (told n i sv (mk l) && _) = false; rw [c1]; rfl) s7))
          | true =>
            refine iteT ⟨_, rfl, _, _, rfl, rfl, _, rfl, ?_⟩
            by_cases c2 : 0 ≤ sv
            · rw [decide_eq_true c2]
              refine iteT ⟨_, rfl, _, rfl, _, rfl, _, rfl, (by decide : (4 : Nat) ≤ sizeLine), fun pt nt => ?_⟩
              exact hyes _ _ (by show (told n i sv (mk l) && _) = true; rw [c1, decide_eq_true c2]; rfl) (s7.trans (upd_none nt)) ⟨pt, rfl, upd_same⟩
            · rw [decide_eq_false c2]
              exact iteF (hno _ (by show (told n i sv (mk l) && _) = false; rw [c1, decide_eq_false c2]; rfl) s7)
        · have s35 := sm'.trans s5
          have eF5 := s35 _ _ eF
          have lN : hs.length ≤ 3 := by
            rw [Paired.len pH]
            exact List.length_filter_le _ _
          have lY : ys.length = L.length := Paired.len pF
          refine ⟨_, _, _, _, rfl, rfl, eF5, eH, Nat.le_of_lt (small_n (by omega)), fun aN nN => ?_⟩
          have sN := upd_none (o := .lst (ys ++ hs)) nN
          refine ⟨⟨(s3.trans s35).trans sN, (t3.trans s35).trans sN⟩, aN, _, L ++ (((List.range 3).filter fun l => told n i sv (mk l) && decide (0 ≤ sv)).map fun l => ((i : Int), sv, mk l)), _, rfl, upd_same, ?_, fun t ht => ?_, fun h => ?_, ?_⟩
          · exact Paired.append' (NumsP.kt pF (s35.trans sN).kt) (Paired.of_map (Paired.imp' (fun l v ⟨a, e, z⟩ => ⟨a, e, sN _ _ z⟩) pH))
          · rcases List.mem_append.mp ht with z | z
            · exact hfit t z
            · obtain ⟨l, hl2, rfl⟩ := List.mem_map.mp z
              have := (List.mem_filter.mp hl2).2
              exact told_fit (Bool.and_eq_true_iff.mp this).1
          · by_cases c : 0 < i ∨ 0 < j
            · obtain ⟨t, h1, h2⟩ := hex c
              exact ⟨t, List.mem_append_left _ h1, h2⟩
            · have i0 : i = 0 := by omega
              have j0 : j = 0 := by omega
              have sv0 := hsv j0
              subst i0
              subst sv0
              refine ⟨((0 : Nat), (0 : Nat), mk 1), List.mem_append_right _ (List.mem_map.mpr ⟨1, List.mem_filter.mpr ⟨by decide, ?_⟩, rfl⟩), rfl⟩
              show (told n ((0 : Nat) : Int) ((0 : Nat) : Int) 1 && decide _) = true
              rfl
          · rw [List.length_append, List.length_map]
            have := List.length_filter_le (fun l => told n i sv (mk l) && decide (0 ≤ sv)) (List.range 3)
            rw [List.length_range] at this
            omega
      · obtain ⟨⟨s3, t3⟩, aF, c5, L, ys, rfl, eF, pF, hfit, hex, hl⟩ := hp
        refine ⟨s3, aF, _, _, L, ys, rfl, eF, pF, hfit, (fun _ => hex (.inr (show 0 < 2 by decide))), ?_⟩
        have hl : L.length ≤ 6 * i + 3 * 2 := hl
        omega
    · obtain ⟨s1, aF, c4, c5, L, ys, rfl, eF, pF, hfit, hex, hl⟩ := hp
      exact ⟨_, rfl, q aF H' L ys s1 eF pF hfit (hex (by omega)) (by omega)⟩


end
end Wit

namespace Wit
open PySem PySem.Spec PyProof.Rows L2
section
variable {P : Program} {w : World} {K : PySem.W.Frag} {mg : Str → Option Value} {base : Heap}

/-- lists of lists, each its own -/
def Mat {k : Kd} (H0 H : Hp) (a : Addr) (n m : Nat) (g : Nat → Nat → El k) : Prop := ∃ bs : List Addr, H a = some (.lst (bs.map V.ref)) ∧ bs.length = m ∧ bs.Nodup ∧ (∀ b ∈ bs, H0 b = none ∧ b ≠ a) ∧ ∀ i b, bs[i]? = some b → H b = some (.lst ((List.range n).map fun j => iv (g i j)))
theorem Mat.mono {k : Kd} {H0 H H' : Hp} {a : Addr} {n m : Nat} {g : Nat → Nat → El k} (h : Mat H0 H a n m g) (s : Same H H') : Mat H0 H' a n m g := let ⟨bs, e, l, nd, f, r⟩ := h; ⟨bs, s _ _ e, l, nd, f, fun i b z => s _ _ (r i b z)⟩
theorem Mat.line {k : Kd} {H0 H : Hp} {a : Addr} {n m i : Nat} {g : Nat → Nat → El k} (h : Mat H0 H a n m g) (hi : i < m) : ∃ xs b, H a = some (.lst xs) ∧ xs[i]? = some (.ref b) ∧ H b = some (.lst ((List.range n).map fun j => iv (g i j))) ∧ H0 b = none ∧
    ∀ j (x : El k), Mat H0 (upd H b (.lst (((List.range n).map fun j => iv (g i j)).set j (iv x)))) a n m fun c d => if c = i ∧ d = j then x else g c d := by
  obtain ⟨bs, e, l, nd, f, r⟩ := h
  have hb : bs[i]? = some bs[i] := List.getElem?_eq_getElem (by omega)
  refine ⟨_, bs[i], e, by simp [hb], r i _ hb, (f _ (List.mem_of_getElem? hb)).1, fun j x => ⟨bs, ?_, l, nd, f, fun c b hc => ?_⟩⟩
  · rw [upd_ne (Ne.symm (f _ (List.mem_of_getElem? hb)).2)]
    exact e
  · by_cases ec : c = i
    · subst ec
      have eb : b = bs[c] := Option.some.inj (hc.symm.trans hb)
      subst eb
      rw [upd_same, set_range]
      congr 2
      refine List.map_congr_left fun d _ => ?_
      by_cases ed : d = j
      · rw [if_pos ed]
        exact congrArg iv (if_pos (show c = c ∧ d = j from ⟨rfl, ed⟩)).symm
      · rw [if_neg ed]
        exact congrArg iv (if_neg (show ¬ (c = c ∧ d = j) from fun z => ed z.2)).symm
    · have ne : b ≠ bs[i] := fun eb => by
        have lc := (List.getElem?_eq_some_iff.mp hc)
        obtain ⟨h1, h2⟩ := lc
        have pw := List.pairwise_iff_getElem.mp nd
        rcases Nat.lt_trichotomy c i with z | z | z
        · exact pw c i h1 (by omega) z (h2.trans eb)
        · exact ec z
        · exact pw i c (by omega) h1 z (h2.trans eb).symm
      rw [upd_ne ne, r c b hc]
      congr 2
      exact List.map_congr_left fun d _ => congrArg iv (if_neg (show ¬ (c = i ∧ d = j) from fun z => ec z.1)).symm
theorem Mat.congr {k : Kd} {H0 H : Hp} {a : Addr} {n m : Nat} {g g' : Nat → Nat → El k} (h : Mat H0 H a n m g) (e : ∀ i j, i < m → j < n → g i j = g' i j) : Mat H0 H a n m g' := by
  obtain ⟨bs, ea, l, nd, f, r⟩ := h
  refine ⟨bs, ea, l, nd, f, fun i b z => ?_⟩
  rw [r i b z]
  congr 2
  refine List.map_congr_left fun j hj => ?_
  have := (List.getElem?_eq_some_iff.mp z).1
  rw [e i j (by omega) (List.mem_range.mp hj)]
theorem atI_last' {xs : List V} {n : Nat} {y : V} (h : xs[n - 1]? = some y) (h0 : 0 < n) : atI xs ((n : Int) - 0 - 1) = some y := by
  rw [show (n : Int) - 0 - 1 = ((n - 1 : Nat) : Int) by omega]
  exact atI_nat h
theorem ixN_last {n m : Nat} (h0 : 0 < n) (hm : m = n) : ixN m ((n : Int) - 0 - 1) = some (n - 1) := by
  rw [show (n : Int) - 0 - 1 = ((n - 1 : Nat) : Int) by omega]
  exact ixN_n (by omega)
theorem yes_one {σ : L2.St} {H : Hp} {te : TE} {F : V → Hp → Prop} {B : Hp → Prop} (h : te σ H F) : tYes σ H fun b H3 => if b = true then te σ H3 F else B H3 := iteT (B := B H) h

def p_law_normal (a b c : V) (H : Hp) (Q : VK) : Prop := ∃ (k : Kd) (n : Nat) (m : Int) (pn : Addr), a = QK ∧ LF H b k ∧ c = .ref pn ∧ H pn = some (.tup [.int n, .int 0, .int 0, .int m]) ∧ n ≤ 900 ∧ (m = 1 ∨ (m = -1 ∧ 0 < n)) ∧
  ∀ r H' (d : Nat → El k), Same H H' → LS H' r k n (dA d) → (∀ i, i < n → d i ≠ 0) → Q r H'
theorem c_law_normal (T : Tx K mg) : Cal P w K mg base 2 "_law_normal" ["_law_kind", "_law_f", "_law_numbers"] (sp3 p_law_normal) :=
  cal_of (d := d_law_normal) (lv := 1) (i := 60) (j := 60) T rfl rfl rfl rfl rfl (keep_of (d := d_law_normal) (i := 60) T rfl) (S := ⟨rfl, rfl, rfl, by decide +kernel, rfl, by decide +kernel, by decide +kernel⟩) (N := ["_law_kind", "_law_f", "_law_numbers", "_law_n", "_law_r", "_law_s", "_law_mark", "_law_rank", "_law_rows", "_law_paired", "_law_k", "_law_i", "_law_j", "_law_row"]) (fun _ _ _ _ _ _ us hl => match us, hl with | [_, _, _], _ => rfl) len3 <| fun f cdv A outer s H vs Q E hr h => by
    obtain ⟨v0, v1, v2, rfl, h⟩ := h
    have nd : (["_law_kind", "_law_f", "_law_numbers", "_law_n", "_law_r", "_law_s", "_law_mark", "_law_rank", "_law_rows", "_law_paired", "_law_k", "_law_i", "_law_j", "_law_row"] : List Str).Nodup := by decide +kernel
    refine ⟨_, (pss_cons (ps_asg (pv 2) (pg_tupK K rfl (pgs_cons (pg_name (i := 3) nd rfl (Or.inr rfl)) (pgs_cons (pg_name (i := 4) nd rfl (Or.inl rfl)) (pgs_cons (pg_name (i := 5) nd rfl (Or.inl rfl)) (pgs_cons (pg_name (i := 6) nd rfl (Or.inl rfl)) pgs_nil)))))) (pss_cons (ps_set (i := 7) nd rfl (Or.inl rfl) (pe_op op_sub (pv 3) (pv 4))) (pss_cons (ps_setLc (i := 8) (own := [("_law_i", 11)]) (g := (gName 11)) (tt := tYes) rfl nd rfl rfl (sw_true rfl rfl rfl (by decide +kernel)) (pi_range1 (by rfl) T.range (pa_cons (pv 3) pa_nil)) (blkOk_by (by kernel_rfl)) (fun _ _ _ _ _ => (pg_name (i := 11) nd rfl (Or.inl rfl))) (fun _ _ _ _ _ => pts_nil) (fun _ _ _ _ _ => (pe_lc (own := [("_law_j", 12)]) (g := (gName 12)) (tt := tYes) rfl nd (pi_range1 (by rfl) T.range (pa_cons (pv 3) pa_nil)) (blkOk_by (by kernel_rfl)) (fun _ _ _ _ _ => (pg_name (i := 12) nd rfl (Or.inl rfl))) (fun _ _ _ _ _ => pts_nil) (fun _ _ _ _ _ => pe_int)))) (pss_cons (ps_set (i := 9) nd rfl (Or.inl rfl) (pe_or (pe_cmpR op_eq (pv 0) pe_str (nomark _)) (pe_one (pe_and (pe_cmpR op_eq (pv 0) pe_str (nomark _)) (pe_one (pe_not (pe_cal (c_law_is_odd T) (hr.mono (by decide)) (by rfl) (pa_cons (pv 1) pa_nil)))))))) (pss_cons (ps_for PassesOwn.never rfl (pi_range1 (by rfl) T.range (pa_cons (pv 7) pa_nil)) (pg_name (i := 10) nd rfl (Or.inl rfl)) (pss_cons (ps_if (PW.pt (pw_and (pt_val (pv 9)) (pw_and1 (pt_cmpR op_eq (pe_op op_mod (pv 10) pe_int) pe_int (nomark _))))) (pss_one (ps_asg pe_int (pg_sub (pe_ix (ix_listK K) (pv 8) (pv 10) (fun _ _ => rfl)) (pe_op op_add (pv 10) pe_int) set_list))) pss_nil) (pss_cons (ps_if (PW.pt (pw_and (pt_cmpR op_eq (pv 0) pe_str (nomark _)) (pw_and1 (pt_cmpR op_eq (pe_op op_mod (pv 10) pe_int) pe_int (nomark _))))) (pss_one (ps_asg (pe_cal (c_law_negative T) (hr.mono (by decide)) (by rfl) (pa_cons (pv 1) (pa_cons pe_int pa_nil))) (pg_sub (pe_ix (ix_listK K) (pv 8) (pv 10) (fun _ _ => rfl)) (pe_op op_sub (pv 10) pe_int) set_list))) pss_nil) (pss_one (ps_if (pt_not (pt_val (pv 9))) (pss_one (ps_asg pe_int (pg_sub (pe_ix (ix_listK K) (pv 8) (pv 10) (fun _ _ => rfl)) (pv 10) set_list))) pss_nil))))) (pss_cons (ps_if (PW.pt (pw_and (pt_cmpR op_eq (pv 6) (pe_un un_neg pe_int) (nomark _)) (pw_and1 (pt_val (pv 9))))) (pss_cons (ps_asg pe_int (pg_sub (pe_ix (ix_listK K) (pv 8) (pe_op op_sub (pv 7) pe_int) (fun _ _ => rfl)) (pe_op op_sub (pv 7) pe_int) set_list)) (pss_one (ps_asg pe_dead (pg_sub (pe_ix (ix_listK K) (pv 8) (pe_op op_sub (pv 7) pe_int) (fun _ _ => rfl)) (pe_op op_sub (pv 7) pe_int) set_list)))) pss_nil) (pss_cons (ps_if (PW.pt (pw_and (pt_cmpR op_eq (pv 6) (pe_un un_neg pe_int) (nomark _)) (pw_and1 (pt_not (pt_val (pv 9)))))) (pss_one (ps_asg (pe_cal (c_law_nonsquare T) (hr.mono (by decide)) (by rfl) (pa_cons (pv 1) pa_nil)) (pg_sub (pe_ix (ix_listK K) (pv 8) (pe_op op_sub (pv 7) pe_int) (fun _ _ => rfl)) (pe_op op_sub (pv 7) pe_int) set_list))) pss_nil) (pss_cons (ps_if (pt_cmpR op_lt (pv 5) (pv 4) (nomark _)) (pss_one (ps_asg pe_int (pg_sub (pe_ix (ix_listK K) (pv 8) (pv 7) (fun _ _ => rfl)) (pv 7) set_list))) pss_nil) (pss_one (ps_ret (pe_tup (pa_cons (pv 0) (pa_cons (pv 1) (pa_cons (pe_callTy (call_tuple_ofK K) (by rfl) T.tuple boot_tuple (pa_cons (pe_lc (own := [("_law_row", 13)]) (g := (gName 13)) (tt := tYes) rfl nd (pi_listK K (pv 8)) (blkOk_by (by kernel_rfl)) (fun _ _ _ _ _ => (pg_name (i := 13) nd rfl (Or.inl rfl))) (fun _ _ _ _ _ => pts_nil) (fun _ _ _ _ _ => (pe_callTy (call_tuple_ofK K) (by rfl) T.tuple boot_tuple (pa_cons (pv 13) pa_nil)))) pa_nil)) pa_nil)))))))))))))), ?_⟩
    obtain ⟨k, n, m, pn, rfl, hf, rfl, en, hn, hm, q⟩ := h
    refine ⟨_, rfl, _, _, rfl, tq en, rfl, _, _, rfl, _, _, rfl, _, _, rfl, _, _, rfl, rfl, ?_⟩
    refine ⟨_, rfl, _, rfl, _, _, rfl, rfl, ?_⟩
    refine ⟨_, rfl, _, rfl, by omega, by omega, ?_⟩
    rw [Int.toNat_natCast]
    refine fun D hD => lc_it walk_rg (fun i H' => Same H H' ∧ Mat H H' D n i (fun _ _ => (0 : El k))) ⟨upd_none hD, [], upd_same, rfl, .nil, (fun _ h => nomatch h), (fun i b h => by simp at h)⟩ (fun _ _ _ _ => trivial) (fun i x H1 H2 hi hp hy => ?_) fun H1 hp => ?_
    · obtain ⟨s1, bs, eD, lb, nd', fr, hb⟩ := hp
      obtain ⟨rfl, rfl⟩ := hy
      refine ⟨rfl, yes_one ?_⟩
      refine ⟨_, rfl, _, rfl, by omega, by omega, ?_⟩
      rw [Int.toNat_natCast]
      refine lc_map (Q := fun y H4 => ∃ acc, H4 D = some (.lst acc) ∧ acc.length < sizeLine ∧ (Same H (upd H4 D (.lst (acc ++ [y]))) ∧ Mat H (upd H4 D (.lst (acc ++ [y]))) D n (i + 1) fun _ _ => (0 : El k))) (walk_rg (n := n)) (fun _ z _ => z = .int 0) (small_n (by omega)) (fun _ _ => trivial) (fun _ _ _ _ _ z => z) yFn_same (fun j z H3 H4 yes hj s3 s4 hz hyes => ?_) gName_mono fun B H3 ys s3 nB eB pB => ?_
      · exact ⟨rfl, hyes _ _ (Same.refl _) rfl⟩
      · have eD3 := s3 _ _ eD
        have ey := Paired.eq_map (f := fun _ => V.int 0) pB
        have nBD : B ≠ D := fun e => by rw [e, eD] at nB; cases nB
        refine ⟨_, eD3, (show (bs.map V.ref).length < sizeLine from small_n (by rw [List.length_map, lb]; omega)), (s1.trans s3).upd hD, bs ++ [B], by rw [upd_same, List.map_append]; rfl, by rw [List.length_append, lb]; rfl, ?_, fun b hbm => ?_, fun l b hl => ?_⟩
        · refine List.nodup_append.mpr ⟨nd', (by simp), fun x hx y hy e => ?_⟩
          rw [List.mem_singleton.mp hy] at e
          subst e
          obtain ⟨l, hl, e⟩ := List.mem_iff_getElem.mp hx
          have := hb l x (by rw [List.getElem?_eq_getElem hl, e])
          rw [nB] at this
          cases this
        · rcases List.mem_append.mp hbm with z | z
          · exact fr b z
          · rw [List.mem_singleton.mp z]
            exact ⟨s1.free nB, nBD⟩
        · by_cases c : l < bs.length
          · rw [List.getElem?_append_left c] at hl
            have hx := hb l b hl
            have ne : b ≠ D := (fr b (List.mem_of_getElem? hl)).2
            rw [upd_ne ne]
            exact s3 _ _ hx
          · have hl2 := (List.getElem?_eq_some_iff.mp hl).1
            rw [List.length_append] at hl2
            have el : l = bs.length := by
              have : ([B] : List Addr).length = 1 := rfl
              omega
            subst el
            rw [List.getElem?_append_right (Nat.le_refl _), Nat.sub_self] at hl
            cases hl
            rw [upd_ne nBD, eB, ey, iv_zero k]
    · obtain ⟨s1, hM⟩ := hp
      refine ⟨_, rfl, rfl, _, rfl, ?_⟩
      rw [qk_alt]
      refine iteF ⟨_, rfl, rfl, _, rfl, ?_⟩
      rw [qk_qua]
      refine iteT ⟨_, rfl, _, rfl, k, hf.mono s1, fun H2 s2 => ⟨true, rfl, ?_⟩⟩
      have s12 := s1.trans s2
      refine ⟨_, rfl, _, rfl, by omega, by omega, ?_⟩
      rw [show ((n : Int) - 0).toNat = n by omega]
      refine for_it walk_rg (fun i σ H' => Same H H' ∧ ∃ c10, σ = [some QK, some v1, some (.ref pn), some (.int n), some (.int 0), some (.int 0), some (.int m), some (.int ((n : Int) - 0)), some (.ref D), some (.bl false), c10, none, none, none] ∧ Mat H H' D n n (fun c d => if c = d ∧ c < i then (1 : El k) else 0)) ⟨s12, none, rfl, (hM.mono s2).congr fun i j _ _ => by rw [if_neg (fun z => absurd z.2 (Nat.not_lt_zero _))]⟩ (fun _ _ _ _ _ => trivial) (fun i z σ H3 H4 hi hp hz => ?_) fun σ H' hp => ?_
      · obtain ⟨s3, c10, rfl, hM⟩ := hp
        obtain ⟨rfl, rfl⟩ := hz
        refine ⟨_, rfl, false, rfl, iteF (iteF ?_)⟩
        refine ⟨_, rfl, rfl, _, rfl, ?_⟩
        rw [qk_alt]
        refine iteF (iteF ⟨_, rfl, false, rfl, iteT ?_⟩)
        obtain ⟨xs, B, e1, e2, e3, e4, hset⟩ := hM.line hi
        refine ⟨_, rfl, _, rfl, _, _, _, _, rfl, rfl, lq' e1, atI_nat e2, _, rfl, _, _, _, _, rfl, rfl, e3, ixN_n (j := i) (by rw [List.length_map, List.length_range]; exact hi), ?_⟩
        rw [iv_one k]
        refine ⟨s3.upd e4, _, rfl, (hset i 1).congr fun c d _ _ => ?_⟩
        by_cases h1 : c = d ∧ c < i + 1
        · rw [if_pos h1]
          by_cases h2 : c = i ∧ d = i
          · rw [if_pos h2]
          · rw [if_neg h2, if_pos ⟨h1.1, by omega⟩]
        · rw [if_neg h1, if_neg (fun z => h1 ⟨z.1.trans z.2.symm, by omega⟩), if_neg (fun z => h1 ⟨z.1, by omega⟩)]
      · obtain ⟨s3, c10, rfl, hM⟩ := hp
        have fin : ∀ (H4 : Hp) (d : Nat → El k), Same H H4 → Mat H H4 D n n (dA d) → (∀ i, i < n → d i ≠ 0) → tSeq (tIfS (tTest (tOp (rI0 fun i j => V.bl (decide (i < j))) (tVar 5) (tVar 4))) (tAsg (tC (V.int 1)) (gSub (tOp (rIxL K) (tVar 8) (tVar 7)) (tVar 7) rSetL)) tNext) (tRet (tTup (tCons (tVar 0) (tCons (tVar 1) (tCons (tCB (rTupO K) (tCons (tLc (iList K (tVar 8)) (gName 13) tYes (tCB (rTupO K) (tCons (tVar 13) tNil)) [13]) tNil)) tNil))))) { nx := fun _ H' => Q .non H', rt := Q } [some QK, some v1, some (.ref pn), some (.int n), some (.int 0), some (.int 0), some (.int m), some (.int ((n : Int) - 0)), some (.ref D), some (.bl false), c10, none, none, none] H4 := fun H4 d s4 hM hd => by
          refine ⟨_, rfl, _, rfl, _, _, rfl, rfl, _, rfl, iteF ?_⟩
          obtain ⟨bs, eD, lb, nd', fr, hb⟩ := hM
          have lw : (bs.map V.ref).length = n := by rw [List.length_map, lb]
          refine ⟨_, rfl, _, rfl, _, rfl, _, rfl, ⟨_, lq' eD⟩, ?_⟩
          refine lc_tup (n := n) (lw ▸ walk_list) (fun j z H => Row H z (Vc.of n (dA d j))) (small_n (by omega)) (fun H' s => lq' (s _ _ eD)) (fun _ _ _ _ s z => z.kt s) yAt_same (fun j z H5 H6 yes hj s5 s6 hz hyes => ?_) gName_mono fun p H5 ys s5 hp pr => ?_
          · obtain ⟨rfl, e1⟩ := hz
            have hj' : bs[j]? = some bs[j] := List.getElem?_eq_getElem (by omega)
            have e1 : (bs.map V.ref)[j]? = some z := e1
            simp [hj'] at e1
            subst e1
            have eb := s6 _ _ (hb j _ hj')
            refine ⟨rfl, _, rfl, _, _, rfl, .inl ⟨lq' eb, fun l hl => hyes _ _ (upd_none hl) ⟨l, rfl, ?_⟩⟩⟩
            rw [upd_same]
            congr 2
            exact List.map_congr_left fun c hc => by rw [Vc.of_f (List.mem_range.mp hc)]
          · refine ⟨(by decide : (3 : Nat) ≤ sizeLine), fun pz nz => ?_⟩
            have sz := upd_none (o := .tup [QK, v1, .ref p]) nz
            exact q _ _ d ((s4.trans s5).trans sz) ⟨pz, v1, .ref p, rfl, upd_same, hf.mono ((s4.trans s5).trans sz), RowsT.mono ⟨p, ys, rfl, hp, rowsP_of pr⟩ sz⟩ hd
        have hM1 : Mat H H' D n n (dA fun _ => (1 : El k)) := hM.congr fun i j hi _ => by
          unfold dA
          by_cases e : i = j
          · rw [if_pos ⟨e, hi⟩, if_pos e]
          · rw [if_neg (fun z => e z.1), if_neg e]
        have one0 : (1 : El k) ≠ 0 := Ne.symm Lean.Grind.Field.zero_ne_one
        refine ⟨_, rfl, _, rfl, rfl, _, rfl, ?_⟩
        rw [int_eq]
        rcases hm with hm | ⟨hm, h0⟩
        · have e : decide (m = -1) = false := decide_eq_false (by omega)
          rw [e]
          refine iteF (iteF ⟨_, rfl, _, rfl, rfl, _, rfl, ?_⟩)
          rw [int_eq, e]
          exact iteF (iteF (fin H' _ s3 hM1 fun _ _ => one0))
        · rw [decide_eq_true hm]
          refine iteT ⟨_, rfl, false, rfl, iteF ⟨_, rfl, _, rfl, rfl, _, rfl, ?_⟩⟩
          rw [int_eq, decide_eq_true hm]
          refine iteT ⟨_, rfl, false, rfl, iteT ?_⟩
          refine ⟨_, rfl, _, rfl, k, hf.mono s3, fun x H5 s5 hx => ?_⟩
          obtain ⟨xs, B, e1, e2, e3, e4, hset⟩ := (hM1.mono s5).line (show n - 1 < n by omega)
          refine ⟨_, rfl, _, rfl, _, _, rfl, rfl, _, _, _, _, rfl, rfl, lq' e1, atI_last' e2 h0, _, rfl, _, _, rfl, rfl, _, _, _, _, rfl, rfl, e3, ixN_last h0 (by rw [List.length_map, List.length_range]), ?_⟩
          refine fin _ (fun i => if i = n - 1 then x else 1) ((s3.trans s5).upd e4) ((hset (n - 1) x).congr fun c d _ _ => ?_) fun i _ => ?_
          · unfold dA
            by_cases e : c = d
            · rw [if_pos e]
              subst e
              by_cases e2 : c = n - 1
              · rw [if_pos ⟨e2, e2⟩, if_pos rfl]
                exact (if_pos e2).symm
              · rw [if_neg (fun z => e2 z.1), if_pos rfl]
                exact (if_neg e2).symm
            · rw [if_neg e, if_neg (fun z => e (z.1.trans z.2.symm)), if_neg e]
          · by_cases e : i = n - 1
            · simp only [e, if_true]
              exact hx
            · simp only [e, if_false]
              exact one0


end
end Wit

namespace Wit
open PySem PySem.Spec PyProof.Rows L2
section
variable {P : Program} {w : World} {K : PySem.W.Frag} {mg : Str → Option Value} {base : Heap}

theorem Stt.kt {H H' : Hp} {p : Addr} (st : Stt H p) (b : But p H H') : KT H H' := fun c o e l => by
  obtain ⟨s, t, z, _⟩ := st
  refine b c o (fun q => ?_) e
  rw [q, z] at e
  rw [← Option.some.inj e] at l
  cases l

def p_law_turned (a b : V) (H : Hp) (Q : VK) : Prop := ∃ (p : Addr) (k : Kd) (n : Nat) (d : Nat → El k), a = .ref p ∧ Stt H p ∧ LS H b k n (dA d) ∧ (∀ i, i < n → d i ≠ 0) ∧ n ≤ 800 ∧ ∀ r H' (A : Nat → Nat → El k), But p H H' → Stt H' p → LS H' r k n A → Good n A → Q r H'
theorem c_law_turned (T : Tx K mg) : Cal P w K mg base 4 "_law_turned" ["_law_state_here", "_law_s"] (sp2 p_law_turned) :=
  cal_of (d := d_law_turned) (lv := 3) (i := 61) (j := 61) T rfl rfl rfl rfl rfl (keep_of (d := d_law_turned) (i := 61) T rfl) (S := ⟨rfl, rfl, rfl, by decide +kernel, rfl, by decide +kernel, by decide +kernel⟩) (N := ["_law_state_here", "_law_s"]) (fun _ _ _ _ _ _ us hl => match us, hl with | [_, _], _ => rfl) len2 <| fun f cdv A outer s H vs Q E hr h => by
    obtain ⟨v0, v1, rfl, h⟩ := h
    have nd : (["_law_state_here", "_law_s"] : List Str).Nodup := by decide +kernel
    refine ⟨_, (pss_one (ps_ret (pe_cal (c_law_restricted T) (hr.mono (by decide)) (by rfl) (pa_cons (pv 1) (pa_cons (pe_cal (c_law_basis T) (hr.mono (by decide)) (by rfl) (pa_cons (pv 0) (pa_cons (pe_ix (ix_tupK K) (pv 1) pe_int (fun _ _ => rfl)) (pa_cons (pe_callB (call_len_seqK K) (by rfl) T.len PySem.boot_len (pa_cons (pe_ix (ix_tupK K) (pv 1) pe_int (fun _ _ => rfl)) pa_nil)) pa_nil)))) pa_nil))))), ?_⟩
    obtain ⟨p, k, n, d, rfl, st, hS, hd, hn, q⟩ := h
    refine ⟨_, rfl, _, rfl, ls1 hS (tv rfl) _ fun f hf => ls2 hS (tv rfl) _ fun m hm => ?_⟩
    obtain ⟨pp, ys, e, sq, ly⟩ := rows_len (K := K) hm
    rw [mR_len] at ly
    refine ⟨pp, ys, e, sq, ?_⟩
    rw [ly]
    refine ⟨_, _, _, rfl, p, k, n, rfl, st, hf, rfl, by omega, fun r H1 P b1 st1 hP hB => ?_⟩
    refine ⟨_, _, rfl, k, n, dA d, P, hS.st st b1, dA_tri d n, hP, hB.1, by omega, fun r2 H2 s2 h2 => ?_⟩
    exact q r2 H2 _ (b1.same' s2) (st1.mono s2) h2 (Good.mk' (two_ne k) hd hB)


def p_law_plain (a b c d : V) (H : Hp) (Q : VK) : Prop := ∃ (p : Addr) (k : Kd) (n : Nat), a = .ref p ∧ Stt H p ∧ b = QK ∧ LF H c k ∧ d = .int n ∧ n ≤ 100 ∧ ∀ r H' (A : Nat → Nat → El k), But p H H' → Stt H' p → LS H' r k n A → Good n A → Q r H'
theorem c_law_plain (T : Tx K mg) : Cal P w K mg base 5 "_law_plain" ["_law_state_here", "_law_kind", "_law_f", "_law_n"] (sp4 p_law_plain) :=
  cal_of (d := d_law_plain) (lv := 4) (i := 62) (j := 62) T rfl rfl rfl rfl rfl (keep_of (d := d_law_plain) (i := 62) T rfl) (S := ⟨rfl, rfl, rfl, by decide +kernel, rfl, by decide +kernel, by decide +kernel⟩) (N := ["_law_state_here", "_law_kind", "_law_f", "_law_n", "_law_choices", "_law_numbers"]) (fun _ _ _ _ _ _ us hl => match us, hl with | [_, _, _, _], _ => rfl) len4 <| fun f cdv A outer s H vs Q E hr h => by
    obtain ⟨v0, v1, v2, v3, rfl, h⟩ := h
    have nd : (["_law_state_here", "_law_kind", "_law_f", "_law_n", "_law_choices", "_law_numbers"] : List Str).Nodup := by decide +kernel
    refine ⟨_, (pss_cons (ps_setLc (i := 4) (own := [("_law_numbers", 5)]) (g := (gName 5)) rfl nd rfl rfl (sw_true rfl rfl rfl (by decide +kernel)) (pi_listK K (pe_cal (c_law_all_numbers T) (hr.mono (by decide)) (by rfl) (pa_cons (pv 1) (pa_cons (pv 2) (pa_cons (pv 3) pa_nil))))) (blkOk_by (by kernel_rfl)) (fun _ _ _ _ _ => (pg_name (i := 5) nd rfl (Or.inl rfl))) (fun _ _ _ _ _ => (pts_one (pt_cmpR op_eq (pe_ix (ix_tupK K) (pv 5) pe_int (fun _ _ => rfl)) pe_int (nomark _)))) (fun _ _ _ _ _ => (pv 5))) (pss_one (ps_ret (pe_cal (c_law_turned T) (hr.mono (by decide)) (by rfl) (pa_cons (pv 0) (pa_cons (pe_cal (c_law_normal T) (hr.mono (by decide)) (by rfl) (pa_cons (pv 1) (pa_cons (pv 2) (pa_cons (pe_ix (ix_listK K) (pv 4) (pe_cal (c_law_take T) (hr.mono (by decide)) (by rfl) (pa_cons (pv 0) (pa_cons (pe_callB (call_len_seqK K) (by rfl) T.len PySem.boot_len (pa_cons (pv 4) pa_nil)) pa_nil))) (fun _ _ => rfl)) pa_nil)))) pa_nil)))))), ?_⟩
    obtain ⟨p, k, n, rfl, st, rfl, hf, rfl, hn, q⟩ := h
    refine ⟨_, rfl, _, rfl, _, rfl, _, _, _, rfl, k, n, rfl, hf, rfl, hn, fun aN H1 L ys s1 eN pN hfit hex hl => ?_⟩
    have ly : ys.length = L.length := Paired.len pN
    refine ⟨_, rfl, ⟨_, lq' eN⟩, ?_⟩
    refine fil_set walk_list (fun j y H => ∃ (m : Int) (b : Addr), y = .ref b ∧ H b = some (.tup [.int n, .int 0, .int 0, .int m]) ∧ (m = 1 ∨ (m = -1 ∧ 0 < n))) (fun j => decide ((L.getD j (1, 0, 0)).1 = 0)) (small_n (by omega)) (fun H' s => lq' (s _ _ eN)) (fun _ _ _ _ s ⟨m, b, e, z, w⟩ => ⟨m, b, e, s _ _ z rfl, w⟩) yAt_same (fun j z H3 H4 yes no hj s3 s4 hz hyes hno => ?_) fun aC H2 cs s2 nC eC pC => ?_
    · obtain ⟨rfl, e1⟩ := hz
      obtain ⟨t, et, b, rfl, eb⟩ := Paired.at' pN e1
      have eb4 := s4 _ _ eb
      have eg : L.getD j (1, 0, 0) = t := getD_of et
      refine ⟨rfl, _, rfl, _, _, _, _, rfl, rfl, tq eb4, rfl, rfl, _, rfl, ?_⟩
      rw [int_eq]
      by_cases c : t.1 = 0
      · rw [decide_eq_true c]
        obtain ⟨f1, f2⟩ := hfit t (List.mem_of_getElem? et) c
        refine iteT ⟨_, rfl, hyes _ _ (by rw [eg]; exact decide_eq_true c) (Same.refl _) ⟨t.2.2, b, rfl, ?_, f2⟩⟩
        rw [eb4, c, f1]
      · rw [decide_eq_false c]
        exact iteF (hno _ (by rw [eg]; exact decide_eq_false c) (Same.refl _))
    · have s12 := s1.trans s2
      have pos : 0 < cs.length := by
        rw [Paired.len pC]
        obtain ⟨t, ht, t0⟩ := hex
        obtain ⟨j, hj, e⟩ := List.mem_iff_getElem.mp ht
        have m : j ∈ (List.range ys.length).filter fun j => decide ((L.getD j (1, 0, 0)).1 = 0) := List.mem_filter.mpr ⟨List.mem_range.mpr (by omega), by
          rw [getD_of (List.getElem?_eq_getElem hj), e]
          exact decide_eq_true t0⟩
        exact List.length_pos_of_mem m
      have lc : cs.length ≤ 700 := by
        rw [Paired.len pC]
        have := List.length_filter_le (fun j => decide ((L.getD j (1, 0, 0)).1 = 0)) (List.range ys.length)
        rw [List.length_range] at this
        omega
      refine ⟨_, rfl, _, rfl, _, rfl, _, rfl, _, rfl, _, rfl, _, _, rfl, .inl (lq' eC), ?_⟩
      have st2 := st.mono s12
      refine ⟨_, _, rfl, p, cs.length, rfl, rfl, st2, pos, by omega, fun r H3 b3 st3 hr => ?_⟩
      have nCp : aC ≠ p := st.mono s1 |>.ne nC
      have er : cs[r]? = some cs[r] := List.getElem?_eq_getElem hr
      obtain ⟨j, hj, m, b, eb, hb, hm⟩ := Paired.at' pC er
      rw [eb] at er
      refine ⟨_, _, _, _, rfl, rfl, lq' (b3 _ _ nCp eC), atI_nat er, ?_⟩
      have k3 := st2.kt b3
      refine ⟨_, _, _, rfl, k, n, m, b, rfl, (hf.mono s12).st st2 b3, rfl, k3 _ _ hb rfl, by omega, hm, fun r4 H4 d s4 h4 hd => ?_⟩
      refine ⟨_, _, rfl, p, k, n, d, rfl, st3.mono s4, h4, hd, by omega, fun r5 H5 A b5 st5 h5 hG => ?_⟩
      exact q r5 H5 A ((((But.of_same s12).trans b3).same' s4).trans b5) st5 h5 hG


def p_law_space (K : PySem.W.Frag) (a : V) (H : Hp) (Q : VK) : Prop := ∃ (k : Kd) (n : Nat) (A : Nat → Nat → El k), LS H a k n A ∧ Tri A n ∧ n ≤ 6 ∧ ∀ r H', Same H H' → Sc K H' r k n A → Q r H'
theorem c_law_space (T : Tx K mg) : Cal P w K mg base 6 "_law_space" ["_law_s"] (sp1 (p_law_space K)) :=
  cal_of (d := d_law_space) (lv := 5) (i := 55) (j := 55) T rfl rfl rfl rfl rfl (keep_of (d := d_law_space) (i := 55) T rfl) (S := ⟨rfl, rfl, rfl, by decide +kernel, rfl, by decide +kernel, by decide +kernel⟩) (N := ["_law_s"]) (fun _ _ _ _ _ _ us hl => match us, hl with | [_], _ => rfl) len1 <| fun f cdv A outer s H vs Q E hr h => by
    obtain ⟨v0, rfl, h⟩ := h
    have nd : (["_law_s"] : List Str).Nodup := by decide +kernel
    refine ⟨_, (pss_one (ps_ret (pe_calC (k_Space T) (hr.mono (by decide)) (by rfl) (pa_cons (pe_ix (ix_tupK K) (pv 0) pe_int (fun _ _ => rfl)) (pa_cons (pe_ix (ix_tupK K) (pe_ix (ix_tupK K) (pv 0) pe_int (fun _ _ => rfl)) pe_int (fun _ _ => rfl)) (pa_cons (pe_ix (ix_tupK K) (pv 0) pe_int (fun _ _ => rfl)) pa_nil)))))), ?_⟩
    obtain ⟨k, n, A, ⟨as, f, m, rfl, es, ⟨af, sF, pF, rfl, ef, t1, t2⟩, hm⟩, htri, hn, q⟩ := h
    refine ⟨_, rfl, _, _, _, _, rfl, rfl, tq es, rfl, _, rfl, _, _, _, _, rfl, rfl, tq es, rfl, _, _, _, _, rfl, rfl, tq ef, rfl, _, rfl, _, _, _, _, rfl, rfl, tq es, rfl, fun x dx nx nd ne => ?_⟩
    have s : Same H (upd (upd H dx (.own x)) x (.ins (He.ga K "Space") dx [])) := fun c o e => by
      rw [upd_ne (ne_of_none e nx), upd_ne (ne_of_none e nd)]
      exact e
    exact ⟨_, _, _, _, rfl, k, n, A, x, dx, rfl, upd_same, rfl, rfl, hm.mono s, htri, hn, fun H' b' hS => ⟨rfl, q _ H' (b'.same nx nd) hS⟩⟩


end
end Wit

namespace Wit
open PySem PySem.Spec PyProof.Rows L2
section
variable {P : Program} {w : World} {K : PySem.W.Frag} {mg : Str → Option Value} {base : Heap}

theorem chi_64 {k : Kd} (a : El k) : -(2 ^ 64) < chi a ∧ chi a < 2 ^ 64 := by
  unfold chi
  by_cases c : a.sq = true
  · rw [if_pos c]; decide
  · rw [if_neg c]; decide
theorem size_at {r : Nat} (h : r < 6) : ∃ k : Kd, ([V.int 3, .int 3, .int 3, .int 5, .int 7, .int 9] : List V)[r]? = some (.int (k.q : Int)) := by
  match r, h with
  | 0, _ => exact ⟨.k3, rfl⟩
  | 1, _ => exact ⟨.k3, rfl⟩
  | 2, _ => exact ⟨.k3, rfl⟩
  | 3, _ => exact ⟨.k5, rfl⟩
  | 4, _ => exact ⟨.k7, rfl⟩
  | 5, _ => exact ⟨.k9, rfl⟩
theorem eq_same {a : V} : decide (a = a) = true := decide_eq_true rfl
theorem mk_iso' {H : Hp} {b c : V} {k : Kd} {n : Nat} {A : Nat → Nat → El k} {us M : List (Vc (El k) n)} {G : Hp → Prop} {E : XK} {x dx : Addr} (nx : H x = none) (nd : H dx = none) (ne : dx ≠ x) (hS : Sc K H b k n A) (hM : RowsT H c M) (hR : RP (QF.of n A) us M) (hn : n ≤ 6) (q : ∀ H', Same H H' → Iso K H' (.ref x) b k n A us → G H') :
    sp3 (p_Isometry_init K) (.ref x :: ([b, c] ++ [])) (upd (upd H dx (.own x)) x (.ins (He.ga K "Isometry") dx [])) (fun v H2 => v = .non ∧ G H2) E := by
  have s : Same H (upd (upd H dx (.own x)) x (.ins (He.ga K "Isometry") dx [])) := fun c o e => by
    rw [upd_ne (ne_of_none e nx), upd_ne (ne_of_none e nd)]
    exact e
  exact ⟨_, _, _, rfl, k, n, A, us, M, x, dx, rfl, upd_same, hS.mono s, hM.mono s, hR, hn, fun H' b' hI => ⟨rfl, q H' (b'.same nx nd) ⟨M, hI, hS.mono (b'.same nx nd), hR⟩⟩⟩

def p_law (K : PySem.W.Frag) (a : V) (H : Hp) (Q : VK) : Prop := ∃ (l : Addr) (ns : List Int), a = .ref l ∧ SqL K H l (ns.map V.int) ∧ ∀ H', Q (.bl true) H'
theorem law_body (T : Tx K mg) : BodyD P w K mg base d_law 14 ["_law_script", "_law_state_here", "_law_q", "_law_n", "_law_f", "_law_s", "_law_space_here", "_law_one", "_law_two", "_law_first", "_law_second", "_law_a", "_law_b", "_law_carried"] (sp1 (p_law K)) := fun f cdv A outer s H vs Q E hr h => by
    obtain ⟨v0, rfl, h⟩ := h
    have nd : (["_law_script", "_law_state_here", "_law_q", "_law_n", "_law_f", "_law_s", "_law_space_here", "_law_one", "_law_two", "_law_first", "_law_second", "_law_a", "_law_b", "_law_carried"] : List Str).Nodup := by decide +kernel
    refine ⟨_, (pss_cons (ps_set (i := 1) nd rfl (Or.inl rfl) (pe_cal (c_law_state T) (hr.mono (by decide)) (by rfl) (pa_cons (pv 0) pa_nil))) (pss_cons (ps_set (i := 2) nd rfl (Or.inl rfl) (pe_ix (ix_listK K) (pe_lst (pa_cons pe_int (pa_cons pe_int (pa_cons pe_int (pa_cons pe_int (pa_cons pe_int (pa_cons pe_int pa_nil))))))) (pe_cal (c_law_take T) (hr.mono (by decide)) (by rfl) (pa_cons (pv 1) (pa_cons pe_int pa_nil))) (fun _ _ => rfl))) (pss_cons (ps_set (i := 3) nd rfl (Or.inl rfl) (pe_cal (c_law_take T) (hr.mono (by decide)) (by rfl) (pa_cons (pv 1) (pa_cons pe_int pa_nil)))) (pss_cons (ps_set (i := 4) nd rfl (Or.inl rfl) (pe_cal (c_law_field T) (hr.mono (by decide)) (by rfl) (pa_cons (pv 2) pa_nil))) (pss_cons (ps_set (i := 5) nd rfl (Or.inl rfl) (pe_cal (c_law_plain T) (hr.mono (by decide)) (by rfl) (pa_cons (pv 1) (pa_cons pe_str (pa_cons (pv 4) (pa_cons (pv 3) pa_nil)))))) (pss_cons (ps_set (i := 6) nd rfl (Or.inl rfl) (pe_cal (c_law_space T) (hr.mono (by decide)) (by rfl) (pa_cons (pv 5) pa_nil))) (pss_cons (ps_par (i := 7) (j := 8) rfl nd rfl rfl (by decide) rfl rfl (pa_cons (pe_cal (c_law_good_rows T) (hr.mono (by decide)) (by rfl) (pa_cons (pv 1) (pa_cons (pv 5) (pa_cons pe_int pa_nil)))) (pa_cons (pe_cal (c_law_good_rows T) (hr.mono (by decide)) (by rfl) (pa_cons (pv 1) (pa_cons (pv 5) (pa_cons pe_int pa_nil)))) pa_nil)) (by rfl)) (pss_cons (ps_par (i := 9) (j := 10) rfl nd rfl rfl (by decide) rfl rfl (pa_cons (pe_calC (k_Isometry T) (hr.mono (by decide)) (by rfl) (pa_cons (pv 6) (pa_cons (pe_cal (c_law_turns T) (hr.mono (by decide)) (by rfl) (pa_cons (pv 5) (pa_cons (pv 7) pa_nil))) pa_nil))) (pa_cons (pe_calC (k_Isometry T) (hr.mono (by decide)) (by rfl) (pa_cons (pv 6) (pa_cons (pe_cal (c_law_turns T) (hr.mono (by decide)) (by rfl) (pa_cons (pv 5) (pa_cons (pv 8) pa_nil))) pa_nil))) pa_nil)) (by rfl)) (pss_cons (ps_par (i := 11) (j := 12) rfl nd rfl rfl (by decide) rfl rfl (pa_cons (pe_cal (c_law_class T) (hr.mono (by decide)) (by rfl) (pa_cons (pv 5) (pa_cons (pv 7) pa_nil))) (pa_cons (pe_cal (c_law_class T) (hr.mono (by decide)) (by rfl) (pa_cons (pv 5) (pa_cons (pv 8) pa_nil))) pa_nil)) (by rfl)) (pss_cons (ps_if (PW.pt (pw_or (pt_cmpR op_ne (pe_cal (c_spinor_norm T) (hr.mono (by decide)) (by rfl) (pa_cons (pv 9) pa_nil)) (pv 11) (nomark _)) (pw_or (pt_cmpR op_ne (pe_cal (c_spinor_norm T) (hr.mono (by decide)) (by rfl) (pa_cons (pv 10) pa_nil)) (pv 12) (nomark _)) (pw_or1 (pt_val (pe_callB (call_isiK1 K) (by rfl) T.isinstance (by decide +kernel) (pa_cons (pe_cal (c_spinor_norm T) (hr.mono (by decide)) (by rfl) (pa_cons (pv 9) pa_nil)) (pa_cons (pe_bltn (v := .ty "bool") (u := .type "bool") (by rfl) T.bool (by decide +kernel) rfl) pa_nil)))))))) (pss_one (ps_ret pe_bl)) pss_nil) (pss_cons (ps_if (PW.pt (pw_or (pt_cmpR op_ne (pe_cal (c_spinor_norm T) (hr.mono (by decide)) (by rfl) (pa_cons (pe_calM (pv 9) (m_Isometry_then T) (hr.mono (by decide)) (pa_cons (pv 10) pa_nil)) pa_nil)) (pe_op op_mul (pv 11) (pv 12)) (nomark _)) (pw_or1 (pt_cmpR op_ne (pe_cal (c_spinor_norm T) (hr.mono (by decide)) (by rfl) (pa_cons (pe_calM0 (pv 9) (m_Isometry_inverse T) (hr.mono (by decide))) pa_nil)) (pv 11) (nomark _))))) (pss_one (ps_ret pe_bl)) pss_nil) (pss_cons (ps_set (i := 13) nd rfl (Or.inl rfl) (pe_calM (pe_calM (pe_calM0 (pv 10) (m_Isometry_inverse T) (hr.mono (by decide))) (m_Isometry_then T) (hr.mono (by decide)) (pa_cons (pv 9) pa_nil)) (m_Isometry_then T) (hr.mono (by decide)) (pa_cons (pv 10) pa_nil))) (pss_one (ps_ret (pe_and (pe_cmpR op_eq (pe_cal (c_spinor_norm T) (hr.mono (by decide)) (by rfl) (pa_cons (pv 13) pa_nil)) (pv 11) (nomark _)) (pe_one (pe_cmpR op_eq (pe_cal (c_spinor_norm T) (hr.mono (by decide)) (by rfl) (pa_cons (pe_calC (k_Isometry T) (hr.mono (by decide)) (by rfl) (pa_cons (pv 6) (pa_cons (pe_cal (c_law_identity T) (hr.mono (by decide)) (by rfl) (pa_cons (pv 3) pa_nil)) pa_nil))) pa_nil)) pe_int (nomark _)))))))))))))))))), ?_⟩
    obtain ⟨l, ns, rfl, hl, q⟩ := h
    refine ⟨_, rfl, _, rfl, l, ns, rfl, hl, fun p H1 s1 st1 => ?_⟩
    refine ⟨(by decide : (6 : Nat) ≤ sizeLine), fun pl nl => ?_⟩
    have sl := upd_none (o := .lst [V.int 3, .int 3, .int 3, .int 5, .int 7, .int 9]) nl
    refine ⟨_, rfl, _, _, rfl, p, 6, rfl, rfl, st1.mono sl, by decide, by decide, fun r H3 b3 st3 hr => ?_⟩
    obtain ⟨k, ek⟩ := size_at hr
    refine ⟨_, _, _, _, rfl, rfl, lq' (b3 _ _ (st1.ne nl) upd_same), atI_nat ek, ?_⟩
    refine ⟨_, rfl, _, _, rfl, p, 7, rfl, rfl, st3, by decide, by decide, fun n H4 b4 st4 hn7 => ?_⟩
    have hn : n ≤ 6 := by omega
    refine ⟨_, rfl, _, rfl, k, rfl, fun vf H5 s5 hf => ?_⟩
    have st5 := st4.mono s5
    refine ⟨_, rfl, _, rfl, _, rfl, _, _, _, _, rfl, p, k, n, rfl, st5, rfl, hf, rfl, by omega, fun vs H6 A b6 st6 hS hG => ?_⟩
    have htri := hG.tri
    refine ⟨_, rfl, _, rfl, k, n, A, hS, htri, hn, fun vsp H7 s7 hP => ?_⟩
    have st7 := st6.mono s7
    have S7 := hS.mono s7
    refine ⟨_, rfl, _, rfl, _, _, _, rfl, p, k, n, A, 4, rfl, st7, S7, htri, rfl, by decide, by omega, fun vo H8 us b8 st8 h8 ne8 l8 => ?_⟩
    have k8 := st7.kt b8
    have S8 := S7.st st7 b8
    refine ⟨_, rfl, _, rfl, _, _, _, rfl, p, k, n, A, 4, rfl, st8, S8, htri, rfl, by decide, by omega, fun vt H9 vs' b9 st9 h9 ne9 l9 => ?_⟩
    have k9 := st8.kt b9
    have S9 := S8.st st8 b9
    have P9 := (hP.kt k8).kt k9
    have h8 := h8.kt k9
    refine ⟨_, _, rfl, ?_⟩
    refine ⟨_, rfl, _, rfl, _, rfl, _, _, rfl, k, n, A, us, S9, htri, h8, ne8, by omega, fun vm HA M sA hM hR => ?_⟩
    refine fun x1 d1 nx1 nd1 ne1 => mk_iso' nx1 nd1 ne1 (P9.mono sA) hM hR hn fun HB sB hI1 => ?_
    have sAB := sA.trans sB
    refine ⟨_, rfl, _, rfl, _, rfl, _, _, rfl, k, n, A, vs', S9.mono sAB, htri, h9.mono sAB, ne9, by omega, fun vm2 HC M2 sC hM2 hR2 => ?_⟩
    refine fun x2 d2 nx2 nd2 ne2 => mk_iso' nx2 nd2 ne2 (P9.mono (sAB.trans sC)) hM2 hR2 hn fun HD sD hI2 => ?_
    have I1 := hI1.mono (sC.trans sD)
    have sAD := (sAB.trans sC).trans sD
    refine ⟨_, _, rfl, ?_⟩
    refine ⟨_, rfl, _, rfl, _, _, rfl, k, n, A, us, S9.mono sAD, htri, h8.mono sAD, by omega, fun HE sE => ?_⟩
    refine ⟨_, rfl, _, rfl, _, _, rfl, k, n, A, vs', S9.mono (sAD.trans sE), htri, h9.mono (sAD.trans sE), by omega, fun HF sF => ?_⟩
    have sEF := sE.trans sF
    have I1 := I1.mono sEF
    have I2 := hI2.mono sEF
    have P1 := P9.mono (sAD.trans sEF)
    refine ⟨_, _, rfl, ?_⟩
    refine ⟨_, rfl, _, rfl, k, n, A, us, vsp, I1, hG, hn, fun HG sG => ⟨_, rfl, rfl, _, rfl, ?_⟩⟩
    rw [ne_same]
    refine iteF ⟨_, rfl, _, rfl, k, n, A, vs', vsp, I2.mono sG, hG, hn, fun HH sH => ⟨_, rfl, rfl, _, rfl, ?_⟩⟩
    rw [ne_same]
    have sGH := sG.trans sH
    refine iteF ⟨_, rfl, _, rfl, k, n, A, us, vsp, I1.mono sGH, hG, hn, fun HI sI => ⟨_, _, _, _, false, rfl, .ty _, .base (.int _), kit_ty (by decide +kernel), false, rfl, iteF ?_⟩⟩
    have sGI := sGH.trans sI
    have J1 := I1.mono sGI
    have J2 := I2.mono sGI
    have n1 : (QF.of n A).pq us ≠ 0 := (QF.of n A).pq_ne us ne8
    have n2 : (QF.of n A).pq vs' ≠ 0 := (QF.of n A).pq_ne vs' ne9
    have e12 : chi ((QF.of n A).pq (us ++ vs')) = chi ((QF.of n A).pq us) * chi ((QF.of n A).pq vs') := by
      rw [(QF.of n A).pq_append, chi_mul n1 n2]
    refine ⟨_, rfl, mI J1 (fun _ _ => is_no _ _) ⟨_, rfl, _, _, rfl, k, n, A, us, vs', vsp, J1, J2, hn, fun r1 HJ sJ hJ => ⟨_, rfl, k, n, A, _, vsp, hJ, hG, hn, fun HK sK => ⟨_, rfl, _, rfl, _, _, rfl, rfl, .inl (chi_64 _), rfl, _, rfl, ?_⟩⟩⟩⟩
    rw [e12, ne_same]
    have K1 := J1.mono (sJ.trans sK)
    have K2 := J2.mono (sJ.trans sK)
    refine iteF ⟨_, rfl, mI K1 (fun _ _ => is_no _ _) ⟨_, rfl, k, n, A, us, vsp, K1, hn, fun r2 HL sL hL => ⟨_, rfl, k, n, A, _, vsp, hL, hG, hn, fun HM sM => ⟨_, rfl, rfl, _, rfl, ?_⟩⟩⟩⟩
    rw [(QF.of n A).pq_rev, ne_same]
    have sLM := sL.trans sM
    have L1 := K1.mono sLM
    have L2' := K2.mono sLM
    refine iteF ?_
    refine ⟨_, rfl, mI L2' (fun _ _ => is_no _ _) ⟨_, rfl, k, n, A, vs', vsp, L2', hn, fun r3 HN sN hN => mI hN (fun _ _ => is_no _ _) ⟨_, rfl, _, _, rfl, k, n, A, _, us, vsp, hN, L1.mono sN, hn, fun r4 HO' sO hO => mI hO (fun _ _ => is_no _ _) ⟨_, rfl, _, _, rfl, k, n, A, _, vs', vsp, hO, L2'.mono (sN.trans sO), hn, fun r5 HP sP hP5 => ?_⟩⟩⟩⟩
    have e3 : chi ((QF.of n A).pq (vs'.reverse ++ us ++ vs')) = chi ((QF.of n A).pq us) := by
      rw [(QF.of n A).pq_append, (QF.of n A).pq_append, (QF.of n A).pq_rev]
      have n3 : (QF.of n A).pq vs' * (QF.of n A).pq us ≠ 0 := by
        have := (QF.of n A).pq_ne (vs' ++ us) fun u hu => (List.mem_append.mp hu).elim (ne9 u) (ne8 u)
        rwa [(QF.of n A).pq_append] at this
      rw [chi_mul n3 n2, chi_mul n2 n1]
      have := chi_sq (a := (QF.of n A).pq vs')
      rw [Int.mul_comm (chi _) (chi ((QF.of n A).pq us)), Int.mul_assoc, this, Int.mul_one]
    refine ⟨_, rfl, _, rfl, k, n, A, _, vsp, hP5, hG, hn, fun HQ sQ => ⟨_, rfl, rfl, true, ?_, iteT ?_⟩⟩
    · rw [e3, eq_same]
    have sAll := (((sGI.trans (sJ.trans sK)).trans sLM).trans (sN.trans sO)).trans (sP.trans sQ)
    refine ⟨_, rfl, _, rfl, _, rfl, k, n, rfl, by omega, fun vi HR sR hId => ?_⟩
    refine fun x3 d3 nx3 nd3 ne3 => mk_iso' nx3 nd3 ne3 (P1.mono (sAll.trans sR)) hId (RP.ident (QF.of n A)) hn fun HS sS hI3 => ?_
    refine ⟨_, rfl, k, n, A, [], vsp, hI3, hG, hn, fun HT sT => ⟨rfl, ?_⟩⟩
    have e4 : chi ((QF.of n A).pq ([] : List (Vc (El k) n))) = 1 := chi_one
    rw [e4, eq_same]
    exact q HT


end
end Wit

namespace Wit
open PySem PySem.Spec PyProof.Rows L2
theorem run (w : World) : HandSHeadRun.RunEq R (PySem.W.view R.prog [96]) hookW ob 30000 loose w := by
  intro os
  kernel_rfl
def spLaw (K : PySem.W.Frag) : Sp := fun vs H Q _ => ∃ (a : Addr) (ns : List Int), vs = [.ref a] ∧ SqL K H a (ns.map V.int) ∧ ns.length ≤ 63 ∧ ∀ H', Q (.bl true) H'
theorem facts {P : Program} {w : World} {K : PySem.W.Frag} {h : Heap} {mg : Str → Option Value} {f : Addr} (X : K.In h) (G : h.Ns mainGlobals mg) (hfa : mg ("law" : Str) = some (.ref f)) (c : SaysW K) :
    ∃ fd : FuncData, (∀ (s : Shared) (v : Value), BindsTo s fd ⟨[v], []⟩ [("_law_script", v)]) ∧ ∀ base : Heap, K.In base → base.Ns mainGlobals mg → FnOk P w K mg base CX0 40 f fd ["_law_script"] (spLaw K) := by
  have T : Tx K mg := Tx.mk' X G c
  obtain ⟨fd, F⟩ := T.says.2.def_ 67 (d := d_law) rfl
  have e0 : d_law.dvs K = [] := rfl
  have e1 : d_law.kws K = [] := rfl
  rw [e0, e1] at F
  have ef : f = He.fAd K d_law.at_ := by
    have z := T.g "law" (T.says.2.fact 67 rfl)
    rw [hfa] at z
    cases z
    rfl
  subst ef
  refine ⟨fd, fun s v => F.bindsA (ps := ["_law_script"]) (fun _ _ _ _ _ _ us hl => match us, hl with | [_], _ => rfl) s [v] rfl, fun base _ _ => FnOk.imp (FnOk.mono (F.ok (N := ["_law_script", "_law_state_here", "_law_q", "_law_n", "_law_f", "_law_s", "_law_space_here", "_law_one", "_law_two", "_law_first", "_law_second", "_law_a", "_law_b", "_law_carried"]) ⟨rfl, rfl, rfl, by decide +kernel, rfl, by decide +kernel, by decide +kernel⟩ len1
    fun cdv A outer s H vs Q E hr h => let ⟨t, h1, h2⟩ := law_body (P := P) (w := w) (base := base) T _ cdv A outer s H vs Q E hr h; ⟨t, PSs.nox h1, h2⟩) (by decide : 15 ≤ 40)) fun vs H Q E h => ?_⟩
  obtain ⟨a, ns, rfl, hs, _, q⟩ := h
  exact ⟨_, rfl, a, ns, rfl, hs, q⟩
end Wit
open PySem PySem.W PySem.Calls PyProof.Rows
theorem PySem.Challenge.cw_wittspaces_k53_whole_spinor_norms_holds : PySem.Challenge.rw_wittspaces_k53_whole_spinor_norms.Holds := by
  w_on; o_law
  refine HandSHeadRun.head_any (r := OpenLaw.row PySem.Challenge.rw_wittspaces_k53_whole_spinor_norms) (q := view (OpenLaw.row PySem.Challenge.rw_wittspaces_k53_whole_spinor_norms).prog [96]) (H := Wit.hookW) (ob := Wit.ob) (M := 30000) (loose := Wit.loose) (d := HandSHeadRun.topDef (OpenLaw.row PySem.Challenge.rw_wittspaces_k53_whole_spinor_norms).prog 96) (kwd := []) Wit.ob_eq
    (by kernel_rfl) (fun s => by kernel_rfl) Wit.run (by kernel_rfl) (by kernel_rfl) (by kernel_rfl) (by rfl) (by first | assumption | decide +kernel) (by decide +kernel) ⟨rfl, rfl, rfl, rfl, rfl, by decide +kernel⟩ ?hw ?hc
  case hw => w_witness2
  case hc =>
    refine L2.walk_ofE (l := PySem.Challenge.rw_wittspaces_k53_whole_spinor_norms) (n := 63) (k := 40) (x := "_law_script") (CX := L2.CX0) rfl (by decide) (by kernel_rfl) ⟨rfl, by decide, by decide⟩ ?F (fun _ _ _ _ z => z)
    intro w mg fa h Y G hmg0
    obtain ⟨K, KX, c⟩ := Y
    have hmg : mg ("law" : PySem.Str) = some (.ref fa) := by
      have e : (HandSHeadRun.topDef (OpenLaw.row PySem.Challenge.rw_wittspaces_k53_whole_spinor_norms).prog 96).name = ("law" : PySem.Str) := by kernel_rfl
      rw [← e]
      exact hmg0
    obtain ⟨fd, hb, hF⟩ := Wit.facts (P := (PySem.Challenge.rw_wittspaces_k53_whole_spinor_norms).prog) (w := w) KX G hmg c
    exact ⟨K, fd, Wit.spLaw K, KX, hb, fun H a ns hl _ hS => ⟨a, ns, rfl, hS, hl, fun _ => rfl⟩, hF⟩
