import PyProof.Rows.All
import Wide.All
import OpenK.AllK
import Wide.FinOn
import Lean
import PySem.Challenge.RW_sx_zbitworks_6
set_option Elab.async false
set_option maxRecDepth 100000
set_option rowWalk.seconds 0

namespace Mine
section
open PySem PySem.W PyProof.Rows
set_option maxHeartbeats 8000000
open_top hd for PySem.Challenge.rw_sx_zbitworks_6
end
end Mine

-- part M1
namespace Mine
section
abbrev B := BitVec 32

def sl (k : Nat) (y : B) : Nat → B
  | 0 => y
  | n + 1 => sl k y n ^^^ (y <<< ((n + 1) * k))
def sr (k : Nat) (y : B) : Nat → B
  | 0 => y
  | n + 1 => sr k y n ^^^ (y >>> ((n + 1) * k))

theorem sl_eq (k : Nat) (y : B) (n : Nat) : sl k y n ^^^ (sl k y n) <<< k = y ^^^ y <<< ((n + 1) * k) := by
  induction n with
  | zero => simp [sl]
  | succ n ih =>
    show (sl k y n ^^^ y <<< ((n + 1) * k)) ^^^ (sl k y n ^^^ y <<< ((n + 1) * k)) <<< k = _
    rw [BitVec.shiftLeft_xor_distrib, ← BitVec.shiftLeft_add]
    have e : (n + 1) * k + k = (n + 1 + 1) * k := by rw [Nat.add_mul (n + 1) 1 k, Nat.one_mul]
    rw [e]
    calc _ = (sl k y n ^^^ (sl k y n) <<< k) ^^^ (y <<< ((n + 1) * k) ^^^ y <<< ((n + 1 + 1) * k)) := by ac_rfl
      _ = (y ^^^ y <<< ((n + 1) * k)) ^^^ (y <<< ((n + 1) * k) ^^^ y <<< ((n + 1 + 1) * k)) := by rw [ih]
      _ = y ^^^ (y <<< ((n + 1) * k) ^^^ y <<< ((n + 1) * k)) ^^^ y <<< ((n + 1 + 1) * k) := by ac_rfl
      _ = _ := by simp
theorem sr_eq (k : Nat) (y : B) (n : Nat) : sr k y n ^^^ (sr k y n) >>> k = y ^^^ y >>> ((n + 1) * k) := by
  induction n with
  | zero => simp [sr]
  | succ n ih =>
    show (sr k y n ^^^ y >>> ((n + 1) * k)) ^^^ (sr k y n ^^^ y >>> ((n + 1) * k)) >>> k = _
    rw [BitVec.ushiftRight_xor_distrib, ← BitVec.shiftRight_add]
    have e : (n + 1) * k + k = (n + 1 + 1) * k := by rw [Nat.add_mul (n + 1) 1 k, Nat.one_mul]
    rw [e]
    calc _ = (sr k y n ^^^ (sr k y n) >>> k) ^^^ (y >>> ((n + 1) * k) ^^^ y >>> ((n + 1 + 1) * k)) := by ac_rfl
      _ = (y ^^^ y >>> ((n + 1) * k)) ^^^ (y >>> ((n + 1) * k) ^^^ y >>> ((n + 1 + 1) * k)) := by rw [ih]
      _ = y ^^^ (y >>> ((n + 1) * k) ^^^ y >>> ((n + 1) * k)) ^^^ y >>> ((n + 1 + 1) * k) := by ac_rfl
      _ = _ := by simp
theorem sl_inv (k : Nat) (x : B) (n : Nat) : sl k (x ^^^ x <<< k) n = x ^^^ x <<< ((n + 1) * k) := by
  induction n with
  | zero => simp [sl]
  | succ n ih =>
    show sl k (x ^^^ x <<< k) n ^^^ (x ^^^ x <<< k) <<< ((n + 1) * k) = _
    rw [ih, BitVec.shiftLeft_xor_distrib, ← BitVec.shiftLeft_add]
    have e : k + (n + 1) * k = (n + 1 + 1) * k := by rw [Nat.add_mul (n + 1) 1 k, Nat.one_mul, Nat.add_comm]
    rw [e]
    calc _ = x ^^^ (x <<< ((n + 1) * k) ^^^ x <<< ((n + 1) * k)) ^^^ x <<< ((n + 1 + 1) * k) := by ac_rfl
      _ = _ := by simp
theorem sr_inv (k : Nat) (x : B) (n : Nat) : sr k (x ^^^ x >>> k) n = x ^^^ x >>> ((n + 1) * k) := by
  induction n with
  | zero => simp [sr]
  | succ n ih =>
    show sr k (x ^^^ x >>> k) n ^^^ (x ^^^ x >>> k) >>> ((n + 1) * k) = _
    rw [ih, BitVec.ushiftRight_xor_distrib, ← BitVec.shiftRight_add]
    have e : k + (n + 1) * k = (n + 1 + 1) * k := by rw [Nat.add_mul (n + 1) 1 k, Nat.one_mul, Nat.add_comm]
    rw [e]
    calc _ = x ^^^ (x >>> ((n + 1) * k) ^^^ x >>> ((n + 1) * k)) ^^^ x >>> ((n + 1 + 1) * k) := by ac_rfl
      _ = _ := by simp

def uL (y : B) (k : Nat) : B := sl k y (31 / k)
def uR (y : B) (k : Nat) : B := sr k y (31 / k)

theorem far {k : Nat} (hk : 0 < k) : 32 ≤ (31 / k + 1) * k := by
  have h := Nat.div_add_mod 31 k
  have h2 := Nat.mod_lt 31 hk
  rw [Nat.add_mul, Nat.one_mul, Nat.mul_comm]
  omega
theorem uL_eq {k : Nat} (hk : 0 < k) (y : B) : uL y k ^^^ (uL y k) <<< k = y := by
  unfold uL
  rw [sl_eq, BitVec.shiftLeft_eq_zero (far hk)]
  simp
theorem uR_eq {k : Nat} (hk : 0 < k) (y : B) : uR y k ^^^ (uR y k) >>> k = y := by
  unfold uR
  rw [sr_eq, BitVec.ushiftRight_eq_zero (far hk)]
  simp
theorem uL_inv {k : Nat} (hk : 0 < k) (x : B) : uL (x ^^^ x <<< k) k = x := by
  unfold uL
  rw [sl_inv, BitVec.shiftLeft_eq_zero (far hk)]
  simp
theorem uR_inv {k : Nat} (hk : 0 < k) (x : B) : uR (x ^^^ x >>> k) k = x := by
  unfold uR
  rw [sr_inv, BitVec.ushiftRight_eq_zero (far hk)]
  simp

def s1 (x : B) : B := x ^^^ x <<< 13
def s2 (x : B) : B := x ^^^ x >>> 17
def s3 (x : B) : B := x ^^^ x <<< 5
def xs (x : B) : B := s3 (s2 (s1 x))
def xb (y : B) : B := uL (uR (uL y 5) 17) 13
theorem xb_xs (x : B) : xb (xs x) = x := by
  unfold xb xs s3
  rw [uL_inv (by decide)]
  unfold s2
  rw [uR_inv (by decide)]
  unfold s1
  rw [uL_inv (by decide)]
theorem xs_xb (y : B) : xs (xb y) = y := by
  unfold xb xs s1
  rw [uL_eq (by decide)]
  unfold s2
  rw [uR_eq (by decide)]
  unfold s3
  rw [uL_eq (by decide)]

-- bits as lists of ints
def bt (b : Bool) : Int := if b then 1 else 0
def bits (a : B) : List Int := (List.range 32).map fun i => bt (a.getLsbD i)
theorem bits_length (a : B) : (bits a).length = 32 := by simp [bits]
theorem bits_get (a : B) (i : Nat) (h : i < 32) : (bits a)[i]? = some (bt (a.getLsbD i)) := by
  simp [bits, h]
theorem bits_ext {l : List Int} {a : B} (hl : l.length = 32) (h : ∀ i, i < 32 → l[i]? = some (bt (a.getLsbD i))) : l = bits a := by
  apply List.ext_getElem?
  intro i
  by_cases hi : i < 32
  · rw [h i hi, bits_get a i hi]
  · rw [List.getElem?_eq_none (by omega), List.getElem?_eq_none (by rw [bits_length]; omega)]
theorem bt_xor (a b : Bool) : (bt a + bt b) % 2 = bt (a ^^ b) := by cases a <;> cases b <;> rfl
theorem bits_left (a : B) (k : Nat) (hk : k ≤ 32) : List.replicate k (0 : Int) ++ (bits a).take (32 - k) = bits (a <<< k) := by
  refine bits_ext (by simp [bits_length]; omega) fun i hi => ?_
  by_cases h : i < k
  · rw [List.getElem?_append_left (by simpa using h)]
    simp [h, bt]
  · rw [List.getElem?_append_right (by simpa using h), List.length_replicate, List.getElem?_take, if_pos (by omega), bits_get _ _ (by omega)]
    have e : (a <<< k).getLsbD i = a.getLsbD (i - k) := by simp only [BitVec.getLsbD_shiftLeft, hi, h, decide_true, decide_false, Bool.not_false, Bool.true_and]
    rw [e]
theorem bits_right (a : B) (k : Nat) (hk : k ≤ 32) : (bits a).drop k ++ List.replicate k (0 : Int) = bits (a >>> k) := by
  refine bits_ext (by simp [bits_length]; omega) fun i hi => ?_
  by_cases h : i < 32 - k
  · rw [List.getElem?_append_left (by simp [bits_length]; omega), List.getElem?_drop, bits_get _ _ (by omega)]
    simp
  · rw [List.getElem?_append_right (by simp [bits_length]; omega), List.length_drop, bits_length]
    have h2 : a.getLsbD (k + i) = false := BitVec.getLsbD_of_ge _ _ (by omega)
    rw [List.getElem?_replicate, if_pos (by omega)]
    simp [h2, bt]

-- the sum of the bits
def upTo (n : Nat) (a : Nat) : Int := ((List.range n).map fun i => bt (a.testBit i) * 2 ^ i).sum
theorem upTo_eq (a : Nat) (n : Nat) : upTo n a = ((a % 2 ^ n : Nat) : Int) := by
  induction n with
  | zero => simp [upTo, Nat.mod_one]
  | succ n ih =>
    have e : upTo (n + 1) a = upTo n a + bt (a.testBit n) * 2 ^ n := by
      unfold upTo
      rw [List.range_succ, List.map_append, List.sum_append]
      simp
    rw [e, ih, Nat.mod_pow_succ]
    have hb : (a / 2 ^ n) % 2 = (a.testBit n).toNat := (Nat.toNat_testBit a n).symm
    rw [hb]
    cases a.testBit n <;> simp [bt]
theorem bits_sum (a : B) : ((List.range 32).map fun i => bt (a.getLsbD i) * 2 ^ i).sum = (a.toNat : Int) := by
  have h := upTo_eq a.toNat 32
  have e : a.toNat % 2 ^ 32 = a.toNat := Nat.mod_eq_of_lt a.isLt
  rw [e] at h
  exact h
end
end Mine

-- part M2
namespace Mine
section
open PySem PyProof.Rows

theorem nat_xor_add (m : Nat) : ∀ n : Nat, (m ^^^ n) + 2 * (m &&& n) = m + n := by
  induction m using Nat.strongRecOn with
  | ind m ih =>
    intro n
    by_cases h0 : m = 0
    · subst h0; simp
    · have ih' := ih (m / 2) (by omega) (n / 2)
      rw [← Nat.xor_div_two, ← Nat.and_div_two] at ih'
      have o1 := @Nat.xor_mod_two_eq_one m n
      have a1 := @Nat.and_mod_two_eq_one m n
      omega
theorem xor_nat (a b : Nat) : Builtin.bitXor (a : Int) (b : Int) = ((a ^^^ b : Nat) : Int) := by
  unfold Builtin.bitXor
  rw [bitOr_and, bitAnd_pp (Int.natCast_nonneg a) (Int.natCast_nonneg b)]
  have h := nat_xor_add a b
  simp only [Int.toNat_natCast]
  omega
theorem and_nat (a b : Nat) : Builtin.bitAnd (a : Int) (b : Int) = ((a &&& b : Nat) : Int) := by
  rw [bitAnd_pp (Int.natCast_nonneg a) (Int.natCast_nonneg b)]
  simp only [Int.toNat_natCast]
theorem or_nat (a b : Nat) : Builtin.bitOr (a : Int) (b : Int) = ((a ||| b : Nat) : Int) := by
  rw [bitOr_and, and_nat]
  have h := nat_or_add_and a b
  omega

def ofB (a : B) : Int := (a.toNat : Int)
def toB (x : Int) : B := BitVec.ofInt 32 x
theorem ofB_lo (a : B) : 0 ≤ ofB a := Int.natCast_nonneg _
theorem ofB_hi (a : B) : ofB a < 4294967296 := by
  have h := a.isLt
  unfold ofB
  omega
theorem ofB_toB {x : Int} (h0 : 0 ≤ x) (h1 : x < 4294967296) : ofB (toB x) = x := by
  unfold ofB toB
  rw [BitVec.toNat_ofInt]
  have e : x % ((2 ^ 32 : Nat) : Int) = x := Int.emod_eq_of_lt h0 (by simpa using h1)
  rw [e]
  exact Int.toNat_of_nonneg h0
theorem toB_ofB (a : B) : toB (ofB a) = a := by
  unfold ofB toB
  apply BitVec.eq_of_toNat_eq
  rw [BitVec.toNat_ofInt]
  have h := a.isLt
  have e : ((a.toNat : Int) % ((2 ^ 32 : Nat) : Int)) = a.toNat := Int.emod_eq_of_lt (Int.natCast_nonneg _) (by exact_mod_cast h)
  rw [e]
  simp
theorem ofB_inj {a b : B} (h : ofB a = ofB b) : a = b := by rw [← toB_ofB a, h, toB_ofB]
theorem cast_pow (k : Nat) : ((2 ^ k : Nat) : Int) = (2 : Int) ^ k := by simp
theorem ofB_xor (a b : B) : Builtin.bitXor (ofB a) (ofB b) = ofB (a ^^^ b) := by
  unfold ofB
  rw [xor_nat, BitVec.toNat_xor]
theorem ofB_shl (a : B) (k : Nat) : Builtin.bitAnd (ofB a * 2 ^ k) 4294967295 = ofB (a <<< k) := by
  unfold ofB
  rw [← cast_pow, ← Int.natCast_mul]
  have h : Builtin.bitAnd ((a.toNat * 2 ^ k : Nat) : Int) ((2 ^ 32 - 1 : Nat) : Int) = _ := and_nat _ _
  rw [Nat.and_two_pow_sub_one_eq_mod] at h
  refine h.trans ?_
  rw [BitVec.toNat_shiftLeft, Nat.shiftLeft_eq]
theorem ofB_shr (a : B) (k : Nat) : (ofB a).fdiv (2 ^ k) = ofB (a >>> k) := by
  have hp : (0 : Int) ≤ 2 ^ k := by rw [← cast_pow]; exact Int.natCast_nonneg _
  rw [Int.fdiv_eq_ediv_of_nonneg _ hp]
  unfold ofB
  rw [← cast_pow, ← Int.natCast_ediv, BitVec.toNat_ushiftRight, Nat.shiftRight_eq_div_pow]
theorem ofB_mod (a : B) (k : Nat) : (ofB a * 2 ^ k).fmod 4294967296 = ofB (a <<< k) := by
  rw [Int.fmod_eq_emod_of_nonneg _ (by decide)]
  unfold ofB
  rw [← cast_pow, ← Int.natCast_mul, BitVec.toNat_shiftLeft, Nat.shiftLeft_eq, Int.natCast_emod]
  rfl
theorem ofB_bit (a : B) (i : Nat) (h : i < 32) : ((ofB a).fdiv (2 ^ i)).fmod 2 = bt (a.getLsbD i) := by
  rw [ofB_shr, Int.fmod_eq_emod_of_nonneg _ (by decide)]
  unfold ofB
  rw [BitVec.toNat_ushiftRight, Nat.shiftRight_eq_div_pow]
  have hb : (a.toNat / 2 ^ i) % 2 = (a.toNat.testBit i).toNat := (Nat.toNat_testBit a.toNat i).symm
  have e : a.getLsbD i = a.toNat.testBit i := rfl
  rw [e]
  have e2 : ((a.toNat / 2 ^ i : Nat) : Int) % 2 = ((a.toNat / 2 ^ i % 2 : Nat) : Int) := (Int.natCast_emod _ _).symm
  rw [e2, hb]
  cases a.toNat.testBit i <;> rfl

-- the project's functions, upon ints
def xsI (x : Int) : Int := ofB (xs (toB x))
def xbI (x : Int) : Int := ofB (xb (toB x))
def uLI (y k : Int) : Int := ofB (uL (toB y) k.toNat)
def uRI (y k : Int) : Int := ofB (uR (toB y) k.toNat)
theorem xsI_lo (x : Int) : 0 ≤ xsI x := ofB_lo _
theorem xsI_hi (x : Int) : xsI x < 4294967296 := ofB_hi _
theorem xbI_lo (x : Int) : 0 ≤ xbI x := ofB_lo _
theorem xbI_hi (x : Int) : xbI x < 4294967296 := ofB_hi _
theorem uLI_lo (x k : Int) : 0 ≤ uLI x k := ofB_lo _
theorem uLI_hi (x k : Int) : uLI x k < 4294967296 := ofB_hi _
theorem uRI_lo (x k : Int) : 0 ≤ uRI x k := ofB_lo _
theorem uRI_hi (x k : Int) : uRI x k < 4294967296 := ofB_hi _
theorem xbI_xsI {x : Int} (h0 : 0 ≤ x) (h1 : x < 4294967296) : xbI (xsI x) = x := by
  unfold xbI xsI
  rw [toB_ofB, xb_xs, ofB_toB h0 h1]
theorem xsI_xbI {x : Int} (h0 : 0 ≤ x) (h1 : x < 4294967296) : xsI (xbI x) = x := by
  unfold xbI xsI
  rw [toB_ofB, xs_xb, ofB_toB h0 h1]
theorem xbI_by (y : Int) : uLI (uRI (uLI y 5) 17) 13 = xbI y := by
  unfold uLI uRI xbI xb
  rw [toB_ofB, toB_ofB]
  rfl
theorem xsI_by {x : Int} (h0 : 0 ≤ x) (h1 : x < 4294967296) :
    Builtin.bitXor (Builtin.bitXor (Builtin.bitXor x (Builtin.bitAnd (x * 2 ^ 13) 4294967295)) ((Builtin.bitXor x (Builtin.bitAnd (x * 2 ^ 13) 4294967295)).fdiv (2 ^ 17)))
      (Builtin.bitAnd ((Builtin.bitXor (Builtin.bitXor x (Builtin.bitAnd (x * 2 ^ 13) 4294967295)) ((Builtin.bitXor x (Builtin.bitAnd (x * 2 ^ 13) 4294967295)).fdiv (2 ^ 17))) * 2 ^ 5) 4294967295) = xsI x := by
  have e := ofB_toB h0 h1
  unfold xsI
  generalize toB x = a at e ⊢
  subst e
  rw [ofB_shl, ofB_xor, ofB_shr, ofB_xor, ofB_shl, ofB_xor]
  rfl
theorem uLI_back {y k : Int} (h0 : 0 ≤ y) (h1 : y < 4294967296) (hk : 1 ≤ k) : Builtin.bitXor (uLI y k) ((uLI y k * 2 ^ k.toNat).fmod 4294967296) = y := by
  unfold uLI
  rw [ofB_mod, ofB_xor, uL_eq (by omega), ofB_toB h0 h1]
theorem uRI_back {y k : Int} (h0 : 0 ≤ y) (h1 : y < 4294967296) (hk : 1 ≤ k) : Builtin.bitXor (uRI y k) ((uRI y k).fdiv (2 ^ k.toNat)) = y := by
  unfold uRI
  rw [ofB_shr, ofB_xor, uR_eq (by omega), ofB_toB h0 h1]
end
end Mine

-- part M3
namespace Mine
section
open PySem PyProof.Rows

def codes : List Int := [0, 7, 25, 30, 42, 45, 51, 52, 75, 76, 82, 85, 97, 102, 120, 127]
def damages : List Int := [0, 1, 2, 4, 8, 16, 32, 64, 3, 96, 20, 127]

-- the syndrome, by its bits, one place after the other
def synTo (w : Int) : Nat → Int
  | 0 => 0
  | n + 1 => if (w / 2 ^ n) % 2 = 1 then Builtin.bitXor (synTo w n) ((n : Int) + 1) else synTo w n
def synI (w : Int) : Int := synTo (w % 128) 7
def decI (w : Int) : Int :=
  let v := if synI w > 0 then Builtin.bitXor w (2 ^ (synI w - 1).toNat) else w
  Builtin.bitOr (Builtin.bitAnd (v.fdiv (2 ^ 2)) 1) (Builtin.bitAnd (v.fdiv (2 ^ 3)) 14)
def onesI (n : Int) : Int := ((List.range 7).map fun i => (n.fdiv (2 ^ i)).fmod 2).sum
def nearStep (w : Int) (p : Int × List Int) (n : Int) : Int × List Int :=
  let far := onesI (Builtin.bitXor w (codes.getD n.toNat 0))
  if far < p.1 then (far, [n]) else if far = p.1 then (p.1, p.2 ++ [n]) else p
def nearTo (w : Int) : Nat → Int × List Int
  | 0 => (8, [])
  | n + 1 => nearStep w (nearTo w n) (n : Int)

theorem all128 {P : Int → Prop} (h : ∀ i : Fin 128, P (i.val : Int)) {w : Int} (h0 : 0 ≤ w) (h1 : w < 128) : P w := by
  have e := h ⟨w.toNat, by omega⟩
  have e2 : ((w.toNat : Nat) : Int) = w := Int.toNat_of_nonneg h0
  simpa [e2] using e
theorem syn_mod (w : Int) : synI (w % 128) = synI w := by
  unfold synI
  have e : w % 128 % 128 = w % 128 := by omega
  rw [e]
theorem near_eq : ∀ i : Fin 128, (nearTo (i.val : Int) 16).2 = [decI (i.val : Int)] := by decide +kernel
theorem syn_rng : ∀ i : Fin 128, 0 ≤ synI (i.val : Int) ∧ synI (i.val : Int) < 8 := by decide +kernel
theorem dec_rng : ∀ i : Fin 128, 0 ≤ decI (i.val : Int) ∧ decI (i.val : Int) < 16 := by decide +kernel
theorem named_eq : ∀ i : Fin 128, ((List.range 8).map (fun n : Nat => (n : Int))).filter (fun p => damages.getD p.toNat 0 = Builtin.bitXor (i.val : Int) (codes.getD (decI (i.val : Int)).toNat 0)) = [synI (i.val : Int)] := by decide +kernel
theorem kept_eq : ∀ n : Fin 16, ∀ p : Fin 8, decI (Builtin.bitXor (codes.getD n.val 0) (damages.getD p.val 0)) = (n.val : Int) ∧ synI (Builtin.bitXor (codes.getD n.val 0) (damages.getD p.val 0)) = (p.val : Int) := by decide +kernel
theorem enc_eq : ∀ n : Fin 16, (fun w : Int => Builtin.bitOr (Builtin.bitOr w (Builtin.bitAnd (synI w) 3)) (Builtin.bitAnd (synI w) 4 * 2 ^ 1)) (Builtin.bitOr (Builtin.bitAnd (n.val : Int) 1 * 2 ^ 2) (Builtin.bitAnd (n.val : Int) 14 * 2 ^ 3)) = codes.getD n.val 0 := by decide +kernel
theorem ones_hi : ∀ i : Fin 128, 0 ≤ onesI (i.val : Int) ∧ onesI (i.val : Int) ≤ 7 := by decide +kernel
-- brute force on small words
theorem only_right : ∀ s : Fin 64, ∀ k : Fin 7, ((List.range 64).map (fun n : Nat => (n : Int))).filter (fun c => Builtin.bitXor c (c.fdiv (2 ^ (k.val + 1))) = (s.val : Int)) = [uRI (s.val : Int) ((k.val : Int) + 1)] := by decide +kernel
theorem only_left : ∀ s : Fin 64, ∀ k : Fin 7, (((List.range 64).map (fun n : Nat => (n : Int))).filter (fun c => Builtin.bitXor c ((c * 2 ^ (k.val + 1)).fmod 64) = (s.val : Int))).map (fun c => c * 67108864) = [uLI ((s.val : Int) * 67108864) ((k.val : Int) + 1)] := by decide +kernel
end
end Mine

-- part M4
namespace Mine
section
open PySem PyProof.Rows

theorem xor_rng {a b : Int} (ha : 0 ≤ a) (ha' : a < 4294967296) (hb : 0 ≤ b) (hb' : b < 4294967296) : 0 ≤ Builtin.bitXor a b ∧ Builtin.bitXor a b < 4294967296 := by
  rw [← ofB_toB ha ha', ← ofB_toB hb hb', ofB_xor]
  exact ⟨ofB_lo _, ofB_hi _⟩
theorem xor_lo {a b : Int} (ha : 0 ≤ a) (hb : 0 ≤ b) : 0 ≤ Builtin.bitXor a b := by
  obtain ⟨x, rfl⟩ := Int.eq_ofNat_of_zero_le ha
  obtain ⟨y, rfl⟩ := Int.eq_ofNat_of_zero_le hb
  rw [xor_nat]
  exact Int.natCast_nonneg _
theorem xor_mod {q c d : Int} (hq : 0 ≤ q) (hc : q.fmod 128 = c) (hd : 0 ≤ d) (hd' : d < 128) : (Builtin.bitXor q d).fmod 128 = Builtin.bitXor c d := by
  obtain ⟨x, rfl⟩ := Int.eq_ofNat_of_zero_le hq
  obtain ⟨y, rfl⟩ := Int.eq_ofNat_of_zero_le hd
  rw [Int.fmod_eq_emod_of_nonneg _ (by decide)] at hc
  rw [xor_nat, Int.fmod_eq_emod_of_nonneg _ (by decide)]
  have e : ((x : Int) % 128) = ((x % 128 : Nat) : Int) := (Int.natCast_emod x 128).symm
  rw [e] at hc
  rw [← hc, xor_nat]
  have h : (x ^^^ y) % 2 ^ 7 = (x % 2 ^ 7) ^^^ (y % 2 ^ 7) := Nat.xor_mod_two_pow
  have hy : y % 2 ^ 7 = y := Nat.mod_eq_of_lt (by omega)
  rw [hy] at h
  exact_mod_cast congrArg (fun n : Nat => (n : Int)) h
theorem codes_rng : ∀ n : Fin 16, 0 ≤ codes.getD n.val 0 ∧ codes.getD n.val 0 < 128 := by decide
theorem damages_rng : ∀ n : Fin 12, 0 ≤ damages.getD n.val 0 ∧ damages.getD n.val 0 < 128 := by decide
theorem code_lo {n : Int} (h0 : 0 ≤ n) (h1 : n < 16) : 0 ≤ codes.getD n.toNat 0 := (codes_rng ⟨n.toNat, by omega⟩).1
theorem code_hi {n : Int} (h0 : 0 ≤ n) (h1 : n < 16) : codes.getD n.toNat 0 < 128 := (codes_rng ⟨n.toNat, by omega⟩).2
theorem dam_lo {n : Int} (h0 : 0 ≤ n) (h1 : n < 12) : 0 ≤ damages.getD n.toNat 0 := (damages_rng ⟨n.toNat, by omega⟩).1
theorem dam_hi {n : Int} (h0 : 0 ≤ n) (h1 : n < 12) : damages.getD n.toNat 0 < 128 := (damages_rng ⟨n.toNat, by omega⟩).2
theorem kept {q n p : Int} (hq : 0 ≤ q) (hn : 0 ≤ n) (hn' : n < 16) (hp : 0 ≤ p) (hp' : p < 8) (hc : q.fmod 128 = codes.getD n.toNat 0) :
    decI ((Builtin.bitXor q (damages.getD p.toNat 0)).fmod 128) = n ∧ synI ((Builtin.bitXor q (damages.getD p.toNat 0)).fmod 128) = p := by
  rw [xor_mod hq hc (dam_lo hp (by omega)) (dam_hi hp (by omega))]
  have h := kept_eq ⟨n.toNat, by omega⟩ ⟨p.toNat, by omega⟩
  have e1 : ((n.toNat : Nat) : Int) = n := Int.toNat_of_nonneg hn
  have e2 : ((p.toNat : Nat) : Int) = p := Int.toNat_of_nonneg hp
  simpa only [e1, e2] using h
theorem syn_fmod (w : Int) : synI (w.fmod 128) = synI w := by
  rw [Int.fmod_eq_emod_of_nonneg _ (by decide), syn_mod]
theorem near_w {w : Int} (h0 : 0 ≤ w) (h1 : w < 128) : (nearTo w 16).2 = [decI w] := all128 (P := fun w => (nearTo w 16).2 = [decI w]) near_eq h0 h1
theorem syn_w {w : Int} (h0 : 0 ≤ w) (h1 : w < 128) : 0 ≤ synI w ∧ synI w < 8 := all128 (P := fun w => 0 ≤ synI w ∧ synI w < 8) syn_rng h0 h1
theorem syn_all (w : Int) : 0 ≤ synI w ∧ synI w < 8 := by
  rw [← syn_mod]
  exact syn_w (by omega) (by omega)
theorem dec_w {w : Int} (h0 : 0 ≤ w) (h1 : w < 128) : 0 ≤ decI w ∧ decI w < 16 := all128 (P := fun w => 0 ≤ decI w ∧ decI w < 16) dec_rng h0 h1
theorem named_w {w : Int} (h0 : 0 ≤ w) (h1 : w < 128) : ((List.range 8).map (fun n : Nat => (n : Int))).filter (fun p => damages.getD p.toNat 0 = Builtin.bitXor w (codes.getD (decI w).toNat 0)) = [synI w] := all128 (P := fun w => ((List.range 8).map (fun n : Nat => (n : Int))).filter (fun p => damages.getD p.toNat 0 = Builtin.bitXor w (codes.getD (decI w).toNat 0)) = [synI w]) named_eq h0 h1
end
end Mine

-- part R1
namespace Mine
section
open PySem PySem.W PySem.Calls PyProof.Rows PyProof.V PySem.Spec
section
variable {prog : Program} {w : World} {A : Around} {E : Value → Shared → Prop} {s : Shared} {env : Env} {h₀ : Heap} {x : Str} {body : List Stmt} {Q : Flow → Shared → Prop}

/-- what a turn's end owes: the iterator stands in the ledger, and the new ledger is clear of it -/
def TEnd (h₀ : Heap) (L : Addr) (I : Addr) (oI : Obj) (J : (Str → Option Value) → List (Addr × Obj) → Prop) (s₁ s₂ : Shared) : Prop :=
  ∃ h' tk m' all nx, s₂ = { s₁ with heap := h', toks := tk } ∧ Fr h₀ L h' m' ∧ News h₀ L h' all ∧ (I, oI) ∈ all ∧ (∀ p ∈ nx, p ∈ all) ∧ (∀ p ∈ nx, p.1 ≠ I) ∧ J m' nx
def TPost (h₀ : Heap) (L : Addr) (I : Addr) (oI : Obj) (J : (Str → Option Value) → List (Addr × Obj) → Prop) (s₁ : Shared) (Q : Flow → Shared → Prop) (f : Flow) (s₂ : Shared) : Prop :=
  match f with
  | .ret v => Q (.ret v) s₂
  | .brk => Q .next s₂
  | _ => TEnd h₀ L I oI J s₁ s₂
theorem TEnd.intro {L I : Addr} {oI : Obj} {J : (Str → Option Value) → List (Addr × Obj) → Prop} {s₁ : Shared} {h' : Heap} {tk : Nat} {m' : Str → Option Value} {all : List (Addr × Obj)} (nx : List (Addr × Obj))
    (F : Fr h₀ L h' m') (N : News h₀ L h' all) (hi : (I, oI) ∈ all) (hs : ∀ p ∈ nx, p ∈ all) (ho : ∀ p ∈ nx, p.1 ≠ I) (hj : J m' nx) : TEnd h₀ L I oI J s₁ { s₁ with heap := h', toks := tk } :=
  ⟨h', tk, m', all, nx, rfl, F, N, hi, hs, ho, hj⟩

theorem range_inv {r : Addr} {a₀ b₀ c : Int} {t₀ u₀ v₀ : Tok} {n : Nat} {m₀ : Str → Option Value} {news : List (Addr × Obj)} (J : Nat → (Str → Option Value) → List (Addr × Obj) → Prop)
    (hh : A.handled = none) (hr : IsRange s.heap r a₀ b₀ c t₀ u₀ v₀) (hsmall : Builtin.Range.small a₀ b₀ c = true) (hn : Builtin.Range.rangeSize a₀ b₀ c = (n : Int)) (F : Fr h₀ env.locals s.heap m₀) (N : News h₀ env.locals s.heap news) (hj : J 0 m₀ news)
    (turn : ∀ (I : Addr) (oI : Obj), (∀ p ∈ news, p.1 < I) → ∀ (i : Nat) t m₁ news₁ h tk, i < n → (∀ p ∈ news₁, p.1 ≠ I) → J i m₁ news₁ → Fr h₀ env.locals h (fun y => if y = x then some (.int (a₀ + (i : Int) * c) t) else m₁ y) → News h₀ env.locals h ((I, oI) :: news₁) →
      wpAny (model prog w) A (execs body env) (TPost h₀ env.locals I oI (J (i + 1)) { s with heap := h, toks := tk } Q) E { s with heap := h, toks := tk })
    (done : ∀ m₁ news₁ h tk, J n m₁ news₁ → Fr h₀ env.locals h m₁ → News h₀ env.locals h news₁ → Q .next { s with heap := h, toks := tk }) :
    wpAny (model prog w) A (pyIter (.ref r)) (fun it s₂ => LoopAtV prog w A h₀ env x body Q E it s₂) E s := by
  refine wpAny_pyIter_range hr hsmall ?_
  have W : Walks prog w A s.heap.objs.size [s.heap.objs.size] [s.heap.objs.size] n (fun i v => i < n ∧ ∃ t, v = .int (a₀ + i * c) t)
      (fun i h => IsRangeIter h s.heap.objs.size (a₀ + (i : Nat) * c) ((n : Int) - (i : Nat)) c) := (Walks.range hh _ a₀ c n).bound
  have hnew := next_is_new F
  have hlow : ∀ p ∈ news, p.1 < s.heap.objs.size := fun p hp => Heap.lt_size (N p hp).1
  refine ⟨_, _, _, n, _, _, m₀, news, J, rfl, W, ?_, ?_, ?_, (by show IsRangeIter _ _ _ _ _; rw [hn]; simpa using Heap.get?_push_size _ rfl), F.push _, (fun p hp => ⟨Heap.get?_push_of_some _ (N p hp).1, (N p hp).2⟩), hj, ?_, ?_⟩
  · intro hm
    exact absurd F.ns.lt ((List.mem_singleton.mp hm) ▸ Nat.lt_irrefl _)
  · intro b hb
    rw [List.mem_singleton.mp hb]
    exact hnew
  · intro p hp hI
    exact absurd (Heap.lt_size (N p hp).1) ((List.mem_singleton.mp hI) ▸ Nat.lt_irrefl _)
  · rintro i v m₁ news₁ s₁ own ⟨hh', tk', rfl⟩ hin ⟨_, t, rfl⟩ hJ hoff hown hget hall hst F₁ N₁
    obtain ⟨oI, heI⟩ : ∃ o, hh'.get? s.heap.objs.size = some o := ⟨_, hst⟩
    have hmem : (s.heap.objs.size, oI) ∈ own := hall _ (List.mem_singleton.mpr rfl) hnew _ heI
    have hoff' : ∀ p ∈ news₁, p.1 ≠ s.heap.objs.size := fun p hp e => hoff p hp (List.mem_singleton.mpr e)
    have N₂ : News h₀ env.locals hh' ((s.heap.objs.size, oI) :: news₁) := fun p hp => by
      rcases List.mem_cons.mp hp with rfl | hp
      · exact N₁ _ (List.mem_append_left _ hmem)
      · exact N₁ _ (List.mem_append_right _ hp)
    refine wpAny_mono (turn _ oI hlow i t m₁ news₁ hh' tk' hin hoff' hJ F₁ N₂) (fun f s₂ p => ?_) fun _ _ e => e
    have fin : TEnd h₀ env.locals s.heap.objs.size oI (J (i + 1)) { s with heap := hh', toks := tk' } s₂ → LoopStepU h₀ env.locals [s.heap.objs.size] own (J (i + 1)) { s with heap := hh', toks := tk' } .next s₂ := by
      rintro ⟨h', tk, m', all, nx, e, F', N', hi, hs, ho, hj'⟩
      refine ⟨rfl, h', tk, m', nx, e, F', fun p hp => ?_, fun p hp hI => ho p hp (List.mem_singleton.mp hI), hj'⟩
      rcases List.mem_append.mp hp with hp | hp
      · have h1 : p.1 = s.heap.objs.size := List.mem_singleton.mp (hown p hp)
        have h2 : hh'.get? p.1 = some p.2 := hget p hp
        have h3 : p = (s.heap.objs.size, oI) := by
          rw [h1, heI] at h2
          exact Prod.ext h1 (Option.some.inj h2).symm
        rw [h3]; exact N' _ hi
      · exact N' p (hs p hp)
    cases f with
    | ret v => exact .ret p
    | brk => exact .brk p
    | next => exact .next (fin p)
    | cont => exact .cont (fin p)
  · rintro h' tk m' news' F' N' _ hJ
    exact done m' news' h' tk hJ F' N'

/-- a loop over a range that stores one int name -/
theorem range_acc {r : Addr} {a₀ b₀ c : Int} {t₀ u₀ v₀ : Tok} {n : Nat} {m₀ : Str → Option Value} {news : List (Addr × Obj)} {y : Str} {ty : Tok} (g : Nat → Int)
    (hh : A.handled = none) (hr : IsRange s.heap r a₀ b₀ c t₀ u₀ v₀) (hsmall : Builtin.Range.small a₀ b₀ c = true) (hn : Builtin.Range.rangeSize a₀ b₀ c = (n : Int)) (F : Fr h₀ env.locals s.heap m₀) (N : News h₀ env.locals s.heap news)
    (hy : m₀ y = some (.int (g 0) ty)) (hyx : y ≠ x)
    (turn : ∀ (I : Addr) (oI : Obj), (∀ p ∈ news, p.1 < I) → ∀ (i : Nat) t ta h tk, i < n → Fr h₀ env.locals h (fun z => if z = x then some (.int (a₀ + (i : Int) * c) t) else if z = y then some (.int (g i) ta) else m₀ z) → News h₀ env.locals h ((I, oI) :: news) →
      wpAny (model prog w) A (execs body env) (TPost h₀ env.locals I oI (fun m' nx => nx = news ∧ (∃ t', m' y = some (.int (g (i + 1)) t')) ∧ ∀ z, z ≠ x → z ≠ y → m' z = m₀ z) { s with heap := h, toks := tk } Q) E { s with heap := h, toks := tk })
    (done : ∀ (u : Str → Option Value) t h tk, Fr h₀ env.locals h (fun z => if z = x then u z else if z = y then some (.int (g n) t) else m₀ z) → News h₀ env.locals h news → Q .next { s with heap := h, toks := tk }) :
    wpAny (model prog w) A (pyIter (.ref r)) (fun it s₂ => LoopAtV prog w A h₀ env x body Q E it s₂) E s := by
  refine range_inv (fun i m nx => nx = news ∧ (∃ t, m y = some (.int (g i) t)) ∧ ∀ z, z ≠ x → z ≠ y → m z = m₀ z) hh hr hsmall hn F N ⟨rfl, ⟨ty, hy⟩, fun _ _ _ => rfl⟩ ?_ ?_
  · rintro I oI hI i t m₁ nx h tk hi _ ⟨rfl, ⟨ta, ha⟩, hm⟩ F₁ N₁
    have e : (fun z => if z = x then some (Value.int (a₀ + (i : Int) * c) t) else m₁ z) = fun z => if z = x then some (Value.int (a₀ + (i : Int) * c) t) else if z = y then some (Value.int (g i) ta) else m₀ z := by
      funext z
      by_cases h1 : z = x
      · simp [h1]
      · simp only [if_neg h1]
        by_cases h2 : z = y
        · subst h2; simp [ha]
        · simp only [if_neg h2]; exact hm z h1 h2
    rw [e] at F₁
    exact turn I oI hI i t ta h tk hi F₁ N₁
  · rintro m₁ nx h tk ⟨rfl, ⟨t, ha⟩, hm⟩ F₁ N₁
    refine done m₁ t h tk ?_ N₁
    have e : (fun z => if z = x then m₁ z else if z = y then some (Value.int (g n) t) else m₀ z) = m₁ := by
      funext z
      by_cases h1 : z = x
      · simp [h1]
      · simp only [if_neg h1]
        by_cases h2 : z = y
        · subst h2; simp [ha]
        · simp only [if_neg h2]; exact (hm z h1 h2).symm
    rw [e]; exact F₁
end
end
end Mine

-- part O1
namespace Mine
section
open PySem PyProof.Rows
section
variable {prog : Program} {w : World} {A : Around} {E : Value → Shared → Prop} {s : Shared} {a b : B} {n : Int} {t u : Tok} {Q : Value → Shared → Prop}

theorem natAbs_ofB (a : B) : (ofB a).natAbs < 2 ^ 64 := by
  have h0 := ofB_lo a
  have h1 := ofB_hi a
  omega
theorem bits_ofB (a : B) : Builtin.Int.intBits (ofB a) ≤ 64 := PySem.intBits_le_64 (by have := ofB_lo a; omega) (by have := ofB_hi a; omega)
theorem o_shl (hn : 0 ≤ n) (hn2 : n ≤ 1000000) (h : Q (.int (ofB a * 2 ^ n.toNat) s.toks) { s with toks := s.toks + 1 }) : wpAny (model prog w) A (binaryOp .LShift (.int (ofB a) t) (.int n u)) Q E s :=
  lshift_int_small hn hn2 (natAbs_ofB a) h
theorem o_shr (hn : 0 ≤ n) (h : Q (.int (ofB (a >>> n.toNat)) s.toks) { s with toks := s.toks + 1 }) : wpAny (model prog w) A (binaryOp .RShift (.int (ofB a) t) (.int n u)) Q E s :=
  rshift_int hn (by rw [ofB_shr]; exact h)
theorem o_mask {k : Nat} (h : Q (.int (ofB (a <<< k)) s.toks) { s with toks := s.toks + 1 }) : wpAny (model prog w) A (binaryOp .BitAnd (.int (ofB a * 2 ^ k) t) (.int 4294967295 u)) Q E s :=
  and_int (by rw [ofB_shl]; exact h)
theorem o_xor (h : Q (.int (ofB (a ^^^ b)) s.toks) { s with toks := s.toks + 1 }) : wpAny (model prog w) A (binaryOp .BitXor (.int (ofB a) t) (.int (ofB b) u)) Q E s :=
  xor_int (by rw [ofB_xor]; exact h)
theorem o_ixor (h : Q (.int (ofB (a ^^^ b)) s.toks) { s with toks := s.toks + 1 }) : wpAny (model prog w) A (inplaceOp .BitXor (.int (ofB a) t) (.int (ofB b) u)) Q E s :=
  ixor_int (by rw [ofB_xor]; exact h)
theorem o_mul {b : Int} (h : Q (.int (ofB a * b) s.toks) { s with toks := s.toks + 1 }) : wpAny (model prog w) A (binaryOp .Mult (.int (ofB a) t) (.int b u)) Q E s :=
  mul_int h (IntMulOk.of_left (bits_ofB a))
theorem log2_pow2 {k : Nat} (h : k < 9000) : ((2 : Int) ^ k).natAbs.log2 < 9000 := by
  have e : ((2 : Int) ^ k).natAbs = 2 ^ k := by rw [← cast_pow, Int.natAbs_natCast]
  rw [e]
  exact (Nat.log2_lt (Nat.ne_of_gt (Nat.two_pow_pos _))).mpr (Nat.pow_lt_pow_right (by decide) h)
theorem pow2_ne (k : Nat) : (2 : Int) ^ k ≠ 0 := by
  rw [← cast_pow]
  have := Nat.two_pow_pos k
  omega
theorem o_fdiv {k : Nat} (hk : k < 9000) (h : Q (.int (ofB (a >>> k)) s.toks) { s with toks := s.toks + 1 }) : wpAny (model prog w) A (binaryOp .FloorDiv (.int (ofB a) t) (.int (2 ^ k) u)) Q E s :=
  floordiv_int (pow2_ne k) (by rw [ofB_shr]; exact h) (Or.inl (PyProof.noPylong_of_log2 (log2_pow2 hk)))
theorem o_pow (hn : 0 ≤ n) (hn2 : n ≤ 1000000) (h : Q (.int (2 ^ n.toNat) s.toks) { s with toks := s.toks + 1 }) : wpAny (model prog w) A (binaryOp .Pow (.int 2 t) (.int n u)) Q E s :=
  pow_int_small hn hn2 (by decide) h
theorem o_mod {k : Nat} (h : Q (.int (ofB (a <<< k)) s.toks) { s with toks := s.toks + 1 }) : wpAny (model prog w) A (binaryOp .Mod (.int (ofB a * 2 ^ k) t) (.int 4294967296 u)) Q E s :=
  mod_int' (by decide) (by rw [ofB_mod]; exact h)
end
end
end Mine

-- part C1
namespace Mine
section
open PySem PySem.W PySem.Calls PyProof.Rows
set_option maxHeartbeats 8000000

abbrev Claim (w : World) (loose : List Str) (mean : ExcName → Option Value) (mg mb : Str → Option Value) (k : Nat) (f : Addr) (news : List (Addr × Obj)) (pre : Prop) (vs : List Value) (R : Tok → Value) : Prop :=
  ∀ (dp un : Nat) (gd : Option (List Code)) (cn : Str) (cs : Scope) (a : Addr) (ccd : Value) (cl : List (Str × Addr)) (outer : List Env) (A₀ : Around) (base h₀ : Heap) (L : Addr) (m : Str → Option Value) (s : Shared) (Q E : Value → Shared → Prop),
    Below A₀ base outer h₀ → Fr h₀ L s.heap m → (hd.heap_39 w.params).In h₀ → News h₀ L s.heap news → Top hd.view_39 loose mean mg mb h₀ → cs.kind = .function →
    pre → dp + k < recursionLimit → un + 8 * k < cLine → CbRet h₀ L m news s Q R →
      wpAny (model PySem.Challenge.rw_sx_zbitworks_6.row.prog w) (ktrTop dp un gd cn cs L a ccd cl outer) (call (.ref f) vs) Q E s

theorem use1 {w : World} {loose : List Str} {mean : ExcName → Option Value} {mg mb : Str → Option Value} {k : Nat} {f : Addr} {news : List (Addr × Obj)} {pre : Prop} {vs : List Value} {R : Tok → Value}
    {dp un : Nat} {gd : Option (List Code)} {cn : Str} {cs : Scope} {a : Addr} {ccd : Value} {cl : List (Str × Addr)} {outer : List Env} {A₀ : Around} {base h₀ : Heap} {L : Addr} {m : Str → Option Value} {s : Shared} {Q E : Value → Shared → Prop}
    (C : Claim w loose mean mg mb k f news pre vs R) (B : Below A₀ base outer h₀) (F : Fr h₀ L s.heap m) (X : (hd.heap_39 w.params).In h₀) (N : News h₀ L s.heap news) (T : Top hd.view_39 loose mean mg mb h₀) (hk : cs.kind = .function)
    (hp : pre) (hd' : dp + k < recursionLimit) (hu : un + 8 * k < cLine)
    (ret : ∀ (t : Tok) (h' : Heap) (tk' : Nat), Fr h₀ L h' m → News h₀ L h' news → Q (R t) { s with heap := h', toks := tk' }) :
    wpAny (model PySem.Challenge.rw_sx_zbitworks_6.row.prog w) (ktrTop dp un gd cn cs L a ccd cl outer) (call (.ref f) vs) Q E s :=
  C dp un gd cn cs a ccd cl outer A₀ base h₀ L m s Q E B F X N T hk hp hd' hu ret

variable {w : World} {loose : List Str} {mean : ExcName → Option Value} {mg mb : Str → Option Value}

theorem c_low_mask (news : List (Addr × Obj)) (t : Tok) : Claim w loose mean mg mb 3 35 news True [.int 32 t] (fun t => .int 4294967295 t) := by
  delta Claim
  w_top off
  k_fill
  intro dp un gd cn cs ad ccd cl outer A₀ base h₀ L m s Q E B0 F X N T hk hp hdp hu hret
  refine wpAny_call ?_
  k_dflt cell_enter
  k_steps
  all_goals cb_end hret

-- the lines of my own: 32-bit ints as words
local macro_rules | `(tactic| walk_at "binaryOp LShift int int") => `(tactic| (with_reducible refine o_shl ?q1 ?q2 ?_; (case q1 => first | omega | decide); (case q2 => first | omega | decide)))
local macro_rules | `(tactic| walk_at "binaryOp RShift int int") => `(tactic| (with_reducible refine o_shr ?q1 ?_; (case q1 => first | omega | decide)))
local macro_rules | `(tactic| walk_at "binaryOp BitAnd int int") => `(tactic| (with_reducible refine o_mask ?_))
local macro_rules | `(tactic| walk_at "binaryOp BitXor int int") => `(tactic| (with_reducible refine o_xor ?_))
local macro_rules | `(tactic| walk_at "inplaceOp BitXor int int") => `(tactic| (with_reducible refine o_ixor ?_))
local macro_rules | `(tactic| walk_at "mine ask") => `(tactic| (
  (case k1 => k_asm); (case k2 => k_asm); (case k3 => k_asm); (case k4 => k_asm); (case k5 => k_asm); (case kK => first | exact rfl | assumption); (case kd => ktr_room); (case ku => ktr_units)))
local macro_rules | `(tactic| walk_at "call ref") => `(tactic| (k_here; (with_reducible show wpAny _ _ (call (Value.ref 35) _) _ _ _); k_dflt (refine' use1 (c_low_mask _ _) ?k1 ?k2 ?k3 ?k4 ?k5 ?kK trivial ?kd ?ku ?_; walk_at "mine ask"); intro t9 h9 tk9 F9 N9; (try dsimp only); (try k_fold); walk_say "MINE low_mask"))

theorem c_xorshift (news : List (Addr × Obj)) (x : B) (t : Tok) : Claim w loose mean mg mb 6 42 news True [.int (ofB x) t] (fun t => .int (ofB (xs x)) t) := by
  delta Claim
  w_top off
  k_fill
  intro dp un gd cn cs ad ccd cl outer A₀ base h₀ L m s Q E B0 F X N T hk hp hdp hu hret
  refine wpAny_call ?_
  k_dflt cell_enter
  k_steps
  all_goals cb_end hret

theorem stepRange : ∀ k : Fin 31, Builtin.Range.small ((k.val : Int) + 1) 32 ((k.val : Int) + 1) = true ∧ Builtin.Range.rangeSize ((k.val : Int) + 1) 32 ((k.val : Int) + 1) = ((31 / (k.val + 1) : Nat) : Int) := by decide +kernel
theorem stepSmall {k : Int} (h0 : 1 ≤ k) (h1 : k ≤ 31) : Builtin.Range.small k 32 k = true := by
  have h := (stepRange ⟨(k - 1).toNat, by omega⟩).1
  have e : (((k - 1).toNat : Nat) : Int) + 1 = k := by omega
  simpa only [e] using h
theorem stepSize {k : Int} (h0 : 1 ≤ k) (h1 : k ≤ 31) : Builtin.Range.rangeSize k 32 k = ((31 / k.toNat : Nat) : Int) := by
  have h := (stepRange ⟨(k - 1).toNat, by omega⟩).2
  have e : (((k - 1).toNat : Nat) : Int) + 1 = k := by omega
  have e2 : (k - 1).toNat + 1 = k.toNat := by omega
  simpa only [e, e2] using h
theorem stepAt {k : Int} {i : Nat} (h0 : 1 ≤ k) (hi : i < 31 / k.toNat) : 0 ≤ (i : Int) * k ∧ k + (i : Int) * k ≤ 31 ∧ (k + (i : Int) * k).toNat = (i + 1) * k.toNat := by
  obtain ⟨n, rfl⟩ := Int.eq_ofNat_of_zero_le (show 0 ≤ k by omega)
  simp only [Int.toNat_natCast] at hi ⊢
  have h : (i + 1) * n ≤ 31 := by
    have h1 : (i + 1) * n ≤ (31 / n) * n := Nat.mul_le_mul_right n hi
    have h2 := Nat.div_mul_le_self 31 n
    omega
  have e : ((i * n : Nat) : Int) = (i : Int) * (n : Int) := Int.natCast_mul i n
  have e2 : (i + 1) * n = i * n + n := by rw [Nat.add_mul, Nat.one_mul]
  omega

local macro_rules | `(tactic| walk_at "TPost") => `(tactic| (dsimp only [TPost]))
theorem c_undo_left (news : List (Addr × Obj)) (y : B) (t : Tok) (k : Int) (u : Tok) : Claim w loose mean mg mb 6 49 news (1 ≤ k ∧ k ≤ 31) [.int (ofB y) t, .int k u] (fun t => .int (ofB (uL y k.toNat)) t) := by
  delta Claim
  w_top off
  k_fill
  intro dp un gd cn cs ad ccd cl outer A₀ base h₀ L m s Q E B0 F X N T hk hp hdp hu hret
  obtain ⟨hp0, hp1⟩ := hp
  refine wpAny_call ?_
  k_dflt cell_enter
  k_steps
  (rename Fr _ _ _ _ => lF'); (rename News _ _ _ _ => lN'); (rename IsRange _ _ _ _ _ _ _ _ => rgX)
  with_unfolding_all refine' range_acc (y := Str.ofString "x") (fun i => ofB (sl k.toNat y i)) (by rfl) rgX (stepSmall hp0 hp1) (stepSize hp0 hp1) lF' lN' (by rfl) (by decide) (fun I' oI' hI' i' t' ta' h' tk' hi' F' N' => ?_) (fun u' t' h' tk' F' N' => ?_)
  all_goals clear lF' lN'
  all_goals (try k_fold)
  · obtain ⟨hb0, hb1, hb2⟩ := stepAt hp0 hi'
    have hb3 : sl k.toNat y (i' + 1) = sl k.toNat y i' ^^^ y <<< (k + (i' : Int) * k).toNat := by rw [hb2]; rfl
    k_steps
    refine' TEnd.intro news (by assumption) (by assumption) (by k_memK) (fun p hp => List.mem_cons_of_mem _ hp) (fun p hp => Nat.ne_of_lt (hI' p hp)) ⟨rfl, ⟨?tt, ?vv⟩, ?ss⟩
    case vv => (rw [hb3]; with_unfolding_all rfl)
    case ss => k_same2
  · k_steps
    all_goals cb_end hret
theorem c_undo_right (news : List (Addr × Obj)) (y : B) (t : Tok) (k : Int) (u : Tok) : Claim w loose mean mg mb 6 56 news (1 ≤ k ∧ k ≤ 31) [.int (ofB y) t, .int k u] (fun t => .int (ofB (uR y k.toNat)) t) := by
  delta Claim
  w_top off
  k_fill
  intro dp un gd cn cs ad ccd cl outer A₀ base h₀ L m s Q E B0 F X N T hk hp hdp hu hret
  obtain ⟨hp0, hp1⟩ := hp
  refine wpAny_call ?_
  k_dflt cell_enter
  k_steps
  (rename Fr _ _ _ _ => lF'); (rename News _ _ _ _ => lN'); (rename IsRange _ _ _ _ _ _ _ _ => rgX)
  with_unfolding_all refine' range_acc (y := Str.ofString "x") (fun i => ofB (sr k.toNat y i)) (by rfl) rgX (stepSmall hp0 hp1) (stepSize hp0 hp1) lF' lN' (by rfl) (by decide) (fun I' oI' hI' i' t' ta' h' tk' hi' F' N' => ?_) (fun u' t' h' tk' F' N' => ?_)
  all_goals clear lF' lN'
  all_goals (try k_fold)
  · obtain ⟨hb0, hb1, hb2⟩ := stepAt hp0 hi'
    have hb3 : sr k.toNat y (i' + 1) = sr k.toNat y i' ^^^ y >>> (k + (i' : Int) * k).toNat := by rw [hb2]; rfl
    k_steps
    refine' TEnd.intro news (by assumption) (by assumption) (by k_memK) (fun p hp => List.mem_cons_of_mem _ hp) (fun p hp => Nat.ne_of_lt (hI' p hp)) ⟨rfl, ⟨?tt, ?vv⟩, ?ss⟩
    case vv => (rw [hb3]; with_unfolding_all rfl)
    case ss => k_same2
  · k_steps
    all_goals cb_end hret

local macro_rules | `(tactic| walk_at "call ref") => `(tactic| (k_here; (with_reducible show wpAny _ _ (call (Value.ref 49) _) _ _ _); k_dflt (refine' use1 (c_undo_left _ _ _ _ _) ?k1 ?k2 ?k3 ?k4 ?k5 ?kK ?kp ?kd ?ku ?_; (case kp => first | decide | (refine ⟨?_, ?_⟩ <;> omega)); walk_at "mine ask"); intro t9 h9 tk9 F9 N9; (try dsimp only); (try k_fold); walk_say "MINE undo_left"))
local macro_rules | `(tactic| walk_at "call ref") => `(tactic| (k_here; (with_reducible show wpAny _ _ (call (Value.ref 56) _) _ _ _); k_dflt (refine' use1 (c_undo_right _ _ _ _ _) ?k1 ?k2 ?k3 ?k4 ?k5 ?kK ?kp ?kd ?ku ?_; (case kp => first | decide | (refine ⟨?_, ?_⟩ <;> omega)); walk_at "mine ask"); intro t9 h9 tk9 F9 N9; (try dsimp only); (try k_fold); walk_say "MINE undo_right"))
theorem c_xorshift_back (news : List (Addr × Obj)) (y : B) (t : Tok) : Claim w loose mean mg mb 9 63 news True [.int (ofB y) t] (fun t => .int (ofB (xb y)) t) := by
  delta Claim
  w_top off
  k_fill
  intro dp un gd cn cs ad ccd cl outer A₀ base h₀ L m s Q E B0 F X N T hk hp hdp hu hret
  refine wpAny_call ?_
  k_dflt cell_enter
  k_steps
  all_goals cb_end hret
end
end Mine

-- part C2
namespace Mine
section
open PySem PySem.W PySem.Calls PyProof.Rows
set_option maxHeartbeats 8000000
variable {w : World} {loose : List Str} {mean : ExcName → Option Value} {mg mb : Str → Option Value}

theorem syn_bit (w : Int) : ∀ i : Nat, i < 7 → w / 2 ^ i % 2 = (w % 128) / 2 ^ i % 2 := by
  intro i hi
  have h : i = 0 ∨ i = 1 ∨ i = 2 ∨ i = 3 ∨ i = 4 ∨ i = 5 ∨ i = 6 := by omega
  rcases h with rfl | rfl | rfl | rfl | rfl | rfl | rfl <;> simp only [Int.reducePow] <;> omega
theorem syn_step (w : Int) (i : Nat) (hi : i < 7) :
    synTo (w % 128) (i + 1) = if Builtin.bitAnd (w.fdiv (2 ^ (1 + (i : Int) * 1 - 1).toNat)) 1 = 1 then Builtin.bitXor (synTo (w % 128) i) (1 + (i : Int) * 1) else synTo (w % 128) i := by
  have e1 : (1 + (i : Int) * 1 - 1).toNat = i := by omega
  have e2 : 1 + (i : Int) * 1 = (i : Int) + 1 := by omega
  have hp : (0 : Int) ≤ 2 ^ i := by rw [← cast_pow]; exact Int.natCast_nonneg _
  rw [e1, e2, bitAnd_m1, Int.fdiv_eq_ediv_of_nonneg _ hp, syn_bit w i hi]
  rfl
theorem and_le (a : Int) {b : Int} (hb : 0 ≤ b) : 0 ≤ Builtin.bitAnd a b ∧ Builtin.bitAnd a b ≤ b := by
  by_cases ha : 0 ≤ a
  · rw [bitAnd_pp ha hb]
    have h := @Nat.and_le_right a.toNat b.toNat
    omega
  · rw [bitAnd_np ha hb]
    have h := @Nat.and_le_left b.toNat (Builtin.bitNot a).toNat
    omega

def Halt (P : Prop) : Prop := P
theorem halt {P : Prop} (h : Halt P) : P := h
theorem go_on {P : Prop} (h : P) : Halt P := h
local macro_rules | `(tactic| walk_at "TPost") => `(tactic| (dsimp only [TPost]))
local macro_rules | `(tactic| walk_at "exec For Name Call cons nil") => `(tactic| (k_here; (rename Fr _ _ _ _ => lF'); (with_unfolding_all refine' For_invVF lF' ?k1 ?k2 ?_; (case k1 => exact rfl); (case k2 => exact rfl); k_whole)))
local macro_rules | `(tactic| walk_at "pyIter ref") => `(tactic| ((with_reducible show wpAny _ _ (pyIter (Value.ref _)) (fun it s₂ => LoopAtV _ _ _ _ _ _ _ _ _ it s₂) _ _); refine halt ?_))
local macro_rules | `(tactic| walk_at "mine ask") => `(tactic| (
  (case k1 => k_asm); (case k2 => k_asm); (case k3 => k_asm); (case k4 => k_asm); (case k5 => k_asm); (case kK => first | exact rfl | assumption); (case kd => ktr_room); (case ku => ktr_units)))
theorem c_bit_at (news : List (Addr × Obj)) (n : Int) (t : Tok) (i : Int) (u : Tok) : Claim w loose mean mg mb 3 21 news (0 ≤ i) [.int n t, .int i u] (fun t => .int (Builtin.bitAnd (n.fdiv (2 ^ i.toNat)) 1) t) := by
  delta Claim
  w_top off
  k_fill
  intro dp un gd cn cs ad ccd cl outer A₀ base h₀ L m s Q E B0 F X N T hk hp hdp hu hret
  refine wpAny_call ?_
  k_dflt cell_enter
  k_steps
  all_goals cb_end hret
theorem c_flipped (news : List (Addr × Obj)) (n : Int) (t : Tok) (i : Int) (u : Tok) : Claim w loose mean mg mb 3 28 news (0 ≤ i ∧ i ≤ 1000) [.int n t, .int i u] (fun t => .int (Builtin.bitXor n (1 * 2 ^ i.toNat)) t) := by
  delta Claim
  w_top off
  k_fill
  intro dp un gd cn cs ad ccd cl outer A₀ base h₀ L m s Q E B0 F X N T hk hp hdp hu hret
  obtain ⟨hp0, hp1⟩ := hp
  refine wpAny_call ?_
  k_dflt cell_enter
  k_steps
  all_goals cb_end hret
local macro_rules | `(tactic| walk_at "call ref") => `(tactic| (k_here; (with_reducible show wpAny _ _ (call (Value.ref 21) _) _ _ _); k_dflt (refine' use1 (c_bit_at _ _ _ _ _) ?k1 ?k2 ?k3 ?k4 ?k5 ?kK ?kp ?kd ?ku ?_; (case kp => first | decide | omega); walk_at "mine ask"); intro t9 h9 tk9 F9 N9; (try dsimp only); (try k_fold); walk_say "MINE bit_at"))
local macro_rules | `(tactic| walk_at "call ref") => `(tactic| (k_here; (with_reducible show wpAny _ _ (call (Value.ref 28) _) _ _ _); k_dflt (refine' use1 (c_flipped _ _ _ _ _) ?k1 ?k2 ?k3 ?k4 ?k5 ?kK ?kp ?kd ?ku ?_; (case kp => first | decide | (refine ⟨?_, ?_⟩ <;> omega)); walk_at "mine ask"); intro t9 h9 tk9 F9 N9; (try dsimp only); (try k_fold); walk_say "MINE flipped"))
theorem c_syndrome (news : List (Addr × Obj)) (x : Int) (t : Tok) : Claim w loose mean mg mb 6 70 news True [.int x t] (fun t => .int (synI x) t) := by
  delta Claim
  w_top off
  k_fill
  intro dp un gd cn cs ad ccd cl outer A₀ base h₀ L m s Q E B0 F X N T hk hp hdp hu hret
  refine wpAny_call ?_
  k_dflt cell_enter
  k_steps
  refine go_on ?_
  (rename Fr _ _ _ _ => lF'); (rename News _ _ _ _ => lN'); (rename IsRange _ _ _ _ _ _ _ _ => rgX)
  with_unfolding_all refine' range_acc (n := 7) (y := Str.ofString "syndrome") (fun i => synTo (x % 128) i) (by rfl) rgX (by decide) (by decide) lF' lN' (by rfl) (by decide) (fun I' oI' hI' i' t' ta' h' tk' hi' F' N' => ?_) (fun u' t' h' tk' F' N' => ?_)
  all_goals clear lF' lN'
  all_goals (try k_fold)
  · have hb3 := syn_step x i' hi'
    k_steps
    · rw [if_pos (by assumption)] at hb3
      refine' TEnd.intro news (by assumption) (by assumption) (by k_memK) (fun p hp => List.mem_cons_of_mem _ hp) (fun p hp => Nat.ne_of_lt (hI' p hp)) ⟨rfl, ⟨?tt, ?vv⟩, ?ss⟩
      case vv => (rw [hb3]; with_unfolding_all rfl)
      case ss => k_same2
    · rw [if_neg (by assumption)] at hb3
      refine' TEnd.intro news (by assumption) (by assumption) (by k_memK) (fun p hp => List.mem_cons_of_mem _ hp) (fun p hp => Nat.ne_of_lt (hI' p hp)) ⟨rfl, ⟨?tt2, ?vv2⟩, ?ss2⟩
      case vv2 => (rw [hb3]; with_unfolding_all rfl)
      case ss2 => k_same2
  · k_steps
    all_goals cb_end hret
local macro_rules | `(tactic| walk_at "call ref") => `(tactic| (k_here; (with_reducible show wpAny _ _ (call (Value.ref 70) _) _ _ _); k_dflt (refine' use1 (c_syndrome _ _ _) ?k1 ?k2 ?k3 ?k4 ?k5 ?kK trivial ?kd ?ku ?_; walk_at "mine ask"); intro t9 h9 tk9 F9 N9; (try dsimp only); (try k_fold); walk_say "MINE syndrome"))
section
variable {prog : Program} {A : Around} {E : Value → Shared → Prop} {s : Shared} {a b n : Int} {t u : Tok} {Q : Value → Shared → Prop}
theorem o_shlAnd (hb : 0 ≤ b) (hb2 : b < 2 ^ 63) (hn : 0 ≤ n) (hn2 : n ≤ 1000000) (h : Q (.int (Builtin.bitAnd a b * 2 ^ n.toNat) s.toks) { s with toks := s.toks + 1 }) : wpAny (model prog w) A (binaryOp .LShift (.int (Builtin.bitAnd a b) t) (.int n u)) Q E s :=
  lshift_int_small hn hn2 (by have := and_le a hb; omega) h
end
local macro_rules | `(tactic| walk_at "binaryOp LShift int int") => `(tactic| (with_reducible refine o_shlAnd (by decide) (by decide) (by decide) (by decide) ?_))
theorem c_encode (news : List (Addr × Obj)) (n : Int) (t : Tok) : Claim w loose mean mg mb 9 77 news (0 ≤ n ∧ n < 16) [.int n t] (fun t => .int (codes.getD n.toNat 0) t) := by
  delta Claim
  w_top off
  k_fill
  intro dp un gd cn cs ad ccd cl outer A₀ base h₀ L m s Q E B0 F X N T hk hp hdp hu hret
  obtain ⟨hp0, hp1⟩ := hp
  have hend : _ = codes.getD n.toNat 0 := enc_eq ⟨n.toNat, by omega⟩
  rw [show (((⟨n.toNat, by omega⟩ : Fin 16).val : Nat) : Int) = n from Int.toNat_of_nonneg hp0] at hend
  refine wpAny_call ?_
  k_dflt cell_enter
  k_steps
  k_with "tree" => exact hend
  all_goals cb_end hret
  k_with_none

abbrev tup2 (r1 r2 : Int) (t1 t2 : Tok) (c : Nat) : Obj := { cls := .type "tuple", data := .seq #[.int r1 t1, .int r2 t2] c }
theorem dec_pos {x : Int} (h : synI x > 0) : Builtin.bitOr (Builtin.bitAnd ((Builtin.bitXor x (1 * 2 ^ (synI x - 1).toNat)).fdiv (2 ^ (2 : Int).toNat)) 1) (Builtin.bitAnd ((Builtin.bitXor x (1 * 2 ^ (synI x - 1).toNat)).fdiv (2 ^ (3 : Int).toNat)) 14) = decI x := by
  unfold decI
  rw [if_pos h, Int.one_mul]
  rfl
theorem dec_zero {x : Int} (h : ¬ synI x > 0) : Builtin.bitOr (Builtin.bitAnd (x.fdiv (2 ^ (2 : Int).toNat)) 1) (Builtin.bitAnd (x.fdiv (2 ^ (3 : Int).toNat)) 14) = decI x := by
  unfold decI
  rw [if_neg h]
  rfl
theorem c_decode (news : List (Addr × Obj)) (x : Int) (t : Tok) :
  ∀ (dp un : Nat) (gd : Option (List Code)) (cn : Str) (cs : Scope) (a : Addr) (ccd : Value) (cl : List (Str × Addr)) (outer : List Env) (A₀ : Around) (base h₀ : Heap) (L : Addr) (m : Str → Option Value) (s : Shared) (Q E : Value → Shared → Prop),
    Below A₀ base outer h₀ → Fr h₀ L s.heap m → (hd.heap_39 w.params).In h₀ → News h₀ L s.heap news → Top hd.view_39 loose mean mg mb h₀ → cs.kind = .function →
    dp + 9 < recursionLimit → un + 8 * 9 < cLine →
    (∀ (D : Addr) (t1 t2 : Tok) (c : Nat) (h' : Heap) (tk' : Nat), Fr h₀ L h' m → News h₀ L h' ((D, tup2 (decI x) (synI x) t1 t2 c) :: news) → (∀ p ∈ news, p.1 < D) → Q (.ref D) { s with heap := h', toks := tk' }) →
      wpAny (model PySem.Challenge.rw_sx_zbitworks_6.row.prog w) (ktrTop dp un gd cn cs L a ccd cl outer) (call (.ref 84) [.int x t]) Q E s := by
  w_top off
  k_fill
  intro dp un gd cn cs ad ccd cl outer A₀ base h₀ L m s Q E B0 F X N T hk hdp hu hret
  have hsy := syn_all x
  obtain ⟨hs0, hs1⟩ := hsy
  refine wpAny_call ?_
  k_dflt cell_enter
  k_steps
  · (rename News h₀ L _ _ => kN'); rw [dec_pos (by omega)] at kN'
    exact hret _ _ _ _ _ _ (by assumption) kN' (by assumption)
  · (rename News h₀ L _ _ => kN'); rw [dec_zero (by omega)] at kN'
    exact hret _ _ _ _ _ _ (by assumption) kN' (by assumption)
end
end Mine

-- part C3
namespace Mine
section
open PySem PySem.W PySem.Calls PyProof.Rows
set_option maxHeartbeats 8000000
variable {w : World} {loose : List Str} {mean : ExcName → Option Value} {mg mb : Str → Option Value}

local macro_rules | `(tactic| walk_at "mine ask") => `(tactic| (
  (case k1 => k_asm); (case k2 => k_asm); (case k3 => k_asm); (case k4 => k_asm); (case k5 => k_asm); (case kK => first | exact rfl | assumption); (case kd => ktr_room); (case ku => ktr_units)))
local macro_rules | `(tactic| walk_at "mine cells") => `(tactic| (refine' code_defC ?k1 ?k2 ?k3 ?k4 ?k5 ?kA ?kF ?kK ?k6 ?k7 ?k8 ?k9 ?kB ?kD ?_ ?c2 ?c3 ?c4; (case kA => exact rfl); (case kF => exact rfl); (case kK => assumption); (case k1 => k_asm); (case k2 => k_asm); (case k3 => k_asm); (case k4 => k_asm); (case k5 => k_asm); (case k6 => k_is); (case k7 => k_is); (case k8 => ktr_room); (case k9 => exact BindsTo.of_eq rfl); (case kB => exact rfl); (case kD => decide +kernel); (case c2 => exact rfl); (case c3 => exact rfl); (case c4 => exact rfl); k_whole; intro g' L' h' tk' cells' FG' F' N' Y' B' X' T' l1; (try k_lt l1); k_cells Y'; (try simp only [List.cons_append, List.nil_append] at N'); (try dsimp only); (try k_lift B'); (try k_fold)))

theorem c_same (news : List (Addr × Obj)) (a : Int) (t : Tok) (b : Int) (u : Tok) : Claim w loose mean mg mb 3 93 news (a = b) [.int a t, .int b u] (fun _ => .bool true) := by
  delta Claim
  w_top off
  k_fill
  intro dp un gd cn cs ad ccd cl outer A₀ base h₀ L m s Q E B0 F X N T hk hp hdp hu hret
  refine wpAny_call ?_
  k_dflt cell_enter
  k_steps
  all_goals cb_end hret
theorem c_is_state (news : List (Addr × Obj)) (a : Int) (t : Tok) : Claim w loose mean mg mb 3 100 news (0 ≤ a ∧ a < 4294967296) [.int a t] (fun _ => .bool true) := by
  delta Claim
  w_top off
  k_fill
  intro dp un gd cn cs ad ccd cl outer A₀ base h₀ L m s Q E B0 F X N T hk hp hdp hu hret
  obtain ⟨hp0, hp1⟩ := hp
  refine wpAny_call ?_
  k_dflt cell_enter
  k_steps
  all_goals cb_end hret
theorem c_ones (news : List (Addr × Obj)) (n : Int) (t : Tok) : Claim w loose mean mg mb 3 122 news True [.int n t] (fun t => .int (onesI n) t) := by
  delta Claim
  w_top off
  k_fill
  intro dp un gd cn cs ad ccd cl outer A₀ base h₀ L m s Q E B0 F X N T hk hp hdp hu hret
  refine wpAny_call ?_
  k_dflt walk_at "mine cells"
  k_steps
  all_goals cb_end hret
end
end Mine

-- part C4
namespace Mine
section
local macro_rules | `(tactic| walk_at "mine spare") => `(tactic| skip)
open PySem PySem.W PySem.Calls PyProof.Rows
set_option maxHeartbeats 8000000
variable {w : World} {loose : List Str} {mean : ExcName → Option Value} {mg mb : Str → Option Value}
local macro_rules | `(tactic| walk_at "mine cells") => `(tactic| (refine' code_defC ?k1 ?k2 ?k3 ?k4 ?k5 ?kA ?kF ?kK ?k6 ?k7 ?k8 ?k9 ?kB ?kD ?_ ?c2 ?c3 ?c4; (case kA => exact rfl); (case kF => exact rfl); (case kK => assumption); (case k1 => k_asm); (case k2 => k_asm); (case k3 => k_asm); (case k4 => k_asm); (case k5 => k_asm); (case k6 => k_is); (case k7 => k_is); (case k8 => ktr_room); (case k9 => exact BindsTo.of_eq rfl); (case kB => exact rfl); (case kD => decide +kernel); (case c2 => exact rfl); (case c3 => exact rfl); (case c4 => exact rfl); k_whole; intro g' L' h' tk' cells' FG' F' N' Y' B' X' T' l1; (try k_lt l1); k_cells Y'; (try simp only [List.cons_append, List.nil_append] at N'); (try dsimp only); (try k_lift B'); (try k_fold)))

section
variable {prog : Program} {A : Around} {E : Value → Shared → Prop} {s : Shared} {h₀ : Heap} {L : Addr} {news : List (Addr × Obj)} {value slice : Expr} {l : Addr} {vs : List Value} {ns : List Int} {c : Nat} {k : Int} {u : Tok} {Q : Value → Shared → Prop}
theorem item_L (N : News h₀ L s.heap news) (hm : (l, listOf vs.toArray c) ∈ news) (hi : IntsAre vs ns) (h0 : 0 ≤ k) (h1 : k < ns.length) (hfit : k < 2 ^ 63) (h : ∀ t, Q (.int (ns.getD k.toNat 0) t) s)
    (hs : subscripted slice false (.ref l) (.int k u) = operate [.ref l, .int k u] (getItem (.ref l) (.int k u)) := by with_unfolding_all rfl) (hg : ∀ r, letTemporaryGo value (.ref l) r = pure () := by intro _; with_unfolding_all rfl) :
    wpAny (model prog w) A (subscriptTail value slice (.ref l) (.int k u)) Q E s := by
  obtain ⟨t, hx⟩ := hi.get k.toNat _ (ints_getD h0 h1)
  exact kim_list N hm rfl rfl h0 hfit hx (h t) hs hg
end
local macro_rules | `(tactic| walk_at "subscriptTail") => `(tactic| (k_here; (with_reducible show wpAny _ _ (subscriptTail _ _ (Value.ref _) (Value.int _ _)) _ _ _); k_dflt (refine' item_L ?kN ?kM ?kI ?k0 ?k1 ?k2 ?_; (case kN => k_asm); (case kM => kcf_m); (case kI => assumption); (case k0 => omega); (case k1 => omega); (case k2 => omega)); intro _; walk_say "MINE item"))
def laid (ns ms : List Int) : List Int := (rangeKs 0 32).map fun k => (ns.getD k.toNat 0 + ms.getD k.toNat 0).fmod 2
theorem c_laid (news : List (Addr × Obj)) (b mv : Addr) (vs ws : List Value) (ns ms : List Int) (c1 c2 : Nat) (hb : (b, listOf vs.toArray c1) ∈ news) (hm : (mv, listOf ws.toArray c2) ∈ news) (hi : IntsAre vs ns) (hj : IntsAre ws ms) (hn : ns.length = 32) (hm2 : ms.length = 32) :
  ∀ (dp un : Nat) (gd : Option (List Code)) (cn : Str) (cs : Scope) (a : Addr) (ccd : Value) (cl : List (Str × Addr)) (outer : List Env) (A₀ : Around) (base h₀ : Heap) (L : Addr) (m : Str → Option Value) (s : Shared) (Q E : Value → Shared → Prop),
    Below A₀ base outer h₀ → Fr h₀ L s.heap m → (hd.heap_39 w.params).In h₀ → News h₀ L s.heap news → Top hd.view_39 loose mean mg mb h₀ → cs.kind = .function →
    dp + 3 < recursionLimit → un + 8 * 3 < cLine →
    (∀ (D : Addr) (zs : List Value) (c : Nat) (h' : Heap) (tk' : Nat), Fr h₀ L h' m → News h₀ L h' ((D, listOf zs.toArray c) :: news) → LCg.Off1 D news → IntsAre zs (laid ns ms) → Q (.ref D) { s with heap := h', toks := tk' }) →
      wpAny (model PySem.Challenge.rw_sx_zbitworks_6.row.prog w) (ktrTop dp un gd cn cs L a ccd cl outer) (call (.ref 112) [.ref b, .ref mv]) Q E s := by
  w_top off
  k_fill
  intro dp un gd cn cs ad ccd cl outer A₀ base h₀ L m s Q E B0 F X N T hk hdp hu hret
  refine wpAny_call ?_
  k_dflt walk_at "mine cells"
  k_steps
  (rename News h₀ L _ _ => kN'); (rename IntsAre _ (List.map _ (rangeKs _ _)) => hI'); (rename _ ∧ _ ∧ LCg.Off1 _ _ => o1')
  exact hret _ _ _ _ _ (by assumption) (cb_drop kN' (fun p hp => (List.mem_cons.mp hp).elim (fun e => e ▸ List.mem_cons_self) fun h => List.mem_cons_of_mem _ (List.mem_cons_of_mem _ (List.mem_cons_of_mem _ h)))) o1'.2.2 hI'
end
end Mine

-- part C5
namespace Mine
section
open PySem PySem.W PySem.Calls PyProof.Rows
set_option maxHeartbeats 8000000
variable {w : World} {loose : List Str} {mean : ExcName → Option Value} {mg mb : Str → Option Value}
local macro_rules | `(tactic| walk_at "mine cells") => `(tactic| (refine' code_defC ?k1 ?k2 ?k3 ?k4 ?k5 ?kA ?kF ?kK ?k6 ?k7 ?k8 ?k9 ?kB ?kD ?_ ?c2 ?c3 ?c4; (case kA => exact rfl); (case kF => exact rfl); (case kK => assumption); (case k1 => k_asm); (case k2 => k_asm); (case k3 => k_asm); (case k4 => k_asm); (case k5 => k_asm); (case k6 => k_is); (case k7 => k_is); (case k8 => ktr_room); (case k9 => exact BindsTo.of_eq rfl); (case kB => exact rfl); (case kD => decide +kernel); (case c2 => exact rfl); (case c3 => exact rfl); (case c4 => exact rfl); k_whole; intro g' L' h' tk' cells' FG' F' N' Y' B' X' T' l1; (try k_lt l1); k_cells Y'; (try simp only [List.cons_append, List.nil_append] at N'); (try dsimp only); (try k_lift B'); (try k_fold)))
theorem ne_of_l1 {news : List (Addr × Obj)} {L' d : Nat} (l1 : ∀ p ∈ news, p.1 < L') (h : @LE.le Nat _ L' d) : ∀ p ∈ news, p.1 ≠ d := fun p hp => Nat.ne_of_lt (Nat.lt_of_lt_of_le (l1 p hp) h)
local macro_rules | `(tactic| k_all) => `(tactic| exact ne_of_l1 (by assumption) (by omega))
theorem bits_of (x : B) : List.map (fun k' : Int => ((ofB x).fdiv (2 ^ k'.toNat)).fmod 2) (rangeKs 0 (32 - 0 : Int).toNat) = bits x := by
  refine bits_ext (by simp [rangeKs]) fun i hi => ?_
  have e : (rangeKs 0 (32 - 0 : Int).toNat)[i]? = some (i : Int) := by
    show (rangeKs 0 32)[i]? = _
    simp [rangeKs, hi]
  rw [List.getElem?_map, e]
  simp only [Option.map_some, Int.toNat_natCast]
  rw [ofB_bit x i hi]
theorem flat0 (n : Nat) : (List.replicate n [(0 : Int)]).flatten = List.replicate n 0 := by
  induction n with
  | zero => rfl
  | succ n ih => rw [List.replicate_succ, List.flatten_cons, ih]; rfl
theorem moved13 {ns : List Int} {x : B} (h : ns = bits x) : (List.replicate (Int.toNat 13) [(0 : Int)]).flatten ++ List.take 19 ns = bits (x <<< 13) := by
  subst h
  rw [flat0]
  exact bits_left x 13 (by decide)
theorem moved5 {ns : List Int} {x : B} (h : ns = bits x) : (List.replicate (Int.toNat 5) [(0 : Int)]).flatten ++ List.take 27 ns = bits (x <<< 5) := by
  subst h
  rw [flat0]
  exact bits_left x 5 (by decide)
theorem moved17 {ns : List Int} {x : B} (h : ns = bits x) : List.drop 17 ns ++ (List.replicate (Int.toNat 17) [(0 : Int)]).flatten = bits (x >>> 17) := by
  subst h
  rw [flat0]
  exact bits_right x 17 (by decide)
theorem laid_bits {ns ms : List Int} {x y : B} (hx : ns = bits x) (hy : ms = bits y) : laid ns ms = bits (x ^^^ y) := by
  subst hx
  subst hy
  refine bits_ext (by simp [laid, rangeKs]) fun i hi => ?_
  have e : (rangeKs 0 32)[i]? = some (i : Int) := by simp [rangeKs, hi]
  unfold laid
  rw [List.getElem?_map, e]
  simp only [Option.map_some, Int.toNat_natCast]
  rw [List.getD_eq_getElem?_getD, List.getD_eq_getElem?_getD, bits_get x i hi, bits_get y i hi]
  simp only [Option.getD_some]
  rw [Int.fmod_eq_emod_of_nonneg _ (by decide), bt_xor, BitVec.getLsbD_xor]
theorem sum_of {ns : List Int} {x : B} (h : ns = bits x) : (List.map (fun k' : Int => ns.getD k'.toNat 0 * 2 ^ k'.toNat) (rangeKs 0 (32 - 0 : Int).toNat)).sum = ofB x := by
  subst h
  have e : List.map (fun k' : Int => (bits x).getD k'.toNat 0 * 2 ^ k'.toNat) (rangeKs 0 (32 - 0 : Int).toNat) = (List.range 32).map fun i => bt (x.getLsbD i) * 2 ^ i := by
    show List.map (fun k' : Int => (bits x).getD k'.toNat 0 * 2 ^ k'.toNat) (rangeKs 0 32) = _
    unfold rangeKs
    rw [List.map_map]
    refine List.map_congr_left fun i hi => ?_
    have hi' : i < 32 := List.mem_range.mp hi
    have e0 : (0 + (i : Int)).toNat = i := by omega
    simp only [Function.comp_apply, e0]
    rw [List.getD_eq_getElem?_getD, bits_get x i hi']
    rfl
  rw [e]
  exact bits_sum x

theorem use_laid {rest : List (Addr × Obj)} {p2 p3 p4 kc kc' : Addr × Obj} {b mv : Addr} {vs ws : List Value} {ns ms : List Int} {c1 c2 : Nat} {x y : B}
    {dp un : Nat} {gd : Option (List Code)} {cn : Str} {cs : Scope} {a : Addr} {ccd : Value} {cl : List (Str × Addr)} {outer : List Env} {A₀ : Around} {base h₀ : Heap} {L : Addr} {m : Str → Option Value} {s : Shared} {Q E : Value → Shared → Prop}
    (B0 : Below A₀ base outer h₀) (F : Fr h₀ L s.heap m) (X : (hd.heap_39 w.params).In h₀) (N : News h₀ L s.heap ((mv, listOf ws.toArray c2) :: p2 :: p3 :: p4 :: (b, listOf vs.toArray c1) :: kc :: kc' :: rest)) (T : Top hd.view_39 loose mean mg mb h₀) (hk : cs.kind = .function)
    (hi : IntsAre vs ns) (hj : IntsAre ws ms) (hx : ns = bits x) (hy : ms = bits y)
    (hd' : dp + 3 < recursionLimit) (hu : un + 8 * 3 < cLine)
    (ret : ∀ (D : Addr) (zs : List Value) (ns' : List Int) (c : Nat) (h' : Heap) (tk' : Nat), Fr h₀ L h' m → News h₀ L h' ((D, listOf zs.toArray c) :: kc :: kc' :: rest) → @Ne Nat kc.1 D → @Ne Nat kc'.1 D → IntsAre zs ns' → ns' = bits (x ^^^ y) → ns'.length = 32 → Q (.ref D) { s with heap := h', toks := tk' }) :
    wpAny (model PySem.Challenge.rw_sx_zbitworks_6.row.prog w) (ktrTop dp un gd cn cs L a ccd cl outer) (call (.ref 112) [.ref b, .ref mv]) Q E s := by
  refine c_laid _ b mv vs ws ns ms c1 c2 (by kcf_m) (by kcf_m) hi hj (by rw [hx, bits_length]) (by rw [hy, bits_length]) dp un gd cn cs a ccd cl outer A₀ base h₀ L m s Q E B0 F X N T hk hd' hu ?_
  intro D zs c h' tk' F' N' o' hI
  have e := laid_bits hx hy
  simp only [LCg.Off1] at o'
  obtain ⟨_, _, _, _, _, o1, o2, _⟩ := o'
  exact ret D zs (laid ns ms) c h' tk' F' (cb_drop N' (by kcf_all)) o1 o2 hI e (by rw [e, bits_length])

theorem pow_lt64 {k : Nat} (hk : k < 64) : (2 : Int) ^ k < 2 ^ 64 := by
  rw [← cast_pow, ← cast_pow]
  exact_mod_cast Nat.pow_lt_pow_right (by decide) hk
theorem pow_pos2 (k : Nat) : (0 : Int) < 2 ^ k := by
  rw [← cast_pow]
  exact_mod_cast Nat.two_pow_pos k
section
variable {prog : Program} {A : Around} {E : Value → Shared → Prop} {s : Shared} {a : Int} {t u : Tok} {Q : Value → Shared → Prop}
theorem o_mulPow {k : Nat} (hk : k < 64) (h : Q (.int (a * 2 ^ k) s.toks) { s with toks := s.toks + 1 }) : wpAny (model prog w) A (binaryOp .Mult (.int a t) (.int (2 ^ k) u)) Q E s :=
  mul_int h (IntMulOk.of_right (PySem.intBits_le_64 (by have := pow_pos2 k; omega) (pow_lt64 hk)))
end
theorem lt32_n {k m : Int} (h : k < 0 + ((32 - 0 : Int).toNat : Int)) (hm : 32 ≤ m) : k < m := by
  have e : ((32 - 0 : Int).toNat : Int) = 32 := rfl
  omega
theorem lt32_len {k : Int} {n : Nat} (h : k < 0 + ((32 - 0 : Int).toNat : Int)) (hn : n = 32) : k < (n : Int) := lt32_n h (by omega)
theorem lt32_toNat {k : Int} (h : k < 0 + ((32 - 0 : Int).toNat : Int)) : k.toNat < 64 := by
  have := lt32_n h (Int.le_refl 32)
  omega
local macro_rules | `(tactic| walk_at "binaryOp Mult int int") => `(tactic| (with_reducible refine o_mulPow ?q1 ?_; (case q1 => first | exact lt32_toNat (by assumption) | omega)))
local macro_rules | `(tactic| walk_at "mine ask") => `(tactic| (
  (case k1 => k_asm); (case k2 => k_asm); (case k3 => k_asm); (case k4 => k_asm); (case k5 => k_asm); (case kK => first | exact rfl | assumption); (case kd => ktr_room); (case ku => ktr_units)))
local macro_rules | `(tactic| walk_at "call ref") => `(tactic| (k_here; (with_reducible show wpAny _ _ (call (Value.ref 112) _) _ _ _); k_dflt (refine' use_laid ?k1 ?k2 ?k3 ?k4 ?k5 ?kK ?ki ?kj ?kx ?ky ?kd ?ku ?_; walk_at "mine ask"; (case ki => assumption); (case kj => assumption); (case kx => first | assumption | exact bits_of _); (case ky => first | exact moved13 (by first | assumption | exact bits_of _) | exact moved17 (by first | assumption | exact bits_of _) | exact moved5 (by first | assumption | exact bits_of _))); (repeat ((with_reducible rename (_ < _ ∧ _) => hdead); clear hdead)); (repeat ((with_reducible rename (_ ≠ _ ∧ _) => hdead); clear hdead)); (repeat ((with_reducible rename (List.length _ = _) => hdead); clear hdead)); (repeat ((with_reducible rename (List.length _ ≤ _) => hdead); clear hdead)); (repeat ((with_reducible rename ((_ : Int) < _ → _ = _) => hdead); clear hdead)); (repeat ((with_reducible rename ((_ : Int) ≤ _ → _ = _) => hdead); clear hdead)); intro D9 zs9 ns9 c9 h9 tk9 F9 N9 o9 o99 I9 e9 l9; (try dsimp only at o9 o99); (try dsimp only); (try k_fold); walk_say "MINE laid"))
theorem c_step (news : List (Addr × Obj)) (x : B) (t : Tok) : Claim w loose mean mg mb 9 117 news True [.int (ofB x) t] (fun t => .int (ofB (xs x)) t) := by
  delta Claim
  w_top off
  k_fill
  intro dp un gd cn cs ad ccd cl outer A₀ base h₀ L m s Q E B0 F X N T hk hp hdp hu hret
  refine wpAny_call ?_
  k_dflt walk_at "mine cells"
  k_steps
  k_with "tree" => exact sum_of (by assumption)
  all_goals cb_end hret
  k_with_none
end
end Mine

-- part C6
namespace Mine
section
open PySem PySem.W PySem.Calls PyProof.Rows
set_option maxHeartbeats 3000000
variable {w : World} {loose : List Str} {mean : ExcName → Option Value} {mg mb : Str → Option Value}

def farI (x : Int) (i : Nat) : Int := onesI (Builtin.bitXor x (codes.getD ((i : Int)).toNat 0))
theorem near1 {x : Int} {i : Nat} (h : farI x i < (nearTo x i).1) : nearTo x (i + 1) = (farI x i, [(i : Int)]) := by
  show nearStep x (nearTo x i) (i : Int) = _
  unfold nearStep
  exact if_pos h
theorem near2 {x : Int} {i : Nat} (h : ¬ farI x i < (nearTo x i).1) (h2 : farI x i = (nearTo x i).1) : nearTo x (i + 1) = ((nearTo x i).1, (nearTo x i).2 ++ [(i : Int)]) := by
  show nearStep x (nearTo x i) (i : Int) = _
  unfold nearStep
  exact (if_neg h).trans (if_pos h2)
theorem near3 {x : Int} {i : Nat} (h : ¬ farI x i < (nearTo x i).1) (h2 : ¬ farI x i = (nearTo x i).1) : nearTo x (i + 1) = nearTo x i := by
  show nearStep x (nearTo x i) (i : Int) = _
  unfold nearStep
  exact (if_neg h).trans (if_neg h2)
theorem near_len (x : Int) : ∀ i : Nat, (nearTo x i).2.length ≤ i
  | 0 => Nat.le_refl _
  | i + 1 => by
    have ih := near_len x i
    by_cases h : farI x i < (nearTo x i).1
    · rw [near1 h]
      show 1 ≤ i + 1
      omega
    · by_cases h2 : farI x i = (nearTo x i).1
      · rw [near2 h h2, List.length_append, List.length_singleton]
        omega
      · rw [near3 h h2]
        omega

def NearJ (x : Int) (m₀ : Str → Option Value) (news : List (Addr × Obj)) (i : Nat) (m : Str → Option Value) (nx : List (Addr × Obj)) : Prop :=
  ∃ (D : Addr) (t1 : Tok) (vs : List Value) (c : Nat), nx = (D, listOf vs.toArray c) :: news ∧ (∀ p ∈ news, p.1 < D) ∧ IntsAre vs (nearTo x i).2 ∧ m (Str.ofString "best") = some (.int (nearTo x i).1 t1) ∧ m (Str.ofString "found") = some (.ref D) ∧
    ∀ z, z ≠ Str.ofString "nibble" → z ≠ Str.ofString "best" → z ≠ Str.ofString "found" → z ≠ Str.ofString "far" → m z = m₀ z
theorem near_map {m m₀ : Str → Option Value} {D : Addr} {v : Value} {o : Option Value} (hb : m (Str.ofString "best") = some v) (hf : m (Str.ofString "found") = some (.ref D)) (hr : ∀ z, z ≠ Str.ofString "nibble" → z ≠ Str.ofString "best" → z ≠ Str.ofString "found" → z ≠ Str.ofString "far" → m z = m₀ z) :
    (fun z => if z = Str.ofString "nibble" then o else m z) = fun z => if z = Str.ofString "nibble" then o else if z = Str.ofString "best" then some v else if z = Str.ofString "found" then some (.ref D) else if z = Str.ofString "far" then m z else m₀ z := by
  funext z
  by_cases h1 : z = Str.ofString "nibble"
  · rw [if_pos h1, if_pos h1]
  · rw [if_neg h1, if_neg h1]
    by_cases h2 : z = Str.ofString "best"
    · rw [if_pos h2, h2, hb]
    · rw [if_neg h2]
      by_cases h3 : z = Str.ofString "found"
      · rw [if_pos h3, h3, hf]
      · rw [if_neg h3]
        by_cases h4 : z = Str.ofString "far"
        · rw [if_pos h4]
        · rw [if_neg h4, hr z h1 h2 h3 h4]
theorem near_map2 {m m₀ : Str → Option Value} {D : Addr} {v : Value} (hb : m (Str.ofString "best") = some v) (hf : m (Str.ofString "found") = some (.ref D)) (hr : ∀ z, z ≠ Str.ofString "nibble" → z ≠ Str.ofString "best" → z ≠ Str.ofString "found" → z ≠ Str.ofString "far" → m z = m₀ z) :
    m = fun z => if z = Str.ofString "nibble" then m z else if z = Str.ofString "best" then some v else if z = Str.ofString "found" then some (.ref D) else if z = Str.ofString "far" then m z else m₀ z := by
  funext z
  by_cases h1 : z = Str.ofString "nibble"
  · rw [if_pos h1]
  · rw [if_neg h1]
    by_cases h2 : z = Str.ofString "best"
    · rw [if_pos h2, h2, hb]
    · rw [if_neg h2]
      by_cases h3 : z = Str.ofString "found"
      · rw [if_pos h3, h3, hf]
      · rw [if_neg h3]
        by_cases h4 : z = Str.ofString "far"
        · rw [if_pos h4]
        · rw [if_neg h4, hr z h1 h2 h3 h4]

local macro_rules | `(tactic| walk_at "TPost") => `(tactic| (dsimp only [TPost]))
local macro_rules | `(tactic| walk_at "exec For Name Call cons nil") => `(tactic| (k_here; (rename Fr _ _ _ _ => lF'); (with_unfolding_all refine' For_invVF lF' ?k1 ?k2 ?_; (case k1 => exact rfl); (case k2 => exact rfl); k_whole)))
local macro_rules | `(tactic| walk_at "pyIter ref") => `(tactic| ((with_reducible show wpAny _ _ (pyIter (Value.ref _)) (fun it s₂ => LoopAtV _ _ _ _ _ _ _ _ _ it s₂) _ _); refine halt ?_))
local macro_rules | `(tactic| walk_at "mine ask") => `(tactic| (
  (case k1 => k_asm); (case k2 => k_asm); (case k3 => k_asm); (case k4 => k_asm); (case k5 => k_asm); (case kK => first | exact rfl | assumption); (case kd => ktr_room); (case ku => ktr_units)))
local macro_rules | `(tactic| walk_at "call ref") => `(tactic| (k_here; (with_reducible show wpAny _ _ (call (Value.ref 122) _) _ _ _); k_dflt (refine' use1 (c_ones _ _ _) ?k1 ?k2 ?k3 ?k4 ?k5 ?kK trivial ?kd ?ku ?_; walk_at "mine ask"); intro t9 h9 tk9 F9 N9; (try dsimp only); (try k_fold); walk_say "MINE ones"))
local macro_rules | `(tactic| k_all) => `(tactic| exact ne_of_l1 (by assumption) (Nat.le_refl _))

theorem c_nearest (news : List (Addr × Obj)) (x : Int) (t : Tok) :
  ∀ (dp un : Nat) (gd : Option (List Code)) (cn : Str) (cs : Scope) (a : Addr) (ccd : Value) (cl : List (Str × Addr)) (outer : List Env) (A₀ : Around) (base h₀ : Heap) (L : Addr) (m : Str → Option Value) (s : Shared) (Q E : Value → Shared → Prop),
    Below A₀ base outer h₀ → Fr h₀ L s.heap m → (hd.heap_39 w.params).In h₀ → News h₀ L s.heap news → Top hd.view_39 loose mean mg mb h₀ → cs.kind = .function →
    0 ≤ x → x < 128 → dp + 9 < recursionLimit → un + 8 * 9 < cLine →
    (∀ (D : Addr) (vs : List Value) (c : Nat) (h' : Heap) (tk' : Nat), Fr h₀ L h' m → News h₀ L h' ((D, listOf vs.toArray c) :: news) → (∀ p ∈ news, p.1 < D) → IntsAre vs [decI x] → Q (.ref D) { s with heap := h', toks := tk' }) →
      wpAny (model PySem.Challenge.rw_sx_zbitworks_6.row.prog w) (ktrTop dp un gd cn cs L a ccd cl outer) (call (.ref 129) [.int x t]) Q E s := by
  w_top off
  k_fill
  intro dp un gd cn cs ad ccd cl outer A₀ base h₀ L m s Q E B0 F X N T hk hx0 hx1 hdp hu hret
  refine wpAny_call ?_
  k_dflt cell_enter
  k_steps
  refine go_on ?_
  (rename Fr _ _ _ _ => lF'); (rename News _ _ _ _ => lN'); (rename IsRange _ _ _ _ _ _ _ _ => rgX); (rename ∀ p ∈ news, _ => l1')
  with_unfolding_all refine' range_inv (n := 16) (NearJ x _ news) (by rfl) rgX (by decide) (by decide) lF' lN' ⟨_, _, [], 0, rfl, l1', .nil, by rfl, by rfl, fun _ _ _ _ _ => rfl⟩ ?_ ?_
  all_goals clear lF' lN'
  · rintro I' oI' hI' i' t' m₁ nx h' tk' hi' hoff' ⟨D, t1, vs, c, rfl, hD, hI, hb, hf, hr⟩ F' N'
    have e1 : (0 : Int) + (i' : Int) * 1 = (i' : Int) := by omega
    rw [e1, near_map hb hf hr] at F'
    have hlen := near_len x i'
    have hlen2 := IntsAre.length hI
    have hID : @Ne Nat D I' := hoff' _ (List.mem_cons_self)
    (try k_fold)
    k_steps
    · have e := near1 (x := x) (i := i') (by assumption)
      (rename News _ _ _ _ => lN'); (rename (_ < _ ∧ _ ∧ AllLt _ _) => l1'')
      have hlt := kst_ltOf l1''.2.2
      have hoI : ∀ p ∈ news, p.1 ≠ I' := fun p hp => Nat.ne_of_lt (hI' p (List.mem_cons_of_mem _ hp))
      refine' TEnd.intro (_ :: news) (by assumption) lN' (by k_memK) (by kcf_all) (List.forall_mem_cons.mpr ⟨Nat.ne_of_gt l1''.1, hoI⟩) ⟨_, ?tt, [Value.int (i' : Int) t'], 0, rfl, hlt, ?ii, ?bb, ?ff, ?ss⟩
      case ff => with_unfolding_all rfl
      case bb => (rw [e]; with_unfolding_all rfl)
      case ii => (rw [e]; exact .cons _ _ .nil)
      case ss => (intro z h1 h2 h3 h4; first | rfl | (simp [h1, h2, h3, h4]; done))
    · have e := near2 (x := x) (i := i') (by assumption) (by assumption)
      (rename News _ _ _ _ => lN')
      simp only [List.push_toArray] at lN'
      have hoI : ∀ p ∈ news, p.1 ≠ I' := fun p hp => Nat.ne_of_lt (hI' p (List.mem_cons_of_mem _ hp))
      refine' TEnd.intro (_ :: news) (by assumption) lN' (by k_memK) (by kcf_all) (List.forall_mem_cons.mpr ⟨hID, hoI⟩) ⟨_, ?tt2, vs ++ [Value.int (i' : Int) t'], c + 1, rfl, hD, ?ii2, ?bb2, ?ff2, ?ss2⟩
      case ff2 => with_unfolding_all rfl
      case bb2 => (rw [e]; with_unfolding_all rfl)
      case ii2 => (rw [e]; exact IntsAre.append hI (.cons _ _ .nil))
      case ss2 => (intro z h1 h2 h3 h4; first | rfl | (simp [h1, h2, h3, h4]; done))
    · have e := near3 (x := x) (i := i') (by assumption) (by assumption)
      (rename News _ _ _ _ => lN')
      have hoI : ∀ p ∈ news, p.1 ≠ I' := fun p hp => Nat.ne_of_lt (hI' p (List.mem_cons_of_mem _ hp))
      refine' TEnd.intro (_ :: news) (by assumption) lN' (by k_memK) (by kcf_all) (List.forall_mem_cons.mpr ⟨hID, hoI⟩) ⟨_, ?tt3, vs, c, rfl, hD, ?ii3, ?bb3, ?ff3, ?ss3⟩
      case ff3 => with_unfolding_all rfl
      case bb3 => (rw [e]; with_unfolding_all rfl)
      case ii3 => (rw [e]; exact hI)
      case ss3 => (intro z h1 h2 h3 h4; first | rfl | (simp [h1, h2, h3, h4]; done))
  · rintro m₁ nx h' tk' ⟨D, t1, vs, c, rfl, hD, hI, hb, hf, hr⟩ F' N'
    rw [near_map2 hb hf hr] at F'
    rw [near_w hx0 hx1] at hI
    (try k_fold)
    k_steps
    exact hret D vs c _ _ (by assumption) (by assumption) hD hI
end
end Mine

-- part C7
namespace Mine
section
open PySem PySem.W PySem.Calls PyProof.Rows
set_option maxHeartbeats 3000000
variable {w : World} {loose : List Str} {mean : ExcName → Option Value} {mg mb : Str → Option Value}
local macro_rules | `(tactic| walk_at "mine ask") => `(tactic| (
  (case k1 => k_asm); (case k2 => k_asm); (case k3 => k_asm); (case k4 => k_asm); (case k5 => k_asm); (case kK => first | exact rfl | assumption); (case kd => ktr_room); (case ku => ktr_units)))
local macro_rules | `(tactic| walk_at "call ref") => `(tactic| (k_here; (with_reducible show wpAny _ _ (call (Value.ref 93) _) _ _ _); k_dflt (refine' use1 (c_same _ _ _ _ _) ?k1 ?k2 ?k3 ?k4 ?k5 ?kK ?kp ?kd ?ku ?_; walk_at "mine ask"; (case kp => first | rfl | assumption)); intro t9 h9 tk9 F9 N9; (try dsimp only); (try k_fold); walk_say "MINE same"))
theorem c_pair (news : List (Addr × Obj)) (D : Addr) (r1 r2 : Int) (t1 t2 : Tok) (c : Nat) (hm : (D, tup2 r1 r2 t1 t2 c) ∈ news) (a : Int) (t : Tok) (b : Int) (u : Tok) : Claim w loose mean mg mb 6 107 news (r1 = a ∧ r2 = b) [.ref D, .int a t, .int b u] (fun _ => .bool true) := by
  delta Claim
  w_top off
  k_fill
  intro dp un gd cn cs ad ccd cl outer A₀ base h₀ L m s Q E B0 F X N T hk hp hdp hu hret
  obtain ⟨hp0, hp1⟩ := hp
  refine wpAny_call ?_
  k_dflt cell_enter
  k_steps
  all_goals cb_end hret
end
end Mine

-- part L1
namespace Mine
section
open PySem PySem.W PySem.Calls PyProof.Rows
set_option maxHeartbeats 3000000
variable {w : World} {loose : List Str} {mean : ExcName → Option Value} {mg mb : Str → Option Value}
section
variable {news : List (Addr × Obj)} {dp un : Nat} {gd : Option (List Code)} {cn : Str} {cs : Scope} {a : Addr} {ccd : Value} {cl : List (Str × Addr)} {outer : List Env} {A₀ : Around} {base h₀ : Heap} {L : Addr} {m : Str → Option Value} {s : Shared} {Q E : Value → Shared → Prop}
  (B0 : Below A₀ base outer h₀) (F : Fr h₀ L s.heap m) (X : (hd.heap_39 w.params).In h₀) (N : News h₀ L s.heap news) (T : Top hd.view_39 loose mean mg mb h₀) (hk : cs.kind = .function)
include B0 F X N T hk
theorem u_xorshift {x : Int} {t : Tok} (h0 : 0 ≤ x) (h1 : x < 4294967296) (hd' : dp + 6 < recursionLimit) (hu : un + 8 * 6 < cLine)
    (ret : ∀ (y : Int) (t : Tok) (h' : Heap) (tk' : Nat), y = xsI x → 0 ≤ y → y < 4294967296 → xbI y = x → Fr h₀ L h' m → News h₀ L h' news → Q (.int y t) { s with heap := h', toks := tk' }) :
    wpAny (model PySem.Challenge.rw_sx_zbitworks_6.row.prog w) (ktrTop dp un gd cn cs L a ccd cl outer) (call (.ref 42) [.int x t]) Q E s := by
  rw [← ofB_toB h0 h1]
  refine use1 (c_xorshift news (toB x) t) B0 F X N T hk trivial hd' hu fun t h' tk' F' N' => ?_
  exact ret (xsI x) t h' tk' rfl (xsI_lo x) (xsI_hi x) (xbI_xsI h0 h1) F' N'
theorem u_step {x : Int} {t : Tok} (h0 : 0 ≤ x) (h1 : x < 4294967296) (hd' : dp + 9 < recursionLimit) (hu : un + 8 * 9 < cLine)
    (ret : ∀ (t : Tok) (h' : Heap) (tk' : Nat), Fr h₀ L h' m → News h₀ L h' news → Q (.int (xsI x) t) { s with heap := h', toks := tk' }) :
    wpAny (model PySem.Challenge.rw_sx_zbitworks_6.row.prog w) (ktrTop dp un gd cn cs L a ccd cl outer) (call (.ref 117) [.int x t]) Q E s := by
  rw [← ofB_toB h0 h1]
  exact use1 (c_step news (toB x) t) B0 F X N T hk trivial hd' hu ret
theorem u_back {x : Int} {t : Tok} (h0 : 0 ≤ x) (h1 : x < 4294967296) (hd' : dp + 9 < recursionLimit) (hu : un + 8 * 9 < cLine)
    (ret : ∀ (y : Int) (t : Tok) (h' : Heap) (tk' : Nat), y = xbI x → 0 ≤ y → y < 4294967296 → xsI y = x → Fr h₀ L h' m → News h₀ L h' news → Q (.int y t) { s with heap := h', toks := tk' }) :
    wpAny (model PySem.Challenge.rw_sx_zbitworks_6.row.prog w) (ktrTop dp un gd cn cs L a ccd cl outer) (call (.ref 63) [.int x t]) Q E s := by
  rw [← ofB_toB h0 h1]
  refine use1 (c_xorshift_back news (toB x) t) B0 F X N T hk trivial hd' hu fun t h' tk' F' N' => ?_
  exact ret (xbI x) t h' tk' rfl (xbI_lo x) (xbI_hi x) (xsI_xbI h0 h1) F' N'
theorem u_left {x k : Int} {t u : Tok} (h0 : 0 ≤ x) (h1 : x < 4294967296) (hk0 : 1 ≤ k) (hk1 : k ≤ 31) (hd' : dp + 6 < recursionLimit) (hu : un + 8 * 6 < cLine)
    (ret : ∀ (y : Int) (t : Tok) (h' : Heap) (tk' : Nat), y = uLI x k → 0 ≤ y → y < 4294967296 → Builtin.bitXor y ((y * 2 ^ k.toNat).fmod 4294967296) = x → Fr h₀ L h' m → News h₀ L h' news → Q (.int y t) { s with heap := h', toks := tk' }) :
    wpAny (model PySem.Challenge.rw_sx_zbitworks_6.row.prog w) (ktrTop dp un gd cn cs L a ccd cl outer) (call (.ref 49) [.int x t, .int k u]) Q E s := by
  rw [← ofB_toB h0 h1]
  refine use1 (c_undo_left news (toB x) t k u) B0 F X N T hk ⟨hk0, hk1⟩ hd' hu fun t h' tk' F' N' => ?_
  exact ret (uLI x k) t h' tk' rfl (uLI_lo x k) (uLI_hi x k) (uLI_back h0 h1 hk0) F' N'
theorem u_right {x k : Int} {t u : Tok} (h0 : 0 ≤ x) (h1 : x < 4294967296) (hk0 : 1 ≤ k) (hk1 : k ≤ 31) (hd' : dp + 6 < recursionLimit) (hu : un + 8 * 6 < cLine)
    (ret : ∀ (y : Int) (t : Tok) (h' : Heap) (tk' : Nat), y = uRI x k → 0 ≤ y → y < 4294967296 → Builtin.bitXor y (y.fdiv (2 ^ k.toNat)) = x → Fr h₀ L h' m → News h₀ L h' news → Q (.int y t) { s with heap := h', toks := tk' }) :
    wpAny (model PySem.Challenge.rw_sx_zbitworks_6.row.prog w) (ktrTop dp un gd cn cs L a ccd cl outer) (call (.ref 56) [.int x t, .int k u]) Q E s := by
  rw [← ofB_toB h0 h1]
  refine use1 (c_undo_right news (toB x) t k u) B0 F X N T hk ⟨hk0, hk1⟩ hd' hu fun t h' tk' F' N' => ?_
  exact ret (uRI x k) t h' tk' rfl (uRI_lo x k) (uRI_hi x k) (uRI_back h0 h1 hk0) F' N'
theorem u_encode {n : Int} {t : Tok} (h0 : 0 ≤ n) (h1 : n < 16) (hd' : dp + 9 < recursionLimit) (hu : un + 8 * 9 < cLine)
    (ret : ∀ (y : Int) (t : Tok) (h' : Heap) (tk' : Nat), y = codes.getD n.toNat 0 → 0 ≤ y → y < 128 → Fr h₀ L h' m → News h₀ L h' news → Q (.int y t) { s with heap := h', toks := tk' }) :
    wpAny (model PySem.Challenge.rw_sx_zbitworks_6.row.prog w) (ktrTop dp un gd cn cs L a ccd cl outer) (call (.ref 77) [.int n t]) Q E s := by
  refine use1 (c_encode news n t) B0 F X N T hk ⟨h0, h1⟩ hd' hu fun t h' tk' F' N' => ?_
  exact ret _ t h' tk' rfl (code_lo h0 h1) (code_hi h0 h1) F' N'
theorem u_syndrome {x : Int} {t : Tok} (hd' : dp + 6 < recursionLimit) (hu : un + 8 * 6 < cLine)
    (ret : ∀ (t : Tok) (h' : Heap) (tk' : Nat), Fr h₀ L h' m → News h₀ L h' news → Q (.int (synI x) t) { s with heap := h', toks := tk' }) :
    wpAny (model PySem.Challenge.rw_sx_zbitworks_6.row.prog w) (ktrTop dp un gd cn cs L a ccd cl outer) (call (.ref 70) [.int x t]) Q E s :=
  use1 (c_syndrome news x t) B0 F X N T hk trivial hd' hu ret
theorem u_decode {x : Int} {t : Tok} (hd' : dp + 9 < recursionLimit) (hu : un + 8 * 9 < cLine)
    (ret : ∀ (D : Addr) (t1 t2 : Tok) (c : Nat) (h' : Heap) (tk' : Nat), Fr h₀ L h' m → News h₀ L h' ((D, tup2 (decI x) (synI x) t1 t2 c) :: news) → (∀ p ∈ news, p.1 < D) → Q (.ref D) { s with heap := h', toks := tk' }) :
    wpAny (model PySem.Challenge.rw_sx_zbitworks_6.row.prog w) (ktrTop dp un gd cn cs L a ccd cl outer) (call (.ref 84) [.int x t]) Q E s :=
  c_decode news x t dp un gd cn cs a ccd cl outer A₀ base h₀ L m s Q E B0 F X N T hk hd' hu ret
theorem u_nearest {x : Int} {t : Tok} (h0 : 0 ≤ x) (h1 : x < 128) (hd' : dp + 9 < recursionLimit) (hu : un + 8 * 9 < cLine)
    (ret : ∀ (D : Addr) (vs : List Value) (c : Nat) (h' : Heap) (tk' : Nat), Fr h₀ L h' m → News h₀ L h' ((D, listOf vs.toArray c) :: news) → (∀ p ∈ news, p.1 < D) → IntsAre vs [decI x] → 0 ≤ decI x → decI x < 16 → Q (.ref D) { s with heap := h', toks := tk' }) :
    wpAny (model PySem.Challenge.rw_sx_zbitworks_6.row.prog w) (ktrTop dp un gd cn cs L a ccd cl outer) (call (.ref 129) [.int x t]) Q E s :=
  c_nearest news x t dp un gd cn cs a ccd cl outer A₀ base h₀ L m s Q E B0 F X N T hk h0 h1 hd' hu fun D vs c h' tk' F' N' l hI => ret D vs c h' tk' F' N' l hI (dec_w h0 h1).1 (dec_w h0 h1).2
end
section
variable {prog : Program} {A : Around} {E : Value → Shared → Prop} {s : Shared} {a b : Int} {t u : Tok} {Q : Value → Shared → Prop}
/-- a draw: what is drawn is forgotten but for its bounds -/
theorem o_draw (hb : 0 < b) (h : ∀ v : Int, 0 ≤ v → v < b → Q (.int v s.toks) { s with toks := s.toks + 1 }) : wpAny (model prog w) A (binaryOp .Mod (.int a t) (.int b u)) Q E s :=
  mod_int' (by omega) (h _ (fmod_lo a hb) (fmod_hi a hb))
end
end
end Mine

-- part L2
namespace Mine
section
open PySem PySem.W PySem.Calls PyProof.Rows
set_option maxHeartbeats 3000000
variable {w : World} {loose : List Str} {mean : ExcName → Option Value} {mg mb : Str → Option Value}
/-- the law's own statements and scope, out of the given program -/
def lawDef : List Stmt × Scope := match PySem.Challenge.pw_sx_zbitworks_6.main.body.getLast? with
  | some (.FunctionDef _ _ b _ _ _ sc _ _ _) => (b, sc)
  | _ => ([], default)
theorem compact {h₀ h : Heap} {L : Addr} {m : Str → Option Value} (F : Fr h₀ L h m) (ps : List (Str × Value)) (hp : ∀ p ∈ ps, m p.1 = some p.2) : Fr h₀ L h (kstB m ps) := by
  have e : kstB m ps = m := funext fun z => kstB_eq hp fun _ => rfl
  rw [e]
  exact F
section
variable {prog : Program} {A : Around} {E : Value → Shared → Prop} {s : Shared} {h₀ : Heap} {L : Addr} {news : List (Addr × Obj)} {value slice : Expr} {l : Addr} {vs : List Value} {c : Nat} {v : Int} {u : Tok} {Q : Value → Shared → Prop}
theorem item_one (N : News h₀ L s.heap news) (hm : (l, listOf vs.toArray c) ∈ news) (hi : IntsAre vs [v]) (h : ∀ t, Q (.int v t) s)
    (hs : subscripted slice false (.ref l) (.int 0 u) = operate [.ref l, .int 0 u] (getItem (.ref l) (.int 0 u)) := by with_unfolding_all rfl) (hg : ∀ r, letTemporaryGo value (.ref l) r = pure () := by intro _; with_unfolding_all rfl) :
    wpAny (model prog w) A (subscriptTail value slice (.ref l) (.int 0 u)) Q E s := by
  obtain ⟨t, hx⟩ := hi.get 0 v rfl
  exact kim_list N hm rfl rfl (by decide) (by decide) hx (h t) hs hg
end
end
end Mine

-- part S1
namespace Mine
section
open PySem PySem.W PySem.Calls PyProof.Rows
set_option maxHeartbeats 1500000
variable {w : World} {loose : List Str} {mean : ExcName → Option Value} {mg mb : Str → Option Value}
local macro_rules | `(tactic| walk_at "mine ask") => `(tactic| (
  (case k1 => k_asm); (case k2 => k_asm); (case k3 => k_asm); (case k4 => k_asm); (case k5 => k_asm); (case kK => first | exact rfl | assumption); (case kd => ktr_room); (case ku => ktr_units)))
local macro_rules | `(tactic| walk_at "call ref") => `(tactic| (k_here; refine halt ?_))
local macro_rules | `(tactic| walk_at "call ref") => `(tactic| (k_here; (with_reducible show wpAny _ _ (call (Value.ref 77) _) _ _ _); k_dflt (refine' u_encode ?k1 ?k2 ?k3 ?k4 ?k5 ?kK ?p1 ?p2 ?kd ?ku ?_; walk_at "mine ask"; (case p1 => omega); (case p2 => omega)); intro y9 t9 h9 tk9 e9 lo9 hi9 F9 N9; (try dsimp only); (try k_sweep); (try k_fold); walk_say "MINE encode"))
local macro_rules | `(tactic| walk_at "mine eq") => `(tactic| first | rfl | assumption | omega)
local macro_rules | `(tactic| walk_at "call ref") => `(tactic| (k_here; (with_reducible show wpAny _ _ (call (Value.ref 93) _) _ _ _); k_dflt (refine' use1 (c_same _ _ _ _ _) ?k1 ?k2 ?k3 ?k4 ?k5 ?kK ?kp ?kd ?ku ?_; walk_at "mine ask"; (case kp => walk_at "mine eq")); intro t9 h9 tk9 F9 N9; (try dsimp only); (try k_sweep); (try k_fold); walk_say "MINE same"))

local macro_rules | `(tactic| walk_at "binaryOp Mod int int") => `(tactic| (k_here; (refine o_draw (by decide) ?_); intro v9 lo9 hi9; (try dsimp only); walk_say "MINE draw"))
local macro_rules | `(tactic| walk_at "execs cons") => `(tactic| (k_here; (with_reducible show wpAny _ _ (execs (Stmt.Assign [Expr.Name (Str.ofString "steps") _] _ _ :: _) _) _ _ _); refine halt ?_))
local macro_rules | `(tactic| walk_at "mine end1") => `(tactic| (refine go_on ?_; (rename Fr _ _ _ _ => lF'); (rename News _ _ _ _ => lN'); (rename (∀ (_ : Str → Option Value) (_ _ : Addr), _) => ret'); refine' ret' _ _ _ _ _ _ _ _ _ _ _ _ _ _ _ _ _ _ _ _ _ _ _ _ _ _ _ _ _ _ lF' (cb_drop lN' ?ll) ?m1 ?m2 ?m3 ?m4 ?a1 ?a2 ?rr ?b1 ?b2 ?c0 ?c1 ?c2 ?c3 ?d1 ?d2 ?d3 ?d4 ?d5 ?d6 ?d7 ?d8 ?e1 ?e2 ?e3 ?e4 ?e5 ?e6 ?e7 ?e8 ?ln; (case m1 => with_unfolding_all rfl); (case m2 => with_unfolding_all rfl); (case m3 => with_unfolding_all rfl); (case m4 => with_unfolding_all rfl); (case ll => kcf_all); (case rr => exact rfl); (case a1 => omega); (case a2 => omega); (case b1 => assumption); (case b2 => assumption); (case c0 => assumption); (case c1 => assumption); (case c2 => assumption); (case c3 => assumption); (case d1 => assumption); (case d2 => assumption); (case d3 => assumption); (case d4 => assumption); (case d5 => assumption); (case d6 => assumption); (case d7 => assumption); (case d8 => assumption); (case e1 => assumption); (case e2 => assumption); (case e3 => assumption); (case e4 => assumption); (case e5 => assumption); (case e6 => assumption); (case e7 => assumption); (case e8 => assumption); (case ln => assumption)))
theorem seg1 (bs : List Stmt × Scope) (hbs : lawDef = bs) {dp un : Nat} {gd : Option (List Code)} {fa : Addr} {ccd : Value} {outer : List Env} {A₀ : Around} {base h₀ : Heap} {L : Addr} {s : Shared} {Q : Flow → Shared → Prop} {U : Str → Option Value} {l : Addr} {o1 o2 o3 : Obj} {vs : List Value} {ns : List Int}
    (B0 : Below A₀ base outer h₀) (F : Fr h₀ L s.heap (kstB U [(Str.ofString "script", .ref l)])) (X : (hd.heap_39 w.params).In h₀)
    (N : News h₀ L s.heap [(L + 1 + 1 + 1, o3), (L + 1 + 1, o2), (L + 1, o1)]) (T : Top hd.view_39 loose mean mg mb h₀)
    (hl : h₀.IsList l vs.toArray) (hI : IntsAre vs ns) (hmost : ns.length ≤ 63)
    (hdp : dp + 20 < recursionLimit) (hu : un + 8 * 20 < cLine)
    (ret0 : ∀ m' news' h' tk', Fr h₀ L h' m' → News h₀ L h' news' → Q (.ret (.bool true)) { s with heap := h', toks := tk' })
    (ret : ∀ (m' : Str → Option Value) (a1 a2 : Addr) (n0 n1 n2 n3 p0 p1 p2 p3 r c0 c1 c2 c3 R : Int) (tb t0 t1 t2 t3 u0 u1 u2 u3 : Tok) (k1 k2 : Nat) h' tk', Fr h₀ L h' m' →
      News h₀ L h' [(a2, listOf #[.int p0 u0, .int p1 u1, .int p2 u2, .int p3 u3] k2), (a1, listOf #[.int n0 t0, .int n1 t1, .int n2 t2, .int n3 t3] k1), (L + 1 + 1 + 1, o3), (L + 1 + 1, o2), (L + 1, o1)] →
      m' (Str.ofString "script") = some (.ref l) → m' (Str.ofString "nibbles") = some (.ref a1) → m' (Str.ofString "places") = some (.ref a2) → m' (Str.ofString "register") = some (.int R tb) →
      @LT.lt Nat _ (L + 1 + 1 + 1) a1 → @LT.lt Nat _ a1 a2 → R = (((r * 128 + c0) * 128 + c1) * 128 + c2) * 128 + c3 → 0 ≤ r → r < 16 → c0 = codes.getD n0.toNat 0 → c1 = codes.getD n1.toNat 0 → c2 = codes.getD n2.toNat 0 → c3 = codes.getD n3.toNat 0 →
      0 ≤ n0 → n0 < 16 → 0 ≤ n1 → n1 < 16 → 0 ≤ n2 → n2 < 16 → 0 ≤ n3 → n3 < 16 → 0 ≤ p0 → p0 < 12 → 0 ≤ p1 → p1 < 12 → 0 ≤ p2 → p2 < 12 → 0 ≤ p3 → p3 < 12 → ¬ (ns.length : Int) < 14 →
      wpAny (model PySem.Challenge.rw_sx_zbitworks_6.row.prog w) (ktrTop dp un gd (Str.ofString "law") bs.2 L fa ccd (cellsFrom (L + 1) bs.2.names []) outer) (execs (bs.1.drop 5) (envOfC (Str.ofString "law") bs.2 L fa ccd)) Q (fun _ _ => False) { s with heap := h', toks := tk' }) :
    wpAny (model PySem.Challenge.rw_sx_zbitworks_6.row.prog w) (ktrTop dp un gd (Str.ofString "law") bs.2 L fa ccd (cellsFrom (L + 1) bs.2.names []) outer) (execs bs.1 (envOfC (Str.ofString "law") bs.2 L fa ccd)) Q (fun _ _ => False) s := by
  conv at hbs => lhs; whnf
  subst hbs
  dsimp only [List.drop] at ret ⊢
  revert X
  w_top off
  k_fill
  intro X
  dsimp only [kstB] at F
  (try k_fold)
  k_steps
  · exact ret0 _ _ _ _ (by assumption) (by assumption)
  · walk_at "mine end1"
end
end Mine

-- part S2
namespace Mine
section
open PySem PySem.W PySem.Calls PyProof.Rows
set_option maxHeartbeats 2500000
variable {w : World} {loose : List Str} {mean : ExcName → Option Value} {mg mb : Str → Option Value}
local macro_rules | `(tactic| walk_at "mine ask") => `(tactic| (
  (case k1 => k_asm); (case k2 => k_asm); (case k3 => k_asm); (case k4 => k_asm); (case k5 => k_asm); (case kK => first | exact rfl | assumption); (case kd => ktr_room); (case ku => ktr_units)))
local macro_rules | `(tactic| walk_at "call ref") => `(tactic| (k_here; refine halt ?_))
local macro_rules | `(tactic| walk_at "call ref") => `(tactic| (k_here; (with_reducible show wpAny _ _ (call (Value.ref 42) _) _ _ _); k_dflt (refine' u_xorshift ?k1 ?k2 ?k3 ?k4 ?k5 ?kK ?p1 ?p2 ?kd ?ku ?_; walk_at "mine ask"; (case p1 => omega); (case p2 => omega)); intro y9 t9 h9 tk9 e9 lo9 hi9 b9 F9 N9; (try dsimp only); (try k_sweep); (try k_fold); walk_say "MINE xorshift"))
local macro_rules | `(tactic| walk_at "call ref") => `(tactic| (k_here; (with_reducible show wpAny _ _ (call (Value.ref 117) _) _ _ _); k_dflt (refine' u_step ?k1 ?k2 ?k3 ?k4 ?k5 ?kK ?p1 ?p2 ?kd ?ku ?_; walk_at "mine ask"; (case p1 => omega); (case p2 => omega)); intro t9 h9 tk9 F9 N9; (try dsimp only); (try k_sweep); (try k_fold); walk_say "MINE step"))
local macro_rules | `(tactic| walk_at "call ref") => `(tactic| (k_here; (with_reducible show wpAny _ _ (call (Value.ref 63) _) _ _ _); k_dflt (refine' u_back ?k1 ?k2 ?k3 ?k4 ?k5 ?kK ?p1 ?p2 ?kd ?ku ?_; walk_at "mine ask"; (case p1 => omega); (case p2 => omega)); intro y9 t9 h9 tk9 e9 lo9 hi9 b9 F9 N9; (try ((have q9 := Eq.trans e9 (by assumption)); clear e9; subst y9; walk_say "MINE back known")); (try dsimp only); (try k_sweep); (try k_fold); walk_say "MINE back"))
local macro_rules | `(tactic| walk_at "mine eq") => `(tactic| first | rfl | assumption | omega)
local macro_rules | `(tactic| walk_at "call ref") => `(tactic| (k_here; (with_reducible show wpAny _ _ (call (Value.ref 93) _) _ _ _); k_dflt (refine' use1 (c_same _ _ _ _ _) ?k1 ?k2 ?k3 ?k4 ?k5 ?kK ?kp ?kd ?ku ?_; walk_at "mine ask"; (case kp => walk_at "mine eq")); intro t9 h9 tk9 F9 N9; (try dsimp only); (try k_sweep); (try k_fold); walk_say "MINE same"))

local macro_rules | `(tactic| walk_at "binaryOp Mod int int") => `(tactic| (k_here; (refine o_draw (by decide) ?_); intro v9 lo9 hi9; (try dsimp only); walk_say "MINE draw"))
local macro_rules | `(tactic| walk_at "execs cons") => `(tactic| (k_here; (with_reducible show wpAny _ _ (execs (Stmt.Assign [Expr.Name (Str.ofString "before") _] _ _ :: _) _) _ _ _); refine halt ?_))
section
variable {prog : Program} {A : Around} {E : Value → Shared → Prop} {s : Shared} {h₀ : Heap} {L : Addr} {news : List (Addr × Obj)} {value slice : Expr} {l : Addr} {vs : List Value} {c : Nat} {v k : Int} {t u : Tok} {Q : Value → Shared → Prop}
theorem item_lit (N : News h₀ L s.heap news) (hm : (l, listOf vs.toArray c) ∈ news) (h0 : 0 ≤ k) (hfit : k < 2 ^ 63) (hx : vs[k.toNat]? = some (.int v t)) (h : Q (.int v t) s)
    (hs : subscripted slice false (.ref l) (.int k u) = operate [.ref l, .int k u] (getItem (.ref l) (.int k u)) := by with_unfolding_all rfl) (hg : ∀ r, letTemporaryGo value (.ref l) r = pure () := by intro _; with_unfolding_all rfl) :
    wpAny (model prog w) A (subscriptTail value slice (.ref l) (.int k u)) Q E s := kim_list N hm rfl rfl h0 hfit hx h hs hg
end
local macro_rules | `(tactic| walk_at "mine item lit") => `(tactic| (k_here; (with_reducible show wpAny _ _ (subscriptTail _ _ (Value.ref _) (Value.int _ _)) _ _ _); k_dflt (refine' item_lit ?kN ?kM ?k0 ?k1 ?kX ?_; (case kN => k_asm); (case kM => kcf_m); (case k0 => omega); (case k1 => omega); (case kX => first | exact rfl | (rw [show Int.toNat _ = 1 from by omega]; exact rfl) | (rw [show Int.toNat _ = 2 from by omega]; exact rfl) | (rw [show Int.toNat _ = 3 from by omega]; exact rfl) | (rw [show Int.toNat _ = 0 from by omega]; exact rfl))); walk_say "MINE item lit"))
local macro_rules | `(tactic| walk_at "subscriptTail") => `(tactic| walk_at "mine item lit")
local macro_rules | `(tactic| walk_at "subscriptTail Name Name ref int") => `(tactic| walk_at "mine item lit")
local macro_rules | `(tactic| walk_at "subscriptTail Name BinOp ref int") => `(tactic| walk_at "mine item lit")
local macro_rules | `(tactic| walk_at "mine eq") => `(tactic| first | rfl | assumption | omega)
theorem seg2 (bs : List Stmt × Scope) (hbs : lawDef = bs) {dp un : Nat} {gd : Option (List Code)} {fa : Addr} {ccd : Value} {outer : List Env} {A₀ : Around} {base h₀ : Heap} {L : Addr} {s : Shared} {Q : Flow → Shared → Prop} {U : Str → Option Value} {a1 a2 l : Addr} {o1 o2 o3 v1 v2 : Obj} {vs : List Value} {ns : List Int}
    {R : Int} {tb : Tok}
    (B0 : Below A₀ base outer h₀) (F : Fr h₀ L s.heap (kstB U [(Str.ofString "script", .ref l), (Str.ofString "nibbles", .ref a1), (Str.ofString "places", .ref a2), (Str.ofString "register", .int R tb)])) (X : (hd.heap_39 w.params).In h₀)
    (N : News h₀ L s.heap [(a2, v2), (a1, v1), (L + 1 + 1 + 1, o3), (L + 1 + 1, o2), (L + 1, o1)]) (T : Top hd.view_39 loose mean mg mb h₀)
    (hl : h₀.IsList l vs.toArray) (hI : IntsAre vs ns) (hlen : ¬ (ns.length : Int) < 14) (hmost : ns.length ≤ 63)
    (ha1 : @LT.lt Nat _ (L + 1 + 1 + 1) a1) (ha2 : @LT.lt Nat _ a1 a2) (hR0 : 0 ≤ R) (hR1 : R < 4294967296)
    (hdp : dp + 20 < recursionLimit) (hu : un + 8 * 20 < cLine)
    (ret : ∀ (m' : Str → Option Value) (bk d : Int) (tb td : Tok) h' tk', m' (Str.ofString "script") = some (.ref l) → m' (Str.ofString "nibbles") = some (.ref a1) → m' (Str.ofString "places") = some (.ref a2) → m' (Str.ofString "back") = some (.int bk tb) → m' (Str.ofString "damaged") = some (.int d td) → bk = R → 0 ≤ d → d < 4294967296 → Fr h₀ L h' m' → News h₀ L h' [(a2, v2), (a1, v1), (L + 1 + 1 + 1, o3), (L + 1 + 1, o2), (L + 1, o1)] →
      wpAny (model PySem.Challenge.rw_sx_zbitworks_6.row.prog w) (ktrTop dp un gd (Str.ofString "law") bs.2 L fa ccd (cellsFrom (L + 1) bs.2.names []) outer) (execs (bs.1.drop 11) (envOfC (Str.ofString "law") bs.2 L fa ccd)) Q (fun _ _ => False) { s with heap := h', toks := tk' }) :
    wpAny (model PySem.Challenge.rw_sx_zbitworks_6.row.prog w) (ktrTop dp un gd (Str.ofString "law") bs.2 L fa ccd (cellsFrom (L + 1) bs.2.names []) outer) (execs (bs.1.drop 5) (envOfC (Str.ofString "law") bs.2 L fa ccd)) Q (fun _ _ => False) s := by
  conv at hbs => lhs; whnf
  subst hbs
  dsimp only [List.drop] at ret ⊢
  revert X
  w_top off
  k_fill
  intro X
  dsimp only [kstB] at F
  (try k_fold)
  k_steps
  all_goals (refine go_on ?_; (rename Fr _ _ _ _ => lF'); (rename News _ _ _ _ => lN'); exact ret _ _ _ _ _ _ _ (by with_unfolding_all rfl) (by with_unfolding_all rfl) (by with_unfolding_all rfl) (by with_unfolding_all rfl) (by with_unfolding_all rfl) (by omega) (xor_rng (by assumption) (by assumption) (by assumption) (by assumption)).1 (xor_rng (by assumption) (by assumption) (by assumption) (by assumption)).2 lF' (cb_drop lN' (by kcf_all)))
end
end Mine

-- part S3
namespace Mine
section
open PySem PySem.W PySem.Calls PyProof.Rows
set_option maxHeartbeats 2500000
variable {w : World} {loose : List Str} {mean : ExcName → Option Value} {mg mb : Str → Option Value}
theorem fold_filter {P : Int → Prop} [DecidablePred P] (g : Int → Int) : ∀ (ks : List Int) (l : List Int), List.foldl (fun l k => if P k then l ++ [g k] else l) l ks = l ++ (ks.filter (fun k => decide (P k))).map g
  | [], l => by simp
  | k :: ks, l => by
    rw [List.foldl_cons, fold_filter g ks]
    by_cases h : P k
    · simp [h]
    · simp [h]
theorem range64 : rangeKs 0 (64 - 0 : Int).toNat = (List.range 64).map (fun n : Nat => (n : Int)) := by decide +kernel
theorem ints_right {ys : List Value} {s v y : Int} (hF : IntsAre ys (List.foldl (fun l' k' => if Builtin.bitXor k' (k'.fdiv (2 ^ (1 + v).toNat)) = s then l' ++ [k'] else l') [] (rangeKs 0 (64 - 0 : Int).toNat)))
    (e : y = uRI s (1 + v)) (h0 : 0 ≤ s) (h1 : s < 64) (h2 : 0 ≤ v) (h3 : v < 7) : IntsAre ys [y] := by
  rw [fold_filter (P := fun k' => Builtin.bitXor k' (k'.fdiv (2 ^ (1 + v).toNat)) = s) (fun k => k), List.nil_append, List.map_id', range64] at hF
  have h := only_right ⟨s.toNat, by omega⟩ ⟨v.toNat, by omega⟩
  have e1 : ((s.toNat : Nat) : Int) = s := Int.toNat_of_nonneg h0
  have e2 : ((v.toNat : Nat) : Int) + 1 = 1 + v := by omega
  have e3 : v.toNat + 1 = (1 + v).toNat := by omega
  simp only [e1, e2, e3] at h
  rw [h, ← e] at hF
  exact hF
theorem ints_left {ys : List Value} {s v y : Int} (hF : IntsAre ys (List.foldl (fun l' k' => if Builtin.bitXor k' ((k' * 2 ^ (1 + v).toNat).fmod 64) = s then l' ++ [k' * 67108864] else l') [] (rangeKs 0 (64 - 0 : Int).toNat)))
    (e : y = uLI (s * 67108864) (1 + v)) (h0 : 0 ≤ s) (h1 : s < 64) (h2 : 0 ≤ v) (h3 : v < 7) : IntsAre ys [y] := by
  rw [fold_filter (P := fun k' => Builtin.bitXor k' ((k' * 2 ^ (1 + v).toNat).fmod 64) = s) (fun k => k * 67108864), List.nil_append, range64] at hF
  have h := only_left ⟨s.toNat, by omega⟩ ⟨v.toNat, by omega⟩
  have e1 : ((s.toNat : Nat) : Int) = s := Int.toNat_of_nonneg h0
  have e2 : ((v.toNat : Nat) : Int) + 1 = 1 + v := by omega
  have e3 : v.toNat + 1 = (1 + v).toNat := by omega
  simp only [e1, e2, e3] at h
  rw [h, ← e] at hF
  exact hF
local macro_rules | `(tactic| k_ne) => `(tactic| ((refine neN ?_); (try dsimp only); (rename (@Ne Nat _ _ ∧ @Ne Nat _ _ ∧ @Ne Nat _ _) ∧ _ => hC9); first | exact hC9.1.1 | exact hC9.1.2.1 | exact hC9.1.2.2 | exact hC9.2.1.1 | exact hC9.2.1.2.1 | exact hC9.2.1.2.2 | exact hC9.2.2.1.1 | exact hC9.2.2.1.2.1 | exact hC9.2.2.1.2.2 | exact hC9.2.2.2.1.1 | exact hC9.2.2.2.1.2.1 | exact hC9.2.2.2.1.2.2 | exact hC9.2.2.2.2.1.1 | exact hC9.2.2.2.2.1.2.1 | exact hC9.2.2.2.2.1.2.2 | exact hC9.2.2.2.2.2.1.1 | exact hC9.2.2.2.2.2.1.2.1 | exact hC9.2.2.2.2.2.1.2.2 | exact hC9.2.2.2.2.2.2.1.1 | exact hC9.2.2.2.2.2.2.1.2.1 | exact hC9.2.2.2.2.2.2.1.2.2 | exact hC9.2.2.2.2.2.2.2.1.1 | exact hC9.2.2.2.2.2.2.2.1.2.1 | exact hC9.2.2.2.2.2.2.2.1.2.2 | exact hC9.2.2.2.2.2.2.2.2.1.1 | exact hC9.2.2.2.2.2.2.2.2.1.2.1 | exact hC9.2.2.2.2.2.2.2.2.1.2.2 | exact hC9.2.2.2.2.2.2.2.2.2.1.1 | exact hC9.2.2.2.2.2.2.2.2.2.1.2.1 | exact hC9.2.2.2.2.2.2.2.2.2.1.2.2 | exact hC9.2.2.1 | exact hC9.2.2.2.1 | exact hC9.2.2.2.2 | exact hC9.2.2.2.1 | exact hC9.2.2.2.2.1 | exact hC9.2.2.2.2.2 | exact hC9.2.2.2.2.1 | exact hC9.2.2.2.2.2.1 | exact hC9.2.2.2.2.2.2 | exact hC9.2.2.2.2.2.1 | exact hC9.2.2.2.2.2.2.1 | exact hC9.2.2.2.2.2.2.2 | exact hC9.2.2.2.2.2.2.1 | exact hC9.2.2.2.2.2.2.2.1 | exact hC9.2.2.2.2.2.2.2.2 | exact hC9.2.2.2.2.2.2.2.1 | exact hC9.2.2.2.2.2.2.2.2.1 | exact hC9.2.2.2.2.2.2.2.2.2 | exact hC9.2.2.2.2.2.2.2.2.1 | exact hC9.2.2.2.2.2.2.2.2.2.1 | exact hC9.2.2.2.2.2.2.2.2.2.2 | exact hC9.2.2.2.2.2.2.2.2.2.1 | exact hC9.2.2.2.2.2.2.2.2.2.2.1 | exact hC9.2.2.2.2.2.2.2.2.2.2.2))
local macro_rules | `(tactic| walk_at "mine ask") => `(tactic| (
  (case k1 => k_asm); (case k2 => k_asm); (case k3 => k_asm); (case k4 => k_asm); (case k5 => k_asm); (case kK => first | exact rfl | assumption); (case kd => ktr_room); (case ku => ktr_units)))
local macro_rules | `(tactic| walk_at "call ref") => `(tactic| (k_here; refine halt ?_))
local macro_rules | `(tactic| walk_at "call ref") => `(tactic| (k_here; (with_reducible show wpAny _ _ (call (Value.ref 117) _) _ _ _); k_dflt (refine' u_step ?k1 ?k2 ?k3 ?k4 ?k5 ?kK ?p1 ?p2 ?kd ?ku ?_; walk_at "mine ask"; (case p1 => omega); (case p2 => omega)); intro t9 h9 tk9 F9 N9; (try dsimp only); (try k_sweep); (try k_fold); walk_say "MINE step"))
local macro_rules | `(tactic| walk_at "call ref") => `(tactic| (k_here; (with_reducible show wpAny _ _ (call (Value.ref 63) _) _ _ _); k_dflt (refine' u_back ?k1 ?k2 ?k3 ?k4 ?k5 ?kK ?p1 ?p2 ?kd ?ku ?_; walk_at "mine ask"; (case p1 => omega); (case p2 => omega)); intro y9 t9 h9 tk9 e9 lo9 hi9 b9 F9 N9; (try dsimp only); (try k_sweep); (try k_fold); walk_say "MINE back"))
local macro_rules | `(tactic| walk_at "call ref") => `(tactic| (k_here; (with_reducible show wpAny _ _ (call (Value.ref 49) _) _ _ _); k_dflt (refine' u_left ?k1 ?k2 ?k3 ?k4 ?k5 ?kK ?p1 ?p2 ?p3 ?p4 ?kd ?ku ?_; walk_at "mine ask"; (case p1 => omega); (case p2 => omega); (case p3 => omega); (case p4 => omega)); intro y9 t9 h9 tk9 e9 lo9 hi9 b9 F9 N9; (try ((rename IntsAre _ (List.foldl _ _ _) => hF9); (have hG9 := ints_left hF9 e9 (by assumption) (by assumption) (by assumption) (by assumption)); clear hF9; (rename List.length _ = List.length _ => hL9); clear hL9; walk_say "MINE only left")); (try dsimp only); (try k_sweep); (try k_fold); walk_say "MINE undo_left"))
local macro_rules | `(tactic| walk_at "call ref") => `(tactic| (k_here; (with_reducible show wpAny _ _ (call (Value.ref 56) _) _ _ _); k_dflt (refine' u_right ?k1 ?k2 ?k3 ?k4 ?k5 ?kK ?p1 ?p2 ?p3 ?p4 ?kd ?ku ?_; walk_at "mine ask"; (case p1 => omega); (case p2 => omega); (case p3 => omega); (case p4 => omega)); intro y9 t9 h9 tk9 e9 lo9 hi9 b9 F9 N9; (try ((rename IntsAre _ (List.foldl _ _ _) => hF9); (have hG9 := ints_right hF9 e9 (by assumption) (by assumption) (by assumption) (by assumption)); clear hF9; (rename List.length _ = List.length _ => hL9); clear hL9; walk_say "MINE only right")); (try dsimp only); (try k_sweep); (try k_fold); walk_say "MINE undo_right"))
local macro_rules | `(tactic| walk_at "call ref") => `(tactic| (k_here; (with_reducible show wpAny _ _ (call (Value.ref 100) _) _ _ _); k_dflt (refine' use1 (c_is_state _ _ _) ?k1 ?k2 ?k3 ?k4 ?k5 ?kK ?kp ?kd ?ku ?_; walk_at "mine ask"; (case kp => (refine ⟨?_, ?_⟩ <;> omega))); intro t9 h9 tk9 F9 N9; (try dsimp only); (try k_sweep); (try k_fold); walk_say "MINE is_state"))

local macro_rules | `(tactic| walk_at "binaryOp Mod int int") => `(tactic| (k_here; (refine o_draw (by decide) ?_); intro v9 lo9 hi9; (try dsimp only); walk_say "MINE draw"))
local macro_rules | `(tactic| walk_at "binaryOp Mod int int") => `(tactic| (k_here; (with_reducible show wpAny _ _ (binaryOp _ (Value.int (_ * _) _) _) _ _ _); (refine mod_int' (by decide) ?_)))
local macro_rules | `(tactic| walk_at "binaryOp Mult int int") => `(tactic| (with_reducible refine o_mulPow ?q1 ?_; (case q1 => omega)))
local macro_rules | `(tactic| walk_at "execs cons") => `(tactic| (k_here; (with_reducible show wpAny _ _ (execs (Stmt.For (Expr.Name (Str.ofString "i") _) _ _ _ _ :: _) _) _ _ _); refine halt ?_))
theorem seg3 (bs : List Stmt × Scope) (hbs : lawDef = bs) {dp un : Nat} {gd : Option (List Code)} {fa : Addr} {ccd : Value} {outer : List Env} {A₀ : Around} {base h₀ : Heap} {L : Addr} {s : Shared} {Q : Flow → Shared → Prop} {U : Str → Option Value} {a1 a2 l : Addr} {o1 o2 o3 v1 v2 : Obj} {x1 x2 : Option Value} {vs : List Value} {ns : List Int}
    {R d : Int} {tb td : Tok}
    (B0 : Below A₀ base outer h₀) (F : Fr h₀ L s.heap (kstB U [(Str.ofString "script", .ref l), (Str.ofString "nibbles", .ref a1), (Str.ofString "places", .ref a2), (Str.ofString "back", .int R tb), (Str.ofString "damaged", .int d td)])) (X : (hd.heap_39 w.params).In h₀)
    (N : News h₀ L s.heap [(a2, v2), (a1, v1), (L + 1 + 1 + 1, o3), (L + 1 + 1, o2), (L + 1, o1)]) (T : Top hd.view_39 loose mean mg mb h₀)
    (hl : h₀.IsList l vs.toArray) (hI : IntsAre vs ns) (hlen : ¬ (ns.length : Int) < 14) (hmost : ns.length ≤ 63)
    (hx1 : o1.data = .cell x1) (hx2 : o2.data = .cell x2) (ha1 : @LT.lt Nat _ (L + 1 + 1 + 1) a1) (ha2 : @LT.lt Nat _ a1 a2) (hd0 : 0 ≤ d) (hd1 : d < 4294967296)
    (hdp : dp + 20 < recursionLimit) (hu : un + 8 * 20 < cLine)
    (ret : ∀ (m' : Str → Option Value) (p1 p2 : Obj) h' tk', m' (Str.ofString "nibbles") = some (.ref a1) → m' (Str.ofString "places") = some (.ref a2) → m' (Str.ofString "back") = some (.int R tb) → Fr h₀ L h' m' → News h₀ L h' [(a2, v2), (a1, v1), (L + 1 + 1 + 1, o3), (L + 1 + 1, p2), (L + 1, p1)] →
      wpAny (model PySem.Challenge.rw_sx_zbitworks_6.row.prog w) (ktrTop dp un gd (Str.ofString "law") bs.2 L fa ccd (cellsFrom (L + 1) bs.2.names []) outer) (execs (bs.1.drop 27) (envOfC (Str.ofString "law") bs.2 L fa ccd)) Q (fun _ _ => False) { s with heap := h', toks := tk' }) :
    wpAny (model PySem.Challenge.rw_sx_zbitworks_6.row.prog w) (ktrTop dp un gd (Str.ofString "law") bs.2 L fa ccd (cellsFrom (L + 1) bs.2.names []) outer) (execs (bs.1.drop 11) (envOfC (Str.ofString "law") bs.2 L fa ccd)) Q (fun _ _ => False) s := by
  conv at hbs => lhs; whnf
  subst hbs
  dsimp only [List.drop] at ret ⊢
  revert X
  w_top off
  k_fill
  intro X
  dsimp only [kstB] at F
  (try k_fold)
  k_steps
  · exfalso; omega
  · exfalso; omega
  · exfalso; omega
  · refine go_on ?_
    (rename Fr _ _ _ _ => lF'); (rename News _ _ _ _ => lN')
    exact ret _ _ _ _ _ (by with_unfolding_all rfl) (by with_unfolding_all rfl) (by with_unfolding_all rfl) lF' (cb_drop lN' (by kcf_all))
end
end Mine

-- part S4
namespace Mine
section
open PySem PySem.W PySem.Calls PyProof.Rows
set_option maxHeartbeats 2500000
variable {w : World} {loose : List Str} {mean : ExcName → Option Value} {mg mb : Str → Option Value}
theorem fold_filter4 {P : Int → Prop} [DecidablePred P] (g : Int → Int) : ∀ (ks : List Int) (l : List Int), List.foldl (fun l k => if P k then l ++ [g k] else l) l ks = l ++ (ks.filter (fun k => decide (P k))).map g
  | [], l => by simp
  | k :: ks, l => by
    rw [List.foldl_cons, fold_filter4 g ks]
    by_cases h : P k
    · simp [h]
    · simp [h]
theorem range8 : rangeKs 0 (8 - 0 : Int).toNat = (List.range 8).map (fun n : Nat => (n : Int)) := by decide +kernel
theorem ints_named {ys : List Value} {v : Int} (hF : IntsAre ys (List.foldl (fun l' k' => if [0, 1, 2, 4, 8, 16, 32, 64, 3, 96, 20, 127].getD k'.toNat 0 = Builtin.bitXor v ([0, 7, 25, 30, 42, 45, 51, 52, 75, 76, 82, 85, 97, 102, 120, 127].getD (decI v).toNat 0) then l' ++ [k'] else l') [] (rangeKs 0 (8 - 0 : Int).toNat)))
    (h0 : 0 ≤ v) (h1 : v < 128) : IntsAre ys [synI v] := by
  have hF' : IntsAre ys (List.foldl (fun l' k' => if damages.getD k'.toNat 0 = Builtin.bitXor v (codes.getD (decI v).toNat 0) then l' ++ [k'] else l') [] (rangeKs 0 (8 - 0 : Int).toNat)) := hF
  rw [fold_filter4 (P := fun k' : Int => damages.getD k'.toNat 0 = Builtin.bitXor v (codes.getD (decI v).toNat 0)) (fun k => k), List.nil_append, List.map_id', range8, named_w h0 h1] at hF'
  exact hF'
theorem lt8_n {k m : Int} (h : k < 0 + ((8 - 0 : Int).toNat : Int)) (hm : 8 ≤ m) : k < m := by
  have e : ((8 - 0 : Int).toNat : Int) = 8 := rfl
  omega
local macro_rules | `(tactic| k_ne) => `(tactic| ((refine neN ?_); (try dsimp only); (rename (@Ne Nat _ _ ∧ @Ne Nat _ _ ∧ @Ne Nat _ _) ∧ _ => hC9); first | exact hC9.1.1 | exact hC9.1.2.1 | exact hC9.1.2.2 | exact hC9.2.1.1 | exact hC9.2.1.2.1 | exact hC9.2.1.2.2 | exact hC9.2.2.1.1 | exact hC9.2.2.1.2.1 | exact hC9.2.2.1.2.2 | exact hC9.2.2.2.1.1 | exact hC9.2.2.2.1.2.1 | exact hC9.2.2.2.1.2.2 | exact hC9.2.2.2.2.1.1 | exact hC9.2.2.2.2.1.2.1 | exact hC9.2.2.2.2.1.2.2 | exact hC9.2.2.2.2.2.1.1 | exact hC9.2.2.2.2.2.1.2.1 | exact hC9.2.2.2.2.2.1.2.2 | exact hC9.2.2.2.2.2.2.1.1 | exact hC9.2.2.2.2.2.2.1.2.1 | exact hC9.2.2.2.2.2.2.1.2.2 | exact hC9.2.2.2.2.2.2.2.1.1 | exact hC9.2.2.2.2.2.2.2.1.2.1 | exact hC9.2.2.2.2.2.2.2.1.2.2 | exact hC9.2.2.2.2.2.2.2.2.1.1 | exact hC9.2.2.2.2.2.2.2.2.1.2.1 | exact hC9.2.2.2.2.2.2.2.2.1.2.2 | exact hC9.2.2.2.2.2.2.2.2.2.1.1 | exact hC9.2.2.2.2.2.2.2.2.2.1.2.1 | exact hC9.2.2.2.2.2.2.2.2.2.1.2.2 | exact hC9.2.2.1 | exact hC9.2.2.2.1 | exact hC9.2.2.2.2 | exact hC9.2.2.2.1 | exact hC9.2.2.2.2.1 | exact hC9.2.2.2.2.2 | exact hC9.2.2.2.2.1 | exact hC9.2.2.2.2.2.1 | exact hC9.2.2.2.2.2.2 | exact hC9.2.2.2.2.2.1 | exact hC9.2.2.2.2.2.2.1 | exact hC9.2.2.2.2.2.2.2 | exact hC9.2.2.2.2.2.2.1 | exact hC9.2.2.2.2.2.2.2.1 | exact hC9.2.2.2.2.2.2.2.2 | exact hC9.2.2.2.2.2.2.2.1 | exact hC9.2.2.2.2.2.2.2.2.1 | exact hC9.2.2.2.2.2.2.2.2.2 | exact hC9.2.2.2.2.2.2.2.2.1 | exact hC9.2.2.2.2.2.2.2.2.2.1 | exact hC9.2.2.2.2.2.2.2.2.2.2 | exact hC9.2.2.2.2.2.2.2.2.2.1 | exact hC9.2.2.2.2.2.2.2.2.2.2.1 | exact hC9.2.2.2.2.2.2.2.2.2.2.2))
local macro_rules | `(tactic| walk_at "mine ask") => `(tactic| (
  (case k1 => k_asm); (case k2 => k_asm); (case k3 => k_asm); (case k4 => k_asm); (case k5 => k_asm); (case kK => first | exact rfl | assumption); (case kd => ktr_room); (case ku => ktr_units)))
local macro_rules | `(tactic| walk_at "call ref") => `(tactic| (k_here; refine halt ?_))
local macro_rules | `(tactic| walk_at "call ref") => `(tactic| (k_here; (with_reducible show wpAny _ _ (call (Value.ref 70) _) _ _ _); k_dflt (refine' u_syndrome ?k1 ?k2 ?k3 ?k4 ?k5 ?kK  ?kd ?ku ?_; walk_at "mine ask"); intro t9 h9 tk9 F9 N9; (try dsimp only); (try k_sweep); (try k_fold); walk_say "MINE syndrome"))
local macro_rules | `(tactic| walk_at "call ref") => `(tactic| (k_here; (with_reducible show wpAny _ _ (call (Value.ref 84) _) _ _ _); k_dflt (refine' u_decode ?k1 ?k2 ?k3 ?k4 ?k5 ?kK  ?kd ?ku ?_; walk_at "mine ask"); intro D9 t9 u9 c9 h9 tk9 F9 N9 l9; (try ((rename IntsAre _ (List.foldl _ _ _) => hF9); (have hG9 := ints_named hF9 (by assumption) (by assumption)); clear hF9; (rename List.length _ = List.length _ => hL9); clear hL9; walk_say "MINE named")); (try k_lt l9); (try dsimp only); (try k_sweep); (try k_fold); walk_say "MINE decode"))
local macro_rules | `(tactic| walk_at "call ref") => `(tactic| (k_here; (with_reducible show wpAny _ _ (call (Value.ref 129) _) _ _ _); k_dflt (refine' u_nearest ?k1 ?k2 ?k3 ?k4 ?k5 ?kK ?p1 ?p2 ?kd ?ku ?_; walk_at "mine ask"; (case p1 => omega); (case p2 => omega)); intro D9 vs9 c9 h9 tk9 F9 N9 l9 I9 lo9 hi9; (try k_lt l9); (try dsimp only); (try k_sweep); (try k_fold); walk_say "MINE nearest"))
local macro_rules | `(tactic| walk_at "mine eq") => `(tactic| first | rfl | assumption | exact ((by assumption : ∀ (v : Int), _ → _ → _ ∧ _) _ (by assumption) (by assumption)).1 | exact ((by assumption : ∀ (v : Int), _ → _ → _ ∧ _) _ (by assumption) (by assumption)).2 | omega)
local macro_rules | `(tactic| walk_at "call ref") => `(tactic| (k_here; (with_reducible show wpAny _ _ (call (Value.ref 93) _) _ _ _); k_dflt (refine' use1 (c_same _ _ _ _ _) ?k1 ?k2 ?k3 ?k4 ?k5 ?kK ?kp ?kd ?ku ?_; walk_at "mine ask"; (case kp => walk_at "mine eq")); intro t9 h9 tk9 F9 N9; (try dsimp only); (try k_sweep); (try k_fold); walk_say "MINE same"))
local macro_rules | `(tactic| walk_at "call ref") => `(tactic| (k_here; (with_reducible show wpAny _ _ (call (Value.ref 107) _) _ _ _); k_dflt (refine' use1 (c_pair _ _ _ _ _ _ _ ?kM _ _ _ _) ?k1 ?k2 ?k3 ?k4 ?k5 ?kK ?kp ?kd ?ku ?_; walk_at "mine ask"; (case kM => kcf_m); (case kp => (refine ⟨?_, ?_⟩ <;> walk_at "mine eq"))); intro t9 h9 tk9 F9 N9; (try dsimp only); (try k_sweep); (try k_fold); walk_say "MINE pair"))
local macro_rules | `(tactic| walk_at "TPost") => `(tactic| (dsimp only [TPost]))
local macro_rules | `(tactic| walk_at "exec For Name Call cons nil") => `(tactic| (k_here; (rename Fr _ _ _ _ => lF'); (with_unfolding_all refine' For_invVF lF' ?k1 ?k2 ?_; (case k1 => exact rfl); (case k2 => exact rfl); k_whole)))
local macro_rules | `(tactic| walk_at "pyIter ref") => `(tactic| ((with_reducible show wpAny _ _ (pyIter (Value.ref _)) (fun it s₂ => LoopAtV _ _ _ _ _ _ _ _ _ it s₂) _ _); refine halt ?_))
local macro_rules | `(tactic| walk_at "subscriptTail") => `(tactic| (k_here; (with_reducible show wpAny _ _ (subscriptTail _ _ (Value.ref _) (Value.int 0 _)) _ _ _); k_dflt (refine' item_one ?kN ?kM ?kI ?_; (case kN => k_asm); (case kM => kcf_m); (case kI => assumption)); intro _; walk_say "MINE item one"))
local macro_rules | `(tactic| walk_at "subscriptTail Name Constant ref int") => `(tactic| (k_here; (with_reducible show wpAny _ _ (subscriptTail _ _ (Value.ref _) (Value.int 0 _)) _ _ _); k_dflt (refine' item_one ?kN ?kM ?kI ?_; (case kN => k_asm); (case kM => kcf_m); (case kI => assumption)); intro _; walk_say "MINE item one"))
local macro_rules | `(tactic| walk_at "subscriptTail") => `(tactic| (k_here; (with_reducible show wpAny _ _ (subscriptTail _ _ (Value.ref 86) (Value.int _ _)) _ _ _); k_dflt (refine' topTupAny_K ?F ?X ?l ?i ?k3 ?k4 ?k5 ?_; (case F => k_asm); (case X => k_asm); (case l => k_is); (case i => l_ints); (case k3 => first | assumption | omega); (case k4 => first | exact lt8_n (by assumption) (by decide) | (simp only [List.length_cons, List.length_nil]; omega)); (case k5 => first | exact lt8_n (by assumption) (by decide) | omega)); intro _; walk_say "MINE damages"))
local macro_rules | `(tactic| walk_at "subscriptTail") => `(tactic| (k_here; (with_reducible show wpAny _ _ (subscriptTail _ _ (Value.ref 85) (Value.int _ _)) _ _ _); k_dflt (refine' topTupAny_K ?F ?X ?l ?i ?k3 ?k4 ?k5 ?_; (case F => k_asm); (case X => k_asm); (case l => k_is); (case i => l_ints); (case k3 => omega); (case k4 => (simp only [List.length_cons, List.length_nil]; omega)); (case k5 => omega)); intro _; walk_say "MINE codes"))
section
variable {prog : Program} {A : Around} {E : Value → Shared → Prop} {s : Shared} {a b : Int} {t u : Tok} {Q : Value → Shared → Prop}
theorem o_mod128 (h : ∀ v : Int, v = a.fmod 128 → 0 ≤ v → v < 128 → synI a = synI v → Q (.int v s.toks) { s with toks := s.toks + 1 }) : wpAny (model prog w) A (binaryOp .Mod (.int a t) (.int 128 u)) Q E s :=
  mod_int' (by decide) (h _ rfl (fmod_lo a (by decide)) (fmod_hi a (by decide)) (syn_fmod a).symm)
theorem o_fdivK {k : Nat} (hk : k < 9) (h : Q (.int (a.fdiv (128 ^ k)) s.toks) { s with toks := s.toks + 1 }) : wpAny (model prog w) A (binaryOp .FloorDiv (.int a t) (.int (128 ^ k) u)) Q E s := by
  have e : (128 : Int) ^ k = 2 ^ (7 * k) := by rw [Int.pow_mul]; rfl
  rw [e] at h ⊢
  exact floordiv_int (pow2_ne _) h (Or.inl (PyProof.noPylong_of_log2 (log2_pow2 (by omega))))
end
local macro_rules | `(tactic| walk_at "binaryOp Mod int int") => `(tactic| (k_here; (refine o_mod128 ?_); intro v9 e9 lo9 hi9 sy9; (try dsimp only); walk_say "MINE mod128"))
local macro_rules | `(tactic| walk_at "binaryOp FloorDiv int int") => `(tactic| (k_here; (with_reducible refine o_fdivK ?q1 ?_); (case q1 => omega)))
theorem turn4 {n0 n1 n2 n3 p0 p1 p2 p3 r c0 c1 c2 c3 R : Int} (hR : R = (((r * 128 + c0) * 128 + c1) * 128 + c2) * 128 + c3) (hr0 : 0 ≤ r) (hc0 : c0 = codes.getD n0.toNat 0) (hc1 : c1 = codes.getD n1.toNat 0) (hc2 : c2 = codes.getD n2.toNat 0) (hc3 : c3 = codes.getD n3.toNat 0)
    (ln0 : 0 ≤ n0) (hn0 : n0 < 16) (ln1 : 0 ≤ n1) (hn1 : n1 < 16) (ln2 : 0 ≤ n2) (hn2 : n2 < 16) (ln3 : 0 ≤ n3) (hn3 : n3 < 16)
    (lp0 : 0 ≤ p0) (hp0 : p0 < 12) (lp1 : 0 ≤ p1) (hp1 : p1 < 12) (lp2 : 0 ≤ p2) (hp2 : p2 < 12) (lp3 : 0 ≤ p3) (hp3 : p3 < 12) {i : Nat} (hi : i < 4) :
    0 ≤ [p0, p1, p2, p3].getD ((i : Int)).toNat 0 ∧ [p0, p1, p2, p3].getD ((i : Int)).toNat 0 < 12 ∧ 0 ≤ [n0, n1, n2, n3].getD ((i : Int)).toNat 0 ∧ [n0, n1, n2, n3].getD ((i : Int)).toNat 0 < 16 ∧
      0 ≤ R.fdiv (128 ^ (3 - (i : Int)).toNat) ∧ (R.fdiv (128 ^ (3 - (i : Int)).toNat)).fmod 128 = codes.getD ([n0, n1, n2, n3].getD ((i : Int)).toNat 0).toNat 0 := by
  have g0 := code_lo ln0 hn0
  have g0' := code_hi ln0 hn0
  have g1 := code_lo ln1 hn1
  have g1' := code_hi ln1 hn1
  have g2 := code_lo ln2 hn2
  have g2' := code_hi ln2 hn2
  have g3 := code_lo ln3 hn3
  have g3' := code_hi ln3 hn3
  rw [← hc0] at g0 g0'
  rw [← hc1] at g1 g1'
  rw [← hc2] at g2 g2'
  rw [← hc3] at g3 g3'
  have key : ∀ (j : Nat) (c n p : Int), c = codes.getD n.toNat 0 → 0 ≤ p → p < 12 → 0 ≤ n → n < 16 → 0 ≤ R / 128 ^ j → (R / 128 ^ j) % 128 = c →
      0 ≤ p ∧ p < 12 ∧ 0 ≤ n ∧ n < 16 ∧ 0 ≤ R.fdiv (128 ^ j) ∧ (R.fdiv (128 ^ j)).fmod 128 = codes.getD n.toNat 0 := by
    intro j c n p hc h1 h2 h3 h4 h5 h6
    have hp : (0 : Int) ≤ 128 ^ j := by
      have e : ((128 ^ j : Nat) : Int) = (128 : Int) ^ j := by simp
      rw [← e]
      exact Int.natCast_nonneg _
    rw [Int.fdiv_eq_ediv_of_nonneg _ hp, Int.fmod_eq_emod_of_nonneg _ (by decide)]
    exact ⟨h1, h2, h3, h4, h5, h6.trans hc⟩
  have h : i = 0 ∨ i = 1 ∨ i = 2 ∨ i = 3 := by omega
  rcases h with rfl | rfl | rfl | rfl
  · exact key 3 c0 n0 p0 hc0 lp0 hp0 ln0 hn0 (by simp only [Int.reducePow]; omega) (by simp only [Int.reducePow]; omega)
  · exact key 2 c1 n1 p1 hc1 lp1 hp1 ln1 hn1 (by simp only [Int.reducePow]; omega) (by simp only [Int.reducePow]; omega)
  · exact key 1 c2 n2 p2 hc2 lp2 hp2 ln2 hn2 (by simp only [Int.reducePow]; omega) (by simp only [Int.reducePow]; omega)
  · exact key 0 c3 n3 p3 hc3 lp3 hp3 ln3 hn3 (by simp only [Int.reducePow]; omega) (by simp only [Int.reducePow]; omega)
def J4 (L a1 a2 : Addr) (o1 o2 : Obj) (v1 v2 : Obj) (R : Int) (tb : Tok) (m : Str → Option Value) (nx : List (Addr × Obj)) : Prop :=
  ∃ (o : Obj) (x : Option Value), nx = [(a2, v2), (a1, v1), (L + 1 + 1 + 1, o), (L + 1 + 1, o2), (L + 1, o1)] ∧ o.data = .cell x ∧ m (Str.ofString "nibbles") = some (.ref a1) ∧ m (Str.ofString "places") = some (.ref a2) ∧ m (Str.ofString "back") = some (.int R tb)
local macro_rules | `(tactic| walk_at "mine end4") => `(tactic| ((rename News _ _ _ _ => lN'); refine' TEnd.intro _ (by assumption) lN' ?mi ?sub ?off ⟨?o, ?x, rfl, ?dd, ?m1, ?m2, ?m3⟩; (case sub => kcf_all); (case mi => kcf_m); (case dd => assumption); (case off => k_all); (case m1 => with_unfolding_all rfl); (case m2 => with_unfolding_all rfl); (case m3 => with_unfolding_all rfl)))
theorem seg4 (bs : List Stmt × Scope) (hbs : lawDef = bs) {dp un : Nat} {gd : Option (List Code)} {fa : Addr} {ccd : Value} {outer : List Env} {A₀ : Around} {base h₀ : Heap} {L : Addr} {s : Shared} {Q : Flow → Shared → Prop} {U : Str → Option Value} {a1 a2 : Addr} {o1 o2 o3 : Obj} {x3 : Option Value}
    {n0 n1 n2 n3 p0 p1 p2 p3 r c0 c1 c2 c3 R : Int} {tb t0 t1 t2 t3 u0 u1 u2 u3 : Tok} {k1 k2 : Nat}
    (B0 : Below A₀ base outer h₀) (F : Fr h₀ L s.heap (kstB U [(Str.ofString "nibbles", .ref a1), (Str.ofString "places", .ref a2), (Str.ofString "back", .int R tb)])) (X : (hd.heap_39 w.params).In h₀)
    (N : News h₀ L s.heap [(a2, listOf #[.int p0 u0, .int p1 u1, .int p2 u2, .int p3 u3] k2), (a1, listOf #[.int n0 t0, .int n1 t1, .int n2 t2, .int n3 t3] k1), (L + 1 + 1 + 1, o3), (L + 1 + 1, o2), (L + 1, o1)]) (T : Top hd.view_39 loose mean mg mb h₀)
    (hx3 : o3.data = .cell x3) (ha1 : @LT.lt Nat _ (L + 1 + 1 + 1) a1) (ha2 : @LT.lt Nat _ a1 a2)
    (hR : R = (((r * 128 + c0) * 128 + c1) * 128 + c2) * 128 + c3) (hr0 : 0 ≤ r) (hr1 : r < 16) (hc0 : c0 = codes.getD n0.toNat 0) (hc1 : c1 = codes.getD n1.toNat 0) (hc2 : c2 = codes.getD n2.toNat 0) (hc3 : c3 = codes.getD n3.toNat 0)
    (ln0 : 0 ≤ n0) (hn0 : n0 < 16) (ln1 : 0 ≤ n1) (hn1 : n1 < 16) (ln2 : 0 ≤ n2) (hn2 : n2 < 16) (ln3 : 0 ≤ n3) (hn3 : n3 < 16)
    (lp0 : 0 ≤ p0) (hp0 : p0 < 12) (lp1 : 0 ≤ p1) (hp1 : p1 < 12) (lp2 : 0 ≤ p2) (hp2 : p2 < 12) (lp3 : 0 ≤ p3) (hp3 : p3 < 12)
    (hdp : dp + 20 < recursionLimit) (hu : un + 8 * 20 < cLine)
    (ret : ∀ m' news' h' tk', Fr h₀ L h' m' → News h₀ L h' news' → Q (.ret (.bool true)) { s with heap := h', toks := tk' }) :
    wpAny (model PySem.Challenge.rw_sx_zbitworks_6.row.prog w) (ktrTop dp un gd (Str.ofString "law") bs.2 L fa ccd (cellsFrom (L + 1) bs.2.names []) outer) (execs (bs.1.drop 27) (envOfC (Str.ofString "law") bs.2 L fa ccd)) Q (fun _ _ => False) s := by
  conv at hbs => lhs; whnf
  subst hbs
  dsimp only [List.drop]
  revert X
  w_top off
  k_fill
  intro X
  dsimp only [kstB] at F
  (try k_fold)
  k_steps
  refine go_on ?_
  (rename Fr _ _ _ _ => lF'); (rename News _ _ _ _ => lN'); (rename IsRange _ _ _ _ _ _ _ _ => rgX)
  with_unfolding_all refine' range_inv (n := 4) (fun _ m nx => J4 L a1 a2 o1 o2 _ _ R tb m nx) (by rfl) rgX (by decide) (by decide) lF' lN' ⟨o3, x3, rfl, hx3, by rfl, by rfl, by rfl⟩ ?_ ?_
  all_goals clear lF' lN'
  · rintro I' oI' hI' i' t' m₁ nx h' tk' hi' hoff' ⟨o, x, rfl, ho, hm1, hm2, hm3⟩ F' N'
    have e1 : (0 : Int) + (i' : Int) * 1 = (i' : Int) := by omega
    rw [e1] at F'
    have F2 := compact F' [(Str.ofString "i", .int (i' : Int) t'), (Str.ofString "nibbles", .ref a1), (Str.ofString "places", .ref a2), (Str.ofString "back", .int R tb)] (List.forall_mem_cons.mpr ⟨rfl, List.forall_mem_cons.mpr ⟨hm1, List.forall_mem_cons.mpr ⟨hm2, List.forall_mem_cons.mpr ⟨hm3, List.forall_mem_nil _⟩⟩⟩⟩)
    generalize (fun y => if y = Str.ofString "i" then some (Value.int (i' : Int) t') else m₁ y) = U' at F2
    clear F' hm1 hm2 hm3 m₁ rgX
    dsimp only [kstB] at F2
    obtain ⟨lq0, lq1, lm0, lm1, lr0, lr1⟩ := turn4 hR hr0 hc0 hc1 hc2 hc3 ln0 hn0 ln1 hn1 ln2 hn2 ln3 hn3 lp0 hp0 lp1 hp1 lp2 hp2 lp3 hp3 hi'
    have hIp : IntsAre [Value.int p0 u0, .int p1 u1, .int p2 u2, .int p3 u3] [p0, p1, p2, p3] := .cons _ _ (.cons _ _ (.cons _ _ (.cons _ _ .nil)))
    have hIn : IntsAre [Value.int n0 t0, .int n1 t1, .int n2 t2, .int n3 t3] [n0, n1, n2, n3] := .cons _ _ (.cons _ _ (.cons _ _ (.cons _ _ .nil)))
    have hkept := fun (v : Int) (e : v = (Builtin.bitXor (R.fdiv (128 ^ (3 - (i' : Int)).toNat)) (damages.getD ([p0, p1, p2, p3].getD ((i' : Int)).toNat 0).toNat 0)).fmod 128) (h8 : [p0, p1, p2, p3].getD ((i' : Int)).toNat 0 < 8) => e ▸ kept lr0 lm0 lm1 lq0 h8 lr1
    k_lt hI'
    clear hR hr0 hr1 hc0 hc1 hc2 hc3 ln0 hn0 ln1 hn1 ln2 hn2 ln3 hn3 lp0 hp0 lp1 hp1 lp2 hp2 lp3 hp3
    (try k_fold)
    k_steps
    · refine go_on ?_
      obtain ⟨hk1, hk2⟩ := hkept _ (by assumption) (by assumption)
      k_steps
      walk_at "mine end4"
    · walk_at "mine end4"
  · rintro m₁ nx h' tk' ⟨o, x, rfl, ho, hm1, hm2, hm3⟩ F' N'
    (try k_fold)
    k_steps
    exact ret _ _ _ _ (by assumption) (by assumption)
end
end Mine

-- part F0
namespace Mine
section
open PySem PySem.W PySem.Calls PyProof.Rows
set_option maxHeartbeats 2000000
variable {w : World} {loose : List Str} {mean : ExcName → Option Value} {mg mb : Str → Option Value}
theorem whole {dp un : Nat} {gd : Option (List Code)} {fa : Addr} {ccd : Value} {outer : List Env} {A₀ : Around} {base h₀ : Heap} {L : Addr} {s : Shared} {Q : Flow → Shared → Prop} {U : Str → Option Value} {l : Addr} {o1 o2 o3 : Obj} {x1 x2 x3 : Option Value} {vs : List Value} {ns : List Int}
    (B0 : Below A₀ base outer h₀) (F : Fr h₀ L s.heap (kstB U [(Str.ofString "script", .ref l)])) (X : (hd.heap_39 w.params).In h₀)
    (N : News h₀ L s.heap [(L + 1 + 1 + 1, o3), (L + 1 + 1, o2), (L + 1, o1)]) (T : Top hd.view_39 loose mean mg mb h₀)
    (hx1 : o1.data = .cell x1) (hx2 : o2.data = .cell x2) (hx3 : o3.data = .cell x3)
    (hl : h₀.IsList l vs.toArray) (hI : IntsAre vs ns) (hmost : ns.length ≤ 63)
    (hdp : dp + 20 < recursionLimit) (hu : un + 8 * 20 < cLine)
    (ret : ∀ m' news' h' tk', Fr h₀ L h' m' → News h₀ L h' news' → Q (.ret (.bool true)) { s with heap := h', toks := tk' }) :
    wpAny (model PySem.Challenge.rw_sx_zbitworks_6.row.prog w) (ktrTop dp un gd (Str.ofString "law") lawDef.2 L fa ccd (cellsFrom (L + 1) lawDef.2.names []) outer) (execs lawDef.1 (envOfC (Str.ofString "law") lawDef.2 L fa ccd)) Q (fun _ _ => False) s := by
  refine seg1 lawDef rfl B0 F X N T hl hI hmost hdp hu ret ?_
  intro m' a1 a2 n0 n1 n2 n3 p0 p1 p2 p3 r c0 c1 c2 c3 R tb t0 t1 t2 t3 u0 u1 u2 u3 k1 k2 h' tk' F' N' ms mn mp mr ha1 ha2 hR hr0 hr1 hc0 hc1 hc2 hc3 ln0 hn0 ln1 hn1 ln2 hn2 ln3 hn3 lp0 hp0 lp1 hp1 lp2 hp2 lp3 hp3 hlen
  have g0 := code_lo ln0 hn0
  have g0' := code_hi ln0 hn0
  have g1 := code_lo ln1 hn1
  have g1' := code_hi ln1 hn1
  have g2 := code_lo ln2 hn2
  have g2' := code_hi ln2 hn2
  have g3 := code_lo ln3 hn3
  have g3' := code_hi ln3 hn3
  rw [← hc0] at g0 g0'
  rw [← hc1] at g1 g1'
  rw [← hc2] at g2 g2'
  rw [← hc3] at g3 g3'
  have F2 := compact F' [(Str.ofString "script", .ref l), (Str.ofString "nibbles", .ref a1), (Str.ofString "places", .ref a2), (Str.ofString "register", .int R tb)] (List.forall_mem_cons.mpr ⟨ms, List.forall_mem_cons.mpr ⟨mn, List.forall_mem_cons.mpr ⟨mp, List.forall_mem_cons.mpr ⟨mr, List.forall_mem_nil _⟩⟩⟩⟩)
  refine seg2 (s := { s with heap := h', toks := tk' }) lawDef rfl B0 F2 X N' T hl hI hlen hmost ha1 ha2 (by omega) (by omega) hdp hu ?_
  intro m2 bk d tb2 td h2 tk2 ms2 mn2 mp2 mb2 md2 hbk hd0 hd1 F3 N3
  subst hbk
  have F4 := compact F3 [(Str.ofString "script", .ref l), (Str.ofString "nibbles", .ref a1), (Str.ofString "places", .ref a2), (Str.ofString "back", .int bk tb2), (Str.ofString "damaged", .int d td)] (List.forall_mem_cons.mpr ⟨ms2, List.forall_mem_cons.mpr ⟨mn2, List.forall_mem_cons.mpr ⟨mp2, List.forall_mem_cons.mpr ⟨mb2, List.forall_mem_cons.mpr ⟨md2, List.forall_mem_nil _⟩⟩⟩⟩⟩)
  refine seg3 (s := { s with heap := h2, toks := tk2 }) lawDef rfl B0 F4 X N3 T hl hI hlen hmost hx1 hx2 ha1 ha2 hd0 hd1 hdp hu ?_
  intro m3 q1 q2 h3 tk3 mn3 mp3 mb3 F5 N5
  have F6 := compact F5 [(Str.ofString "nibbles", .ref a1), (Str.ofString "places", .ref a2), (Str.ofString "back", .int bk tb2)] (List.forall_mem_cons.mpr ⟨mn3, List.forall_mem_cons.mpr ⟨mp3, List.forall_mem_cons.mpr ⟨mb3, List.forall_mem_nil _⟩⟩⟩)
  exact seg4 (s := { s with heap := h3, toks := tk3 }) lawDef rfl B0 F6 X N5 T hx3 ha1 ha2 hR hr0 hr1 hc0 hc1 hc2 hc3 ln0 hn0 ln1 hn1 ln2 hn2 ln3 hn3 lp0 hp0 lp1 hp1 lp2 hp2 lp3 hp3 hdp hu ret
end
end Mine

open PySem PySem.W PySem.Calls PyProof.Rows Mine
set_option maxRecDepth 100000 in
set_option maxHeartbeats 8000000 in
theorem PySem.Challenge.cw_sx_zbitworks_6_holds : PySem.Challenge.rw_sx_zbitworks_6.Holds := by
  refine hd ?_
  k_go0
  refine wpAny_noRaise ?_
  (rename Fr _ _ _ _ => lF'); (rename News _ _ _ _ => lN')
  k_dflt (refine' whole ?k1 (compact lF' [(Str.ofString "script", _)] ?kF) ?k3 lN' ?k5 ?x1 ?x2 ?x3 ?hl ?hI ?hm ?kd ?ku ?_)
  (case kF => exact List.forall_mem_cons.mpr ⟨by with_unfolding_all rfl, List.forall_mem_nil _⟩)
  (case k1 => k_asm)
  (case k3 => k_asm)
  (case k5 => k_asm)
  (case x1 => assumption)
  (case x2 => assumption)
  (case x3 => assumption)
  (case hl => assumption)
  (case hI => assumption)
  (case hm => omega)
  (case kd => first | decide | ktr_room)
  (case ku => first | decide | ktr_units)
  intro m' news' h' tk' F' N'
  k_steps
