import PyProof.Rows.All
import Wide.All
import OpenK.AllK
import Wide.FinOn
import Open.SpecLaws
import KE.OsGo
import HandS.ForSpec
import HandS.Comp
import HandS.Iter
import HandS.Rev
import HandS.WideBits
import PyFlatLaws
import PySem.Challenge.RW_packedbits_s01_answers
set_option Elab.async false
set_option linter.all false
set_option maxRecDepth 100000
set_option maxHeartbeats 4000000
/-! ## PbBits -/
namespace Pb
open Md03
/-! ### bits of a number -/
theorem bitsOf_len : ∀ (w n : Nat), (bitsOf w n).length = w
  | 0, _ => rfl
  | w + 1, n => by rw [bitsOf, List.length_cons, bitsOf_len w n]
theorem bitsOf_get : ∀ (w n i : Nat), i < w → (bitsOf w n)[i]? = some (n.testBit (w - 1 - i))
  | 0, _, _, h => absurd h (Nat.not_lt_zero _)
  | w + 1, n, 0, _ => rfl
  | w + 1, n, i + 1, h => by
    rw [bitsOf, List.getElem?_cons_succ, bitsOf_get w n i (by omega)]
    congr 2
    omega
theorem take_more {α : Type} : ∀ {l : List α} {i : Nat} {x : α}, l[i]? = some x → l.take (i + 1) = l.take i ++ [x]
  | [], i, x, h => by simp at h
  | a :: l, 0, x, h => by
    have e : a = x := Option.some.inj h
    subst e
    rfl
  | a :: l, i + 1, x, h => by
    have ih := take_more (l := l) (i := i) (x := x) h
    show a :: l.take (i + 1) = a :: l.take i ++ [x]
    rw [ih]
    rfl
theorem testBit_nat (n j : Nat) : (n.testBit j).toNat = n / 2 ^ j % 2 := by
  rw [Nat.testBit_eq_decide_div_mod_eq]
  rcases Nat.mod_two_eq_zero_or_one (n / 2 ^ j) with h | h <;> rw [h] <;> rfl
theorem pow_cast (k : Nat) : ((2 ^ k : Nat) : Int) = (2 : Int) ^ k := by
  rw [Int.natCast_pow]
  rfl
theorem pow_pos (k : Nat) : (0 : Int) < 2 ^ k := by
  rw [← pow_cast]
  exact Int.ofNat_lt.mpr (Nat.two_pow_pos k)
theorem mod_castI (w : Nat) (n : Int) : ((mod w n : Nat) : Int) = n % 2 ^ w := by
  unfold mod
  rw [pow_cast]
  exact Int.toNat_of_nonneg (Int.emod_nonneg _ (Int.ne_of_gt (pow_pos w)))
theorem mod_lt (w : Nat) (n : Int) : mod w n < 2 ^ w := by
  have h := Int.emod_lt_of_pos n (pow_pos w)
  rw [← mod_castI, ← pow_cast] at h
  exact Int.ofNat_lt.mp h
/-- the bit that put_bits appends -/
theorem bit_eq {w j : Nat} (hj : j < w) (n : Int) : n / 2 ^ j % 2 = (((mod w n).testBit j).toNat : Int) := by
  rw [testBit_nat, Int.natCast_emod, Int.natCast_ediv, mod_castI, pow_cast]
  have e : (2 : Int) ^ w = 2 ^ j * (2 * 2 ^ (w - j - 1)) := by
    rw [show (2 : Int) * 2 ^ (w - j - 1) = 2 ^ (w - j - 1 + 1) by rw [Int.pow_succ, Int.mul_comm], ← Int.pow_add]
    congr 1
    omega
  have hd := Int.emod_add_mul_ediv n (2 ^ w)
  rw [e, Int.mul_assoc, Int.mul_assoc] at hd
  rw [e]
  generalize n / (2 ^ j * (2 * 2 ^ (w - j - 1))) = q at hd
  generalize n % (2 ^ j * (2 * 2 ^ (w - j - 1))) = r at hd
  rw [← hd, Int.add_mul_ediv_left _ _ (Int.ne_of_gt (pow_pos j))]
  show _ = r / 2 ^ j % (2 : Int)
  omega
theorem bitsOf_mod : ∀ (w n k : Nat), w ≤ k → bitsOf w (n % 2 ^ k) = bitsOf w n
  | 0, _, _, _ => rfl
  | w + 1, n, k, h => by
    rw [bitsOf, bitsOf, bitsOf_mod w n k (by omega), Nat.testBit_mod_two_pow]
    have e : decide (w < k) = true := decide_eq_true (by omega)
    rw [e, Bool.true_and]
theorem mod_nat (w n : Nat) : mod w (n : Int) = n % 2 ^ w := by
  apply Int.ofNat.inj
  show ((mod w (n : Int) : Nat) : Int) = ((n % 2 ^ w : Nat) : Int)
  rw [mod_castI, Int.natCast_emod, pow_cast]
theorem bitsOf_modn (w n : Nat) : bitsOf w (mod w (n : Int)) = bitsOf w n := by
  rw [mod_nat, bitsOf_mod w n w (Nat.le_refl _)]
theorem bitsOf_modi (w : Nat) (n : Int) : bitsOf w (mod w ((mod w n : Nat) : Int)) = bitsOf w (mod w n) := bitsOf_modn w _
theorem bitsOf_zero : ∀ w, bitsOf w 0 = List.replicate w false
  | 0 => rfl
  | w + 1 => by rw [bitsOf, bitsOf_zero w, Nat.zero_testBit, List.replicate_succ]
theorem mod_zero (w : Nat) : mod w 0 = 0 := by
  have h := mod_nat w 0
  rw [Nat.zero_mod] at h
  exact h
/-- bits of a number made of two -/
theorem bitsOf_add : ∀ (a c x y : Nat), y < 2 ^ c → bitsOf (a + c) (x * 2 ^ c + y) = bitsOf a x ++ bitsOf c y
  | 0, c, x, y, h => by
    rw [Nat.zero_add, bitsOf, List.nil_append, ← bitsOf_mod c (x * 2 ^ c + y) c (Nat.le_refl _), Nat.mul_comm x, Nat.mul_add_mod, Nat.mod_eq_of_lt h]
  | a + 1, c, x, y, h => by
    rw [show a + 1 + c = (a + c) + 1 by omega, bitsOf, bitsOf_add a c x y h, bitsOf, List.cons_append]
    congr 1
    rw [Nat.mul_comm x, Nat.testBit_two_pow_mul_add _ h]
    rw [if_neg (by omega)]
    congr 1
    omega
/-! ### what bits come to -/
theorem snoc_ind {α : Type} {P : List α → Prop} (h0 : P []) (hs : ∀ l x, P l → P (l ++ [x])) (l : List α) : P l := by
  have h : ∀ r : List α, P r.reverse := fun r => by
    induction r with
    | nil => exact h0
    | cons a r ih =>
      rw [List.reverse_cons]
      exact hs _ _ ih
  have e := h l.reverse
  rw [List.reverse_reverse] at e
  exact e
theorem value_snoc (l : List Bool) (b : Bool) : value (l ++ [b]) = 2 * value l + b.toNat := by
  unfold value
  rw [List.foldl_append]
  rfl
theorem value_append (a b : List Bool) : value (a ++ b) = value a * 2 ^ b.length + value b := by
  induction b using snoc_ind with
  | h0 => simp [value]
  | hs b x ih =>
    rw [← List.append_assoc, value_snoc, ih, value_snoc, List.length_append, List.length_singleton, Nat.pow_succ, Nat.mul_add, ← Nat.mul_assoc (value a), Nat.mul_comm (value a * 2 ^ b.length) 2]
    omega
theorem value_lt (l : List Bool) : value l < 2 ^ l.length := by
  induction l using snoc_ind with
  | h0 => decide
  | hs b x ih =>
    rw [value_snoc, List.length_append, List.length_singleton, Nat.pow_succ]
    have : x.toNat ≤ 1 := Bool.toNat_le x
    omega
theorem value_zero (k : Nat) : value (List.replicate k false) = 0 := by
  induction k with
  | zero => rfl
  | succ k ih =>
    rw [List.replicate_succ', value_snoc, ih]
    rfl
theorem value_pos {l : List Bool} : (l.any id = true) ↔ value l ≠ 0 := by
  induction l using snoc_ind with
  | h0 => simp [value]
  | hs b x ih =>
    rw [value_snoc, List.any_append, Bool.or_eq_true, ih]
    cases x <;> simp <;> omega
theorem withSign_eq {l : List Bool} {w : Nat} (hl : l.length = w) (hw : 1 ≤ w) : withSign l = if (2 : Int) ^ (w - 1) ≤ (value l : Int) then (value l : Int) - 2 ^ w else (value l : Int) := by
  subst hl
  cases l with
  | nil => simp at hw
  | cons b r =>
    have hv : value (b :: r) = b.toNat * 2 ^ r.length + value r := by
      have h := value_append [b] r
      rw [show value [b] = b.toNat by simp [value]] at h
      exact h
    have hr := value_lt r
    unfold withSign
    rw [← pow_cast, ← pow_cast]
    show (if (some b = some true) then _ else _) = if ((2 ^ r.length : Nat) : Int) ≤ _ then _ else _
    cases b with
    | true =>
      rw [if_pos rfl, if_pos]
      rw [hv]
      apply Int.ofNat_le.mpr
      simp
    | false =>
      rw [if_neg (by simp), if_neg]
      rw [hv]
      intro h
      have h := Int.ofNat_le.mp h
      simp at h
      omega
/-- signed, on ints -/
def sgn (n : Int) (w : Nat) : Int := if (2 : Int) ^ (w - 1) ≤ n then n - 2 ^ w else n
theorem withSign_sgn {l : List Bool} {w : Nat} (hl : l.length = w) (hw : 1 ≤ w) : withSign l = sgn (value l) w := withSign_eq hl hw
theorem int32_lt {n w : Nat} (h : n < 2 ^ w) (hw : w < 32) : int32 n = (n : Int) := by
  unfold int32
  rw [if_pos]
  exact Nat.lt_of_lt_of_le h (Nat.pow_le_pow_right (by decide) (by omega))
theorem int32_32 (n : Nat) : int32 n = sgn n 32 := by
  unfold int32 sgn
  by_cases h : n < 2 ^ 31
  · rw [if_pos h, if_neg (by omega)]
  · rw [if_neg h, if_pos (by omega)]
theorem signed64_sgn (n : Nat) : signed64 n = sgn n 64 := by
  unfold signed64 sgn
  by_cases h : n < 2 ^ 63
  · rw [if_pos h, if_neg (by omega)]
  · rw [if_neg h, if_pos (by omega)]
end Pb

/-! ## PbVals -/
namespace Pb
open Md03
/-! ### bytes -/
theorem word_cons (c : UInt8) (r : Bytes) : word (c :: r) = c.toNat + 256 * word r := rfl
theorem word_drop {b : Bytes} {i : Nat} {c : UInt8} (h : b[i]? = some c) : word (b.drop i) = c.toNat + 256 * word (b.drop (i + 1)) := by
  obtain ⟨h1, h2⟩ := List.getElem?_eq_some_iff.mp h
  rw [List.drop_eq_getElem_cons h1, h2, word_cons]
theorem word_lt : ∀ (b : Bytes), word b < 256 ^ b.length
  | [] => by decide
  | c :: r => by
    have h := word_lt r
    have hc := c.toNat_lt
    rw [word_cons, List.length_cons, Nat.pow_succ]
    omega
theorem word_lt64 {b : Bytes} (h : b.length = 8) : word b < 2 ^ 64 := by
  have e := word_lt b
  rw [h] at e
  exact e
theorem bytesOf_len : ∀ (k n : Nat), (bytesOf k n).length = k
  | 0, _ => rfl
  | k + 1, n => by rw [bytesOf, List.length_cons, bytesOf_len k]
theorem bytesOf_get : ∀ (k n i : Nat), i < k → (bytesOf k n)[i]? = some (UInt8.ofNat (n / 256 ^ i % 256))
  | 0, _, _, h => absurd h (Nat.not_lt_zero _)
  | k + 1, n, 0, _ => by
    rw [bytesOf, Nat.pow_zero, Nat.div_one]
    rfl
  | k + 1, n, i + 1, h => by
    rw [bytesOf, List.getElem?_cons_succ, bytesOf_get k _ i (by omega), Nat.div_div_eq_div_mul, Nat.pow_succ, Nat.mul_comm 256]
theorem byte_nat {n : Nat} (h : n < 256) : (UInt8.ofNat n).toNat = n := by
  rw [UInt8.toNat_ofNat']
  exact Nat.mod_eq_of_lt h
/-- eight_of's byte -/
theorem byte_eq (n : Int) {i : Nat} (hi : i < 8) : n / 2 ^ (8 * i) % 256 = ((UInt8.ofNat (mod 64 n / 256 ^ i % 256)).toNat : Int) := by
  rw [byte_nat (Nat.mod_lt _ (by decide)), Int.natCast_emod, Int.natCast_ediv, mod_castI]
  have e1 : ((256 ^ i : Nat) : Int) = 2 ^ (8 * i) := by
    rw [show (256 : Nat) = 2 ^ 8 by rfl, ← Nat.pow_mul, pow_cast]
  rw [e1]
  have e : (2 : Int) ^ 64 = 2 ^ (8 * i) * (256 * 2 ^ (56 - 8 * i)) := by
    rw [show (256 : Int) = 2 ^ 8 by rfl, ← Int.pow_add, ← Int.pow_add]
    congr 1
    omega
  have hd := Int.emod_add_mul_ediv n (2 ^ 64)
  rw [e, Int.mul_assoc, Int.mul_assoc] at hd
  rw [e]
  generalize n / (2 ^ (8 * i) * (256 * 2 ^ (56 - 8 * i))) = q at hd
  generalize n % (2 ^ (8 * i) * (256 * 2 ^ (56 - 8 * i))) = r at hd
  rw [← hd, Int.add_mul_ediv_left _ _ (Int.ne_of_gt (pow_pos _))]
  show _ = r / 2 ^ (8 * i) % (256 : Int)
  omega
theorem bytesOf_mod (k n : Nat) : bytesOf k (n % 256 ^ k) = bytesOf k n := by
  induction k generalizing n with
  | zero => rfl
  | succ k ih =>
    rw [bytesOf, bytesOf, Nat.pow_succ, Nat.mul_comm]
    congr 1
    · rw [Nat.mod_mul_right_mod]
    · rw [Nat.mod_mul_right_div_self, ih]
theorem bytes_nat (n : Nat) : bytesOf 8 (mod 64 (n : Int)) = bytesOf 8 n := by
  rw [mod_nat]
  exact bytesOf_mod 8 n
/-- bytes_number: the first byte the highest -/
def big (b : Bytes) : Nat := b.foldl (fun n c => 256 * n + c.toNat) 0
theorem big_snoc (b : Bytes) (c : UInt8) : big (b ++ [c]) = 256 * big b + c.toNat := by
  unfold big
  rw [List.foldl_append]
  rfl
theorem bitsOf_big (b : Bytes) : bitsOf (8 * b.length) (big b) = b.flatMap fun c => bitsOf 8 c.toNat := by
  induction b using snoc_ind with
  | h0 => rfl
  | hs b c ih =>
    rw [List.length_append, List.length_singleton, Nat.mul_add, big_snoc, Nat.mul_comm 256, show (256 : Nat) = 2 ^ 8 by rfl, bitsOf_add _ _ _ _ c.toNat_lt, ih, List.flatMap_append]
    simp
theorem big_lt (b : Bytes) : big b < 256 ^ b.length := by
  induction b using snoc_ind with
  | h0 => decide
  | hs b c ih =>
    have hc := c.toNat_lt
    rw [big_snoc, List.length_append, List.length_singleton, Nat.pow_succ]
    omega
theorem sgn_mod {n w : Nat} (hw : w ≤ 64) : mod w (sgn n 64) = mod w (n : Int) := by
  unfold sgn
  split
  · unfold mod
    rw [pow_cast, show (2 : Int) ^ 64 = 2 ^ w * 2 ^ (64 - w) by rw [← Int.pow_add]; congr 1; omega, Int.sub_mul_emod_self_left]
  · rfl
/-- bytes of the bits of a value of bytes -/
theorem drop_take_value {l : List Bool} {k : Nat} (hl : l.length = 64) (hk : k < 8) : value l / 256 ^ (7 - k) % 256 = value ((l.drop (8 * k)).take 8) := by
  have e1 : value l = value (l.take (8 * k + 8)) * 2 ^ (56 - 8 * k) + value (l.drop (8 * k + 8)) := by
    conv => lhs; rw [← List.take_append_drop (8 * k + 8) l]
    rw [value_append]
    congr 3
    rw [List.length_drop]
    omega
  have e2 : value (l.take (8 * k + 8)) = value (l.take (8 * k)) * 2 ^ 8 + value ((l.drop (8 * k)).take 8) := by
    rw [List.take_add, value_append]
    congr 3
    rw [List.length_take, List.length_drop]
    omega
  have h1 := value_lt (l.drop (8 * k + 8))
  have h2 := value_lt ((l.drop (8 * k)).take 8)
  rw [List.length_drop, show l.length - (8 * k + 8) = 56 - 8 * k by omega] at h1
  rw [List.length_take, List.length_drop, show min 8 (l.length - 8 * k) = 8 by omega] at h2
  rw [show (256 : Nat) ^ (7 - k) = 2 ^ (56 - 8 * k) by rw [show (256 : Nat) = 2 ^ 8 by rfl, ← Nat.pow_mul]; congr 1; omega]
  rw [e1, Nat.mul_comm, Nat.mul_add_div (Nat.two_pow_pos _), Nat.div_eq_of_lt h1, Nat.add_zero, e2]
  omega
/-- list(reversed(eight_of(field << (64 - width)))) -/
theorem bytes_back {l : List Bool} {w : Nat} (hl : l.length = w) (h0 : 8 ≤ w) (h1 : w ≤ 64) (h8 : w % 8 = 0) :
    (bytesOf 8 (value l * 2 ^ (64 - w))).reverse = (List.range 8).map fun k => if k < w / 8 then UInt8.ofNat (value ((l.drop (8 * k)).take 8)) else 0 := by
  have ev : value l * 2 ^ (64 - w) = value (l ++ List.replicate (64 - w) false) := by
    rw [value_append, value_zero, List.length_replicate, Nat.add_zero]
  have el : (l ++ List.replicate (64 - w) false).length = 64 := by
    rw [List.length_append, List.length_replicate]
    omega
  rw [ev]
  apply List.ext_getElem?
  intro k
  by_cases hk : k < 8
  · rw [List.getElem?_reverse (by rw [bytesOf_len]; exact hk), bytesOf_len, bytesOf_get _ _ _ (by omega), List.getElem?_map, List.getElem?_range hk]
    show some _ = some _
    congr 1
    rw [show 8 - 1 - k = 7 - k by omega, drop_take_value el hk]
    show _ = if k < w / 8 then _ else _
    by_cases hm : k < w / 8
    · rw [if_pos hm, List.drop_append_of_le_length (by omega), List.take_append_of_le_length (by rw [List.length_drop]; omega)]
    · rw [if_neg hm, List.drop_append, List.drop_eq_nil_of_le (by omega), List.nil_append, List.drop_replicate, List.take_replicate, value_zero]
      rfl
  · rw [List.getElem?_eq_none (by rw [List.length_reverse, bytesOf_len]; omega), List.getElem?_eq_none (by rw [List.length_map, List.length_range]; omega)]
/-! ### headers -/
theorem headFrom_snoc : ∀ (a : List (Nat × Nat)) (x : Nat × Nat) (l : List Bool), headFrom (a ++ [x]) l = headFrom a l + value ((l.drop (a.map (·.2)).sum).take x.2) * 2 ^ x.1
  | [], x, l => by
    show value (l.take x.2) * 2 ^ x.1 + 0 = 0 + value ((l.drop 0).take x.2) * 2 ^ x.1
    rw [List.drop_zero, Nat.add_zero, Nat.zero_add]
  | y :: a, x, l => by
    show value (l.take y.2) * 2 ^ y.1 + headFrom (a ++ [x]) (l.drop y.2) = (value (l.take y.2) * 2 ^ y.1 + headFrom a (l.drop y.2)) + _
    rw [headFrom_snoc a x, List.drop_drop, Nat.add_assoc]
    rfl
/-! ### the bits as bytes -/
theorem bytes_len : ∀ (k : Nat) (l : List Bool), (bytes k l).length = k
  | 0, _ => rfl
  | k + 1, l => by rw [bytes, List.length_cons, bytes_len k]
theorem bytes_get : ∀ (k : Nat) (l : List Bool) (i : Nat), i < k →
    (bytes k l)[i]? = some (UInt8.ofNat (value (((l.drop (8 * i)).take 8) ++ List.replicate (8 - ((l.drop (8 * i)).take 8).length) false)))
  | 0, _, _, h => absurd h (Nat.not_lt_zero _)
  | k + 1, l, 0, _ => rfl
  | k + 1, l, i + 1, h => by
    rw [bytes, List.getElem?_cons_succ, bytes_get k _ i (by omega), List.drop_drop, show 8 + 8 * i = 8 * (i + 1) by omega]
/-- eight bits from a place on, zeros behind the last -/
def oct (l : List Bool) (a n : Nat) : List Bool := (List.range n).map fun i => (l[a + i]?).getD false
theorem oct_succ (l : List Bool) (a n : Nat) : oct l a (n + 1) = oct l a n ++ [(l[a + n]?).getD false] := by
  unfold oct
  rw [List.range_succ, List.map_append]
  rfl
theorem oct_eq (l : List Bool) (a : Nat) : oct l a 8 = ((l.drop a).take 8) ++ List.replicate (8 - ((l.drop a).take 8).length) false := by
  apply List.ext_getElem?
  intro k
  unfold oct
  by_cases hk : k < 8
  · rw [List.getElem?_map, List.getElem?_range hk]
    by_cases h : a + k < l.length
    · rw [List.getElem?_append_left (by rw [List.length_take, List.length_drop]; omega), List.getElem?_take_of_lt hk, List.getElem?_drop]
      show some ((l[a + k]?).getD false) = _
      rw [List.getElem?_eq_getElem h]
      rfl
    · rw [List.getElem?_append_right (by rw [List.length_take, List.length_drop]; omega), List.getElem?_replicate, if_pos (by rw [List.length_take, List.length_drop]; omega)]
      show some ((l[a + k]?).getD false) = _
      rw [List.getElem?_eq_none (by omega)]
      rfl
  · rw [List.getElem?_eq_none (by rw [List.length_map, List.length_range]; omega), List.getElem?_eq_none (by rw [List.length_append, List.length_replicate, List.length_take]; omega)]
end Pb

/-! ## PbFmt -/
namespace Pb
open Md03
/-! ### a text parted at its blanks -/
theorem split_cons (x : UInt8) (t : Bytes) {a : Bytes} {r : List Bytes} (h : split t = a :: r) : split (x :: t) = if x = 32 then [] :: (a :: r) else (x :: a) :: r := by
  unfold split at h ⊢
  rw [List.foldr_cons, h]
theorem split_ne (t : Bytes) : ∃ a r, split t = a :: r := by
  induction t with
  | nil => exact ⟨[], [], rfl⟩
  | cons x t ih =>
    obtain ⟨a, r, h⟩ := ih
    rw [split_cons x t h]
    split
    · exact ⟨_, _, rfl⟩
    · exact ⟨_, _, rfl⟩
/-- pieces and piece behind a part of a text -/
structure Cut (t : Bytes) (ps : List Bytes) (p : Bytes) : Prop where
  eq : split t = ps ++ [p]
theorem cut_nil : Cut [] [] [] := ⟨rfl⟩
theorem split_blank : ∀ (t : Bytes) (ps : List Bytes) (p : Bytes), split t = ps ++ [p] → split (t ++ [32]) = ps ++ [p] ++ [[]]
  | [], ps, p, h => by
    have e : ([[]] : List Bytes) = ps ++ [p] := h
    rw [← e]
    rfl
  | x :: t, ps, p, h => by
    obtain ⟨a, r, e⟩ := split_ne t
    obtain ⟨ps', p', e'⟩ : ∃ ps' p', split t = ps' ++ [p'] := by
      rw [e]
      exact ⟨_, _, (List.dropLast_concat_getLast (List.cons_ne_nil a r)).symm⟩
    have ih := split_blank t ps' p' e'
    rw [← e', e] at ih
    rw [List.cons_append, split_cons x _ ih, ← h, split_cons x t e]
    split <;> rfl
theorem split_other {c : UInt8} (hc : c ≠ 32) : ∀ (t : Bytes) (ps : List Bytes) (p : Bytes), split t = ps ++ [p] → split (t ++ [c]) = ps ++ [p ++ [c]]
  | [], ps, p, h => by
    have e : ([[]] : List Bytes) = ps ++ [p] := h
    cases ps with
    | nil =>
      have e2 : p = [] := by simpa using e.symm
      subst e2
      show split (c :: []) = [[c]]
      rw [split_cons c [] (a := []) (r := []) rfl, if_neg hc]
    | cons q qs => simp at e
  | x :: t, ps, p, h => by
    obtain ⟨a, r, e⟩ := split_ne t
    rw [split_cons x t e] at h
    by_cases hx : x = 32
    · rw [if_pos hx] at h
      cases ps with
      | nil => simp at h
      | cons q qs =>
        rw [List.cons_append] at h
        obtain ⟨h1, h2⟩ := List.cons.inj h
        have ih := split_other hc t qs p (e.trans h2)
        obtain ⟨a', r', e'⟩ := split_ne (t ++ [c])
        rw [List.cons_append, split_cons x _ e', if_pos hx, ← e', ih, ← h1]
        rfl
    · rw [if_neg hx] at h
      cases ps with
      | nil =>
        obtain ⟨h1, h2⟩ := List.cons.inj h
        subst h1 h2
        have ih := split_other hc t [] a e
        rw [List.cons_append, split_cons x _ ih, if_neg hx]
        rfl
      | cons q qs =>
        rw [List.cons_append] at h
        obtain ⟨h1, h2⟩ := List.cons.inj h
        have ih := split_other hc t (a :: qs) p (by rw [e, h2]; rfl)
        rw [List.cons_append, split_cons x _ ih, if_neg hx, ← h1]
        rfl
theorem Cut.blank {t : Bytes} {ps : List Bytes} {p : Bytes} (h : Cut t ps p) : Cut (t ++ [32]) (ps ++ [p]) [] := ⟨split_blank t ps p h.eq⟩
theorem Cut.other {t : Bytes} {ps : List Bytes} {p : Bytes} {c : UInt8} (h : Cut t ps p) (hc : c ≠ 32) : Cut (t ++ [c]) ps (p ++ [c]) := ⟨split_other hc t ps p h.eq⟩
theorem split_len (t : Bytes) : (split t).length ≤ t.length + 1 := by
  induction t with
  | nil => decide
  | cons x t ih =>
    obtain ⟨a, r, e⟩ := split_ne t
    rw [split_cons x t e]
    rw [e] at ih
    split
    · simp only [List.length_cons] at *
      omega
    · simp only [List.length_cons] at *
      omega
theorem split_item {t p : Bytes} (h : p ∈ split t) : p.length ≤ t.length := by
  induction t generalizing p with
  | nil =>
    have e : p = [] := by simpa [split] using h
    subst e
    exact Nat.le_refl _
  | cons x t ih =>
    obtain ⟨a, r, e⟩ := split_ne t
    rw [split_cons x t e] at h
    rw [e] at ih
    split at h
    · rcases List.mem_cons.mp h with h | h
      · subst h
        exact Nat.zero_le _
      · exact Nat.le_succ_of_le (ih h)
    · rcases List.mem_cons.mp h with h | h
      · subst h
        exact Nat.succ_le_succ (ih List.mem_cons_self)
      · exact Nat.le_succ_of_le (ih (List.mem_cons_of_mem _ h))
/-- texts with one blank between -/
def glue : List Bytes → Bytes
  | [] => []
  | [x] => x
  | x :: y :: r => x ++ (32 :: glue (y :: r))
theorem glue_split (t : Bytes) : glue (split t) = t := by
  induction t with
  | nil => rfl
  | cons x t ih =>
    obtain ⟨a, r, e⟩ := split_ne t
    rw [split_cons x t e]
    rw [e] at ih
    split
    · rename_i hx
      subst hx
      show [] ++ (32 :: glue (a :: r)) = _
      rw [ih]
      rfl
    · cases r with
      | nil =>
        show x :: a = x :: t
        rw [← ih]
        rfl
      | cons y r =>
        show (x :: a) ++ (32 :: glue (y :: r)) = x :: t
        rw [← ih]
        rfl
theorem split_app {p t : Bytes} (hp : ∀ c ∈ p, c ≠ 32) : split (p ++ 32 :: t) = p :: split t := by
  induction p with
  | nil =>
    obtain ⟨a, r, e⟩ := split_ne t
    show split (32 :: t) = _
    rw [split_cons _ t e, if_pos rfl, e]
  | cons x p ih =>
    have h := ih fun c hc => hp c (List.mem_cons_of_mem _ hc)
    rw [List.cons_append, split_cons x _ h, if_neg (hp x List.mem_cons_self)]
theorem split_one {p : Bytes} (hp : ∀ c ∈ p, c ≠ 32) : split p = [p] := by
  induction p with
  | nil => rfl
  | cons x p ih =>
    have h := ih fun c hc => hp c (List.mem_cons_of_mem _ hc)
    rw [split_cons x _ h, if_neg (hp x List.mem_cons_self)]
theorem split_glue : ∀ (ps : List Bytes), ps ≠ [] → (∀ p ∈ ps, ∀ c ∈ p, c ≠ 32) → split (glue ps) = ps
  | [], h, _ => absurd rfl h
  | [x], _, h => split_one (h x List.mem_cons_self)
  | x :: y :: r, _, h => by
    show split (x ++ 32 :: glue (y :: r)) = _
    rw [split_app (h x List.mem_cons_self), split_glue (y :: r) (List.cons_ne_nil _ _) fun p hp => h p (List.mem_cons_of_mem _ hp)]
theorem textOf_glue : ∀ l : List Item, textOf l = glue (l.map itemText)
  | [] => rfl
  | [x] => rfl
  | x :: y :: r => by
    show itemText x ++ (32 :: textOf (y :: r)) = itemText x ++ (32 :: glue ((y :: r).map itemText))
    rw [textOf_glue (y :: r)]
/-! ### an item -/
def fold10 (n : Nat) (r : Bytes) : Nat := r.foldl (fun (n : Nat) (x : UInt8) => 10 * n + (x.toNat - 48)) n
def isDig (x : UInt8) : Bool := decide (48 ≤ x.toNat) && decide (x.toNat ≤ 57)
/-- read_width -/
def width (r : Bytes) : Nat := match r with
  | [] => 0
  | a :: _ => if r.length > 2 then 0 else if a = 48 then 0 else if r.all isDig = true then fold10 0 r else 0
theorem width_cons (a : UInt8) (r : Bytes) : width (a :: r) = if (a :: r).length > 2 then 0 else if a = 48 then 0 else if (a :: r).all isDig = true then fold10 0 (a :: r) else 0 := rfl
/-- read_item -/
def readItem : Bytes → Option Item
  | [] => none
  | c :: r => if width r < 1 ∨ width r > 32 then none else if c = 117 then some (.u, width r) else if c = 105 ∧ 2 ≤ width r then some (.i, width r) else if c = 122 then some (.z, width r) else none
theorem item_cons (c : UInt8) (r : Bytes) : readItem (c :: r) = if width r < 1 ∨ width r > 32 then none else if c = 117 then some (.u, width r) else if c = 105 ∧ 2 ≤ width r then some (.i, width r) else if c = 122 then some (.z, width r) else none := rfl
theorem dec_small : ∀ n, n < 100 → dec n = if n < 10 then [UInt8.ofNat (48 + n)] else [UInt8.ofNat (48 + n / 10), UInt8.ofNat (48 + n % 10)] := by decide +kernel
theorem dig_of {a : UInt8} (h : isDig a = true) : ∃ k, k < 10 ∧ a = UInt8.ofNat (48 + k) ∧ a.toNat - 48 = k := by
  unfold isDig at h
  rw [Bool.and_eq_true, decide_eq_true_eq, decide_eq_true_eq] at h
  refine ⟨a.toNat - 48, by omega, ?_, rfl⟩
  apply UInt8.toNat_inj.mp
  rw [byte_nat (by omega)]
  omega
theorem isDig_of {k : Nat} (h : k < 10) : isDig (UInt8.ofNat (48 + k)) = true ∧ (UInt8.ofNat (48 + k)).toNat - 48 = k := by
  unfold isDig
  rw [byte_nat (by omega), Bool.and_eq_true, decide_eq_true_eq, decide_eq_true_eq]
  omega
/-- the digits of a number without a zero in front are the number's own -/
theorem width_dec {r : Bytes} (h : 1 ≤ width r) : r ≠ [] ∧ r.length ≤ 2 ∧ r.all isDig = true ∧ fold10 0 r = width r ∧ dec (width r) = r := by
  match r with
  | [] => exact absurd h (by decide)
  | a :: r =>
    rw [width_cons] at h ⊢
    by_cases h1 : (a :: r).length > 2
    · rw [if_pos h1] at h
      omega
    · rw [if_neg h1] at h ⊢
      by_cases h2 : a = 48
      · rw [if_pos h2] at h
        omega
      · rw [if_neg h2] at h ⊢
        by_cases h3 : (a :: r).all isDig = true
        · rw [if_pos h3] at h ⊢
          refine ⟨List.cons_ne_nil _ _, by omega, h3, rfl, ?_⟩
          rw [List.all_cons, Bool.and_eq_true] at h3
          obtain ⟨k, hk, ea, en⟩ := dig_of h3.1
          have hk0 : k ≠ 0 := fun e => h2 (by rw [ea, e]; rfl)
          match r with
          | [] =>
            show dec (10 * 0 + (a.toNat - 48)) = _
            rw [en, dec_small _ (by omega), if_pos (by omega), ea, Nat.mul_zero, Nat.zero_add]
          | [b] =>
            have h4 : isDig b = true := by simpa using h3.2
            obtain ⟨j, hj, eb, em⟩ := dig_of h4
            show dec (10 * (10 * 0 + (a.toNat - 48)) + (b.toNat - 48)) = _
            rw [en, em, dec_small _ (by omega), if_neg (by omega), ea, eb, show (10 * (10 * 0 + k) + j) / 10 = k by omega, show (10 * (10 * 0 + k) + j) % 10 = j by omega]
          | b :: c :: r => exact absurd (show (a :: b :: c :: r).length > 2 by simp) h1
        · rw [if_neg h3] at h
          omega
theorem width_of_dec {n : Nat} (h0 : 1 ≤ n) (h1 : n < 100) : width (dec n) = n := by
  rw [dec_small n h1]
  by_cases h : n < 10
  · rw [if_pos h]
    obtain ⟨d1, d2⟩ := isDig_of h
    rw [width_cons, if_neg (by simp), if_neg, if_pos (by simpa using d1)]
    · show 10 * 0 + ((UInt8.ofNat (48 + n)).toNat - 48) = n
      omega
    · intro e
      rw [e] at d2
      have : (48 : UInt8).toNat - 48 = 0 := rfl
      omega
  · rw [if_neg h]
    obtain ⟨d1, d2⟩ := isDig_of (k := n / 10) (by omega)
    obtain ⟨d3, d4⟩ := isDig_of (k := n % 10) (by omega)
    rw [width_cons, if_neg (by simp), if_neg, if_pos (by rw [List.all_cons, List.all_cons, d1, d3]; rfl)]
    · show 10 * (10 * 0 + ((UInt8.ofNat (48 + n / 10)).toNat - 48)) + ((UInt8.ofNat (48 + n % 10)).toNat - 48) = n
      omega
    · intro e
      rw [e] at d2
      have : (48 : UInt8).toNat - 48 = 0 := rfl
      omega
theorem good_le {x : Item} (h : itemGood x = true) : 1 ≤ x.2 ∧ x.2 ≤ 32 ∧ (x.1 = Kind.i → 2 ≤ x.2) := by
  unfold itemGood at h
  rw [Bool.and_eq_true, decide_eq_true_eq, decide_eq_true_eq] at h
  refine ⟨?_, h.2, fun e => ?_⟩
  · have := h.1
    split at this <;> omega
  · have := h.1
    rw [if_pos e] at this
    exact this
/-- read_item reads just the items that are well spelled -/
theorem item_iff (p : Bytes) (x : Item) : readItem p = some x ↔ itemOf p = some x ∧ itemGood x = true ∧ itemText x = p := by
  constructor
  · intro h
    match p with
    | [] => cases h
    | c :: r =>
      rw [item_cons] at h
      by_cases hw : width r < 1 ∨ width r > 32
      · rw [if_pos hw] at h
        cases h
      · rw [if_neg hw] at h
        obtain ⟨a1, a2, a3, a4, a5⟩ := width_dec (r := r) (by omega)
        have ei : itemOf (c :: r) = if c = 117 then some (.u, width r) else if c = 105 then some (.i, width r) else if c = 122 then some (.z, width r) else none := by
          show (if _ then _ else _) = _
          rw [if_pos ⟨a1, a2, a3⟩]
          have e : (r.foldl (fun (n : Nat) (x : UInt8) => 10 * n + (x.toNat - 48)) 0) = width r := a4
          rw [e]
        rw [ei]
        by_cases h1 : c = 117
        · rw [if_pos h1] at h ⊢
          cases h
          refine ⟨rfl, ?_, ?_⟩
          · unfold itemGood
            rw [Bool.and_eq_true, decide_eq_true_eq, decide_eq_true_eq, if_neg (by simp)]
            show 1 ≤ width r ∧ width r ≤ 32
            omega
          · show (117 : UInt8) :: dec (width r) = _
            rw [a5, h1]
        · rw [if_neg h1] at h ⊢
          by_cases h2 : c = 105
          · rw [if_pos h2]
            by_cases h3 : 2 ≤ width r
            · rw [if_pos ⟨h2, h3⟩] at h
              cases h
              refine ⟨rfl, ?_, ?_⟩
              · unfold itemGood
                rw [Bool.and_eq_true, decide_eq_true_eq, decide_eq_true_eq, if_pos rfl]
                show 2 ≤ width r ∧ width r ≤ 32
                omega
              · show (105 : UInt8) :: dec (width r) = _
                rw [a5, h2]
            · rw [if_neg (fun z => h3 z.2), if_neg (by rw [h2]; decide)] at h
              cases h
          · rw [if_neg h2]
            rw [if_neg (fun z => h2 z.1)] at h
            by_cases h4 : c = 122
            · rw [if_pos h4] at h ⊢
              cases h
              refine ⟨rfl, ?_, ?_⟩
              · unfold itemGood
                rw [Bool.and_eq_true, decide_eq_true_eq, decide_eq_true_eq, if_neg (by simp)]
                show 1 ≤ width r ∧ width r ≤ 32
                omega
              · show (122 : UInt8) :: dec (width r) = _
                rw [a5, h4]
            · rw [if_neg h4] at h
              cases h
  · rintro ⟨_, hg, ht⟩
    obtain ⟨g1, g2, g3⟩ := good_le hg
    subst ht
    obtain ⟨k, n⟩ := x
    have ew : width (dec n) = n := width_of_dec g1 (Nat.lt_of_le_of_lt g2 (by decide))
    show (if width (dec n) < 1 ∨ width (dec n) > 32 then none else if k.letter = 117 then some (Kind.u, width (dec n)) else if k.letter = 105 ∧ 2 ≤ width (dec n) then some (Kind.i, width (dec n)) else if k.letter = 122 then some (Kind.z, width (dec n)) else none) = _
    rw [ew, if_neg (by have h1 : 1 ≤ n := g1; have h2 : n ≤ 32 := g2; omega)]
    cases k with
    | u => rfl
    | i =>
      rw [if_neg (by decide), if_pos ⟨rfl, g3 rfl⟩]
    | z => rfl
theorem dec_noblank {n : Nat} (h : n < 100) : ∀ c ∈ dec n, c ≠ 32 := by
  have H : ∀ n, n < 100 → (dec n).all (fun c => c != 32) = true := by decide +kernel
  intro c hc e
  have := List.all_eq_true.mp (H n h) c hc
  rw [e] at this
  exact absurd this (by decide)
theorem text_noblank {x : Item} (h : itemGood x = true) : ∀ c ∈ itemText x, c ≠ 32 := by
  intro c hc
  rcases List.mem_cons.mp hc with e | hc
  · rw [e]
    cases x.1 <;> decide
  · exact dec_noblank (Nat.lt_of_le_of_lt (good_le h).2.1 (by decide)) c hc
inductive All2 {α β : Type} (R : α → β → Prop) : List α → List β → Prop where
  | nil : All2 R [] []
  | cons {a : α} {b : β} {l : List α} {r : List β} (h : R a b) (t : All2 R l r) : All2 R (a :: l) (b :: r)
/-- read_format -/
def readFormat (t : Bytes) : Option (List Item) := if t.length < 1 ∨ t.length > 63 then none else match (split t).mapM readItem with
  | none => none
  | some l => if (l.filter takes).length > 6 then none else some l
theorem mapM_some {α β : Type} {f : α → Option β} : ∀ {l : List α} {r : List β}, l.mapM f = some r ↔ All2 (fun a b => f a = some b) l r
  | [], r => by
    constructor
    · intro h
      have e : r = [] := by simpa using h.symm
      subst e
      exact .nil
    · intro h
      cases h
      rfl
  | a :: l, r => by
    rw [List.mapM_cons]
    constructor
    · intro h
      cases ha : f a with
      | none =>
        rw [ha] at h
        cases h
      | some b =>
        rw [ha] at h
        cases hl : l.mapM f with
        | none =>
          rw [hl] at h
          cases h
        | some bs =>
          rw [hl] at h
          have e : b :: bs = r := Option.some.inj h
          subst e
          exact .cons ha (mapM_some.mp hl)
    · intro h
      cases h with
      | cons h1 h2 =>
        rw [h1, mapM_some.mpr h2]
        rfl
theorem read_is (t : Bytes) : readFormat t = items t := by
  apply Option.ext
  intro l
  have hi : items t = some l ↔ (split t).mapM itemOf = some l ∧ l ≠ [] ∧ l.all itemGood = true ∧ (l.filter takes).length ≤ 6 ∧ t = textOf l ∧ t.length ≤ 63 := by
    unfold items
    constructor
    · intro h
      cases e : (split t).mapM itemOf with
      | none =>
        rw [e] at h
        cases h
      | some l' =>
        rw [e] at h
        have h : (if l' ≠ [] ∧ l'.all itemGood = true ∧ (l'.filter takes).length ≤ 6 ∧ t = textOf l' ∧ t.length ≤ 63 then some l' else none) = some l := h
        split at h
        · rename_i hc
          cases h
          exact ⟨rfl, hc⟩
        · cases h
    · rintro ⟨e, hc⟩
      rw [e]
      show (if _ then some l else none) = _
      rw [if_pos hc]
  have hr : readFormat t = some l ↔ (1 ≤ t.length ∧ t.length ≤ 63) ∧ (split t).mapM readItem = some l ∧ (l.filter takes).length ≤ 6 := by
    unfold readFormat
    by_cases h1 : t.length < 1 ∨ t.length > 63
    · rw [if_pos h1]
      constructor
      · intro h
        cases h
      · intro h
        omega
    · rw [if_neg h1]
      cases e : (split t).mapM readItem with
      | none =>
        constructor
        · intro h
          cases h
        · intro h
          cases h.2.1
      | some l' =>
        show (if _ then none else some l') = some l ↔ _
        by_cases h2 : (l'.filter takes).length > 6
        · rw [if_pos h2]
          constructor
          · intro h
            cases h
          · intro h
            cases h.2.1
            omega
        · rw [if_neg h2]
          constructor
          · intro h
            cases h
            exact ⟨by omega, rfl, by omega⟩
          · intro h
            exact h.2.1
  rw [hi, hr, mapM_some, mapM_some]
  constructor
  · rintro ⟨h1, h2, h3⟩
    have hs : All2 (fun a b => itemOf a = some b) (split t) l ∧ l.all itemGood = true ∧ l.map itemText = split t := by
      clear h1 h3 hi hr
      generalize split t = ps at h2 ⊢
      induction h2 with
      | nil => exact ⟨.nil, rfl, rfl⟩
      | cons h _ ih =>
        obtain ⟨a, b, c⟩ := (item_iff _ _).mp h
        exact ⟨.cons a ih.1, by rw [List.all_cons, b, ih.2.1]; rfl, by rw [List.map_cons, c, ih.2.2]⟩
    refine ⟨hs.1, ?_, hs.2.1, h3, ?_, h1.2⟩
    · intro e
      subst e
      obtain ⟨a, r, e⟩ := split_ne t
      rw [e] at hs
      cases hs.1
    · rw [textOf_glue, hs.2.2, glue_split]
  · rintro ⟨h1, h2, h3, h4, h5, h6⟩
    have hb : ∀ p ∈ l.map itemText, ∀ c ∈ p, c ≠ 32 := by
      intro p hp
      obtain ⟨x, hx, e⟩ := List.mem_map.mp hp
      subst e
      exact text_noblank (List.all_eq_true.mp h3 x hx)
    have hs : split t = l.map itemText := by
      rw [h5, textOf_glue]
      exact split_glue _ (by simpa using h2) hb
    refine ⟨⟨?_, h6⟩, ?_, h4⟩
    · cases t with
      | nil =>
        have e : l.map itemText = [[]] := hs.symm
        cases l with
        | nil => exact absurd rfl h2
        | cons x r =>
          have := (List.cons.inj e).1
          cases this
      | cons c t => simp
    · rw [hs] at h1 ⊢
      clear hs hb h2 h4 h5 hi hr
      induction l with
      | nil => exact .nil
      | cons x r ih =>
        rw [List.all_cons, Bool.and_eq_true] at h3
        rw [List.map_cons] at h1 ⊢
        cases h1 with
        | cons a b => exact .cons ((item_iff _ _).mpr ⟨a, h3.1, rfl⟩) (ih b h3.2)
end Pb

/-! ## PbFlat -/
namespace Pb
/-! ### the list of calls -/
theorem does_lim {st : Md03.Abs} (h : st.bits.length ≤ 32768) (q : Md03.Call) : (Md03.does st q).2.bits.length ≤ 32768 := by
  have adds : ∀ l, (Md03.adds st l).2.bits.length ≤ 32768 := fun l => by
    unfold Md03.adds Md03.MOST
    by_cases hc : st.bits.length + l.length ≤ 32768
    · rw [if_pos hc]
      show (st.bits ++ l).length ≤ 32768
      rw [List.length_append]
      exact hc
    · rw [if_neg hc]
      exact h
  unfold Md03.does
  cases q with
  | init => exact Nat.zero_le _
  | put f l =>
    dsimp only
    split
    · exact h
    · split
      · exact h
      · exact adds _
  | read f =>
    dsimp only
    split
    · exact h
    · split
      · exact h
      · split
        · exact h
        · exact h
  | value k b w =>
    dsimp only
    split
    · exact h
    · split
      · exact h
      · exact adds _
  | readValue k w =>
    dsimp only
    split
    · exact h
    · split
      · exact h
      · split
        · exact h
        · exact h
  | head b => exact adds _
  | readHead =>
    dsimp only
    split
    · exact h
    · exact h
  | seek n =>
    dsimp only
    split
    · exact h
    · exact h
  | bits => exact h
  | bytes cap =>
    dsimp only
    split
    · exact h
    · exact h
abbrev Raw := List (List Int)
/-- what the asked says of one call -/
def Good (c : Raw) : Prop := PyFlat.okCall PyMd03.shape c ∧ Md03Neutral.asked1 (PyMd03.whole c) = true
theorem asked_of {ns : List Int} (h : PyMd03.answers_asked ns = true) : ∃ cs : List Raw, ns = PyFlat.put cs ∧ (∀ c ∈ cs, Good c) ∧
    PyMd03.answers ns = PyFlat.told (PyFlat.played Md03Neutral.step Md03Neutral.start (cs.map PyMd03.whole)) ∧ (PyMd03.answers ns).length ≤ 10000000 := by
  unfold PyMd03.answers_asked at h
  cases e : PyFlat.calls PyMd03.shape ns.length ns with
  | none =>
    rw [e] at h
    cases h
  | some raw =>
    rw [e] at h
    simp only [Bool.and_eq_true] at h
    obtain ⟨⟨⟨⟨_, _⟩, _⟩, ha⟩, hs⟩ := h
    unfold Md03Neutral.asked at ha
    simp only [Bool.and_eq_true] at ha
    obtain ⟨⟨ha, _⟩, _⟩ := ha
    obtain ⟨hp, hok⟩ := PyFlat.put_calls _ _ _ e
    refine ⟨raw, hp, fun c hc => ⟨hok c hc, ?_⟩, ?_, of_decide_eq_true hs⟩
    · exact List.all_eq_true.mp ha _ (List.mem_map_of_mem hc)
    · unfold PyMd03.answers PyMd03.calls
      rw [e]
/-- the numbers and rows of a call by its place -/
theorem shape_cases {p : Int} {n k : Nat} (h : PyMd03.shape p = some (n, k)) :
    (p = 1 ∧ n = 0 ∧ k = 0) ∨ (p = 2 ∧ n = 0 ∧ k = 2) ∨ (p = 3 ∧ n = 0 ∧ k = 1) ∨ (p = 4 ∧ n = 2 ∧ k = 1) ∨ (p = 5 ∧ n = 2 ∧ k = 0) ∨ (p = 6 ∧ n = 0 ∧ k = 1) ∨ (p = 7 ∧ n = 0 ∧ k = 0) ∨ (p = 8 ∧ n = 1 ∧ k = 0) ∨ (p = 9 ∧ n = 0 ∧ k = 0) ∨ (p = 10 ∧ n = 1 ∧ k = 0) := by
  unfold PyMd03.shape at h
  by_cases h1 : p = 1
  · rw [if_pos h1] at h
    cases h
    omega
  rw [if_neg h1] at h
  by_cases h2 : p = 2
  · rw [if_pos h2] at h
    cases h
    omega
  rw [if_neg h2] at h
  by_cases h3 : p = 3
  · rw [if_pos h3] at h
    cases h
    omega
  rw [if_neg h3] at h
  by_cases h4 : p = 4
  · rw [if_pos h4] at h
    cases h
    omega
  rw [if_neg h4] at h
  by_cases h5 : p = 5
  · rw [if_pos h5] at h
    cases h
    omega
  rw [if_neg h5] at h
  by_cases h6 : p = 6
  · rw [if_pos h6] at h
    cases h
    omega
  rw [if_neg h6] at h
  by_cases h7 : p = 7
  · rw [if_pos h7] at h
    cases h
    omega
  rw [if_neg h7] at h
  by_cases h8 : p = 8
  · rw [if_pos h8] at h
    cases h
    omega
  rw [if_neg h8] at h
  by_cases h9 : p = 9
  · rw [if_pos h9] at h
    cases h
    omega
  rw [if_neg h9] at h
  by_cases h10 : p = 10
  · rw [if_pos h10] at h
    cases h
    omega
  rw [if_neg h10] at h
  cases h
/-- bytes as numbers and back -/
theorem by_back {l : List Int} (h : ∀ z ∈ l, 0 ≤ z ∧ z < 256) : (Md03Neutral.by_ l).map (fun (b : UInt8) => (b.toNat : Int)) = l := by
  unfold Md03Neutral.by_
  rw [List.map_map]
  have e : l.map (fun z => z) = l := List.map_id l
  conv => rhs; rw [← e]
  apply List.map_congr_left
  intro z hz
  obtain ⟨h0, h1⟩ := h z hz
  show (((UInt8.ofNat z.toNat).toNat : Nat) : Int) = z
  rw [byte_nat (by omega)]
  omega
theorem fmt_of {f : List Int} (h : Md03Neutral.format f = true) : (∀ z ∈ f, 0 ≤ z ∧ z < 256) ∧ f.length ≤ 200 := by
  unfold Md03Neutral.format at h
  rw [Bool.and_eq_true, decide_eq_true_eq, List.all_eq_true] at h
  refine ⟨fun z hz => ?_, h.2⟩
  have q := h.1 z hz
  rw [Bool.and_eq_true, decide_eq_true_eq, decide_eq_true_eq] at q
  omega
theorem nat_of {z : Int} {b : Nat} (h : Md03Neutral.natural z b = true) : 0 ≤ z ∧ z < 2 ^ b := by
  unfold Md03Neutral.natural at h
  rw [Bool.and_eq_true, decide_eq_true_eq, decide_eq_true_eq] at h
  exact h
theorem eight_ok {l : List Int} (h : Md03Neutral.eight l = true) : (∀ z ∈ l, 0 ≤ z ∧ z < 256) ∧ l.length = 8 := by
  unfold Md03Neutral.eight at h
  rw [Bool.and_eq_true, List.all_eq_true] at h
  refine ⟨fun z hz => ?_, by simpa using h.2⟩
  exact nat_of (h.1 z hz)
theorem by_len (l : List Int) : (Md03Neutral.by_ l).length = l.length := List.length_map _
theorem drop_app {α : Type} {l a b : List α} {i : Nat} (h : l.drop i = a ++ b) : l.drop (i + a.length) = b ∧ (l.drop i).take a.length = a := by
  constructor
  · rw [← List.drop_drop, h, List.drop_left]
  · rw [h, List.take_left]
theorem putRows_snoc (xs : List (List Int)) (x : List Int) : PyFlat.putRows (xs ++ [x]) = PyFlat.putRows xs ++ PyFlat.putRow x := by
  induction xs with
  | nil =>
    show PyFlat.putRow x ++ [] = [] ++ PyFlat.putRow x
    rw [List.append_nil, List.nil_append]
  | cons y r ih =>
    show PyFlat.putRow y ++ PyFlat.putRows (r ++ [x]) = (PyFlat.putRow y ++ PyFlat.putRows r) ++ PyFlat.putRow x
    rw [ih, List.append_assoc]
end Pb

/-! ## PbW0 -/
namespace Pb
open PySem L2
/-! ### the text by places -/
def top (i : Nat) : Stmt := PySem.Challenge.pw_packedbits_s01_answers.main.body.getD i (.Pass ⟨0, 0, 0, 0⟩)
/-! ### defs as they stand, as they keep their promises -/
structure Df (K : PySem.W.Frag) (mg : Str → Option Value) (x : Str) (st : Stmt) : Prop where
  ex : ∃ (f : Addr) (fd : FuncData), Fun K x x st f fd ∧ mg x = some (.ref f)
structure HasD (P : Program) (w : World) (K : PySem.W.Frag) (mg : Str → Option Value) (base : Heap) (x : Str) (k : Nat) (ps : List Str) (sp : Sp) : Prop where
  ex : ∃ (f : Addr) (fd : FuncData), mg x = some (.ref f) ∧ PySem.W.keepIn K (.ref f) = true ∧ Binds K fd ps [] ∧ FnOk P w K mg base CX0 k f fd ps sp
/-- the names of the top, what the classes are -/
structure Txt (K : PySem.W.Frag) (mg : Str → Option Value) (C CI : Addr) : Prop where
  clS : Cls K C
  nB : NoAttr K C "bits"
  nP : NoAttr K C "place"
  clI : Cls K CI
  nL : NoAttr K CI "letter"
  nW : NoAttr K CI "width"
  gS : mg "Store" = some (.ref C)
  gI : mg "Item" = some (.ref CI)
  len : mg "len" = none
  range : mg "range" = none
  reversed : mg "reversed" = none
  sum : mg "sum" = none
  ord : mg "ord" = none
  list : mg "list" = none
/-! ### how data lies in the heap -/
def bV (l : List Bool) : List V := l.map fun b => V.int (b.toNat : Int)
def cV (t : Md03.Bytes) : List V := t.map fun c => V.int (c.toNat : Int)
def iV (l : List Int) : List V := l.map V.int
theorem bV_len (l : List Bool) : (bV l).length = l.length := List.length_map _
theorem cV_len (t : Md03.Bytes) : (cV t).length = t.length := List.length_map _
theorem iV_len (l : List Int) : (iV l).length = l.length := List.length_map _
theorem bV_app (a b : List Bool) : bV (a ++ b) = bV a ++ bV b := List.map_append
theorem cV_app (a b : Md03.Bytes) : cV (a ++ b) = cV a ++ cV b := List.map_append
theorem iV_app (a b : List Int) : iV (a ++ b) = iV a ++ iV b := List.map_append
theorem bV_get {l : List Bool} {i : Nat} {v : V} (h : (bV l)[i]? = some v) : ∃ b, l[i]? = some b ∧ v = V.int (b.toNat : Int) := by
  unfold bV at h
  rw [List.getElem?_map] at h
  cases e : l[i]? with
  | none =>
    rw [e] at h
    cases h
  | some b =>
    rw [e] at h
    exact ⟨b, rfl, (Option.some.inj h).symm⟩
theorem cV_get {l : Md03.Bytes} {i : Nat} {v : V} (h : (cV l)[i]? = some v) : ∃ b, l[i]? = some b ∧ v = V.int (b.toNat : Int) := by
  unfold cV at h
  rw [List.getElem?_map] at h
  cases e : l[i]? with
  | none =>
    rw [e] at h
    cases h
  | some b =>
    rw [e] at h
    exact ⟨b, rfl, (Option.some.inj h).symm⟩
theorem cV_at {l : Md03.Bytes} {i : Nat} {c : UInt8} (h : l[i]? = some c) : (cV l)[i]? = some (V.int (c.toNat : Int)) := by
  unfold cV
  rw [List.getElem?_map, h] <;> rfl
theorem bV_at {l : List Bool} {i : Nat} {c : Bool} (h : l[i]? = some c) : (bV l)[i]? = some (V.int (c.toNat : Int)) := by
  unfold bV
  rw [List.getElem?_map, h] <;> rfl
theorem iV_at {l : List Int} {i : Nat} {c : Int} (h : l[i]? = some c) : (iV l)[i]? = some (V.int c) := by
  unfold iV
  rw [List.getElem?_map, h] <;> rfl
/-- a slice between two places in the list -/
theorem cut_nat {xs : List V} {a b : Nat} (hb : b ≤ xs.length) (hab : a ≤ b) : cutV xs (some (a : Int)) (some (b : Int)) = (xs.drop a).take (b - a) := by
  have h1 : ∀ d, HT.sIx xs.length d (some (a : Int)) = a := fun d => by
    unfold HT.sIx
    dsimp only
    rw [if_neg (by omega)]
    omega
  have h2 : ∀ d, HT.sIx xs.length d (some (b : Int)) = b := fun d => by
    unfold HT.sIx
    dsimp only
    rw [if_neg (by omega)]
    omega
  unfold cutV
  rw [h1, h2]
theorem cut_from {xs : List V} {a : Nat} (ha : a ≤ xs.length) : cutV xs (some (a : Int)) none = xs.drop a := by
  have h1 : ∀ d, HT.sIx xs.length d (some (a : Int)) = a := fun d => by
    unfold HT.sIx
    dsimp only
    rw [if_neg (by omega)]
    omega
  unfold cutV
  rw [h1]
  show (xs.drop a).take (xs.length - a) = _
  rw [List.take_of_length_le (by rw [List.length_drop]; omega)]
theorem bp_ : ¬ (("bits" : Str) = "place") := by decide +kernel
theorem lw_ : ¬ (("letter" : Str) = "width") := by decide +kernel
/-- the attributes of the store -/
def stF (L : Addr) (p : Int) : List (Str × V) := [("bits", .ref L), ("place", .int p)]
theorem stF_bits (L : Addr) (p : Int) : (stF L p).lookup ("bits" : Str) = some (.ref L) := by
  unfold stF
  have e : (("bits" : Str) == ("bits" : Str)) = true := beq_self_eq_true _
  simp only [List.lookup, e]
theorem stF_place (L : Addr) (p : Int) : (stF L p).lookup ("place" : Str) = some (.int p) := by
  unfold stF
  have e : (("place" : Str) == ("bits" : Str)) = false := by decide +kernel
  have e2 : (("place" : Str) == ("place" : Str)) = true := beq_self_eq_true _
  simp only [List.lookup, e, e2]
theorem stF_set (L : Addr) (p q : Int) : putF "place" (.int q) (stF L p) = stF L q := by
  unfold stF
  show (if ("bits" : Str) = "place" then _ else (("bits" : Str), V.ref L) :: (if ("place" : Str) = "place" then [(("place" : Str), V.int q)] else _)) = _
  rw [if_neg bp_, if_pos rfl]
theorem stF_new (L M : Addr) (p : Int) : putF "bits" (.ref M) (stF L p) = stF M p := by
  unfold stF
  show (if ("bits" : Str) = "bits" then (("bits" : Str), V.ref M) :: [(("place" : Str), V.int p)] else _) = _
  rw [if_pos rfl]
theorem stF_make (L : Addr) (p : Int) : putF "place" (.int p) (putF "bits" (.ref L) []) = stF L p := by
  show (if ("bits" : Str) = "place" then _ else (("bits" : Str), V.ref L) :: putF "place" (.int p) []) = _
  rw [if_neg bp_]
  rfl
theorem stF_len (L : Addr) (p : Int) : (stF L p).length < 1000 := by
  show 2 < 1000
  decide
/-- the store at s, its list at L -/
structure StoreAt (C : Addr) (H : Hp) (s L : Addr) (st : Md03.Abs) : Prop where
  ins : ∃ dx, H s = some (.ins C dx (stF L (st.place : Int)))
  lst : H L = some (.lst (bV st.bits))
theorem StoreAt.ne {C : Addr} {H : Hp} {s L : Addr} {st : Md03.Abs} (h : StoreAt C H s L st) : s ≠ L := by
  obtain ⟨dx, e⟩ := h.ins
  exact ne_of e h.lst (by intro q; cases q)
/-- all but the store stands -/
def Kp (s L : Addr) (H H' : Hp) : Prop := ∀ b o, H b = some o → b ≠ s → b ≠ L → H' b = some o
theorem Kp.refl (s L : Addr) (H : Hp) : Kp s L H H := fun _ _ h _ _ => h
theorem Kp.trans {s L : Addr} {H H1 H2 : Hp} (a : Kp s L H H1) (b : Kp s L H1 H2) : Kp s L H H2 := fun c o h h1 h2 => b c o (a c o h h1 h2) h1 h2
theorem Kp.of {s L : Addr} {H H' : Hp} (a : Same H H') : Kp s L H H' := fun c o h _ _ => a c o h
theorem Kp.L {s L : Addr} {H : Hp} {o : HO} : Kp s L H (upd H L o) := fun c u h _ h2 => by
  rw [upd_ne h2]
  exact h
theorem Kp.s {s L : Addr} {H : Hp} {o : HO} : Kp s L H (upd H s o) := fun c u h h1 _ => by
  rw [upd_ne h1]
  exact h
theorem Same.new {H : Hp} {p : Addr} {o : HO} (h : H p = none) : Same H (upd H p o) := fun b u e => by
  rw [upd_ne (ne_of_none e h)]
  exact e
theorem StoreAt.same {C : Addr} {H H' : Hp} {s L : Addr} {st : Md03.Abs} (h : StoreAt C H s L st) (e : Same H H') : StoreAt C H' s L st := by
  obtain ⟨⟨dx, h1⟩, h2⟩ := h
  exact ⟨⟨dx, e _ _ h1⟩, e _ _ h2⟩
/-- the store's list is changed -/
theorem StoreAt.put {C : Addr} {H : Hp} {s L : Addr} {st : Md03.Abs} (h : StoreAt C H s L st) (l : List Bool) : StoreAt C (upd H L (.lst (bV l))) s L { st with bits := l } := by
  have n := h.ne
  obtain ⟨⟨dx, h1⟩, h2⟩ := h
  exact ⟨⟨dx, by rw [upd_ne n]; exact h1⟩, upd_same⟩
/-- a letter of an item -/
def letter : Md03.Kind → Str
  | .u => "u"
  | .i => "i"
  | .z => "z"
def itF (x : Md03.Item) : List (Str × V) := [("letter", .str (letter x.1)), ("width", .int (x.2 : Int))]
theorem itF_letter (x : Md03.Item) : (itF x).lookup ("letter" : Str) = some (.str (letter x.1)) := by
  unfold itF
  have e : (("letter" : Str) == ("letter" : Str)) = true := beq_self_eq_true _
  simp only [List.lookup, e]
theorem itF_width (x : Md03.Item) : (itF x).lookup ("width" : Str) = some (.int (x.2 : Int)) := by
  unfold itF
  have e : (("width" : Str) == ("letter" : Str)) = false := by decide +kernel
  have e2 : (("width" : Str) == ("width" : Str)) = true := beq_self_eq_true _
  simp only [List.lookup, e, e2]
def ItemAt (CI : Addr) (H : Hp) (p : Addr) (x : Md03.Item) : Prop := ∃ dx, H p = some (.ins CI dx (itF x))
theorem ItemAt.same {CI : Addr} {H H' : Hp} {p : Addr} {x : Md03.Item} (h : ItemAt CI H p x) (e : Same H H') : ItemAt CI H' p x := let ⟨dx, h1⟩ := h; ⟨dx, e _ _ h1⟩
theorem ItemAt.kp {C CI : Addr} {H H' : Hp} {s L p : Addr} {st : Md03.Abs} {x : Md03.Item} (h : ItemAt CI H p x) (S : StoreAt C H s L st) (e : Kp s L H H') : ItemAt CI H' p x := by
  obtain ⟨dx, h1⟩ := h
  obtain ⟨⟨d, h2⟩, h3⟩ := S
  refine ⟨dx, e _ _ h1 (ne_of h1 h2 fun q => ?_) (ne_of h1 h3 fun q => ?_)⟩
  · cases q
  · cases q
/-- a value or None -/
def oV : Option Int → V
  | some i => .int i
  | none => .non
end Pb

/-! ## PbW1 -/
namespace Pb
open PySem L2
section
variable {P : Program} {w : World} {K : PySem.W.Frag} {mg : Str → Option Value} {base : Heap} {C CI : Addr}
/-! ### the store's own defs -/
def spRoom (C : Addr) : Sp := fun vs H Q _ => ∃ (s L : Addr) (st : Md03.Abs) (n : Nat), vs = [.ref s, .int (n : Int)] ∧ StoreAt C H s L st ∧ Q (.bl (decide (st.bits.length + n ≤ 32768))) H
theorem sc_has_room : FnScope ["store", "width"] ["store", "width"] (defScope (top 9)) := ⟨rfl, rfl, rfl, by decide +kernel, rfl, by decide +kernel, by decide +kernel⟩
theorem ok_room (D : Df K mg "has_room" (top 9)) (T : Txt K mg C CI) : HasD P w K mg base "has_room" 1 ["store", "width"] (spRoom C) := by
  obtain ⟨f, fd, F, g⟩ := D.ex
  refine ⟨f, fd, g, F.kp, F.binds (fun _ _ _ _ _ _ us hl => match us, hl with | [_, _], _ => rfl), F.ok sc_has_room (fun vs H Q E h => ?_) (fun cdv A outer s0 H vs Q E hr h => ?_)⟩
  · obtain ⟨s, L, st, n, rfl, _⟩ := h
    rfl
  · obtain ⟨s, L, st, n, rfl, S, k⟩ := h
    obtain ⟨⟨dx, h1⟩, h2⟩ := S
    refine ⟨_, (pss_one (ps_ret (pe_cmpR op_le (pe_op op_add (pe_callB call_len_seq (by rfl) T.len PySem.boot_len (pa_cons (pe_fld (pv 0) rfl) pa_nil)) (pv 1)) pe_int (nomark _)))), ?_⟩
    refine ⟨_, rfl, s, C, dx, _, _, rfl, h1, T.clS, T.nB, stF_bits _ _, L, _, rfl, .inl (SqL.of h2), _, rfl, _, _, rfl, rfl, _, _, rfl, rfl, ?_⟩
    rw [bV_len]
    have e : decide ((st.bits.length : Int) + (n : Int) ≤ 32768) = decide (st.bits.length + n ≤ 32768) := by
      rw [decide_eq_decide]
      omega
    rw [← e] at k
    exact k
def spLeft (C : Addr) : Sp := fun vs H Q _ => ∃ (s L : Addr) (st : Md03.Abs) (n : Nat), vs = [.ref s, .int (n : Int)] ∧ StoreAt C H s L st ∧ Q (.bl (st.has n)) H
theorem sc_has_left : FnScope ["store", "width"] ["store", "width"] (defScope (top 10)) := ⟨rfl, rfl, rfl, by decide +kernel, rfl, by decide +kernel, by decide +kernel⟩
theorem ok_left (D : Df K mg "has_left" (top 10)) (T : Txt K mg C CI) : HasD P w K mg base "has_left" 1 ["store", "width"] (spLeft C) := by
  obtain ⟨f, fd, F, g⟩ := D.ex
  refine ⟨f, fd, g, F.kp, F.binds (fun _ _ _ _ _ _ us hl => match us, hl with | [_, _], _ => rfl), F.ok sc_has_left (fun vs H Q E h => ?_) (fun cdv A outer s0 H vs Q E hr h => ?_)⟩
  · obtain ⟨s, L, st, n, rfl, _⟩ := h
    rfl
  · obtain ⟨s, L, st, n, rfl, S, k⟩ := h
    obtain ⟨⟨dx, h1⟩, h2⟩ := S
    refine ⟨_, (pss_one (ps_ret (pe_cmpR op_le (pe_op op_add (pe_fld (pv 0) rfl) (pv 1)) (pe_callB call_len_seq (by rfl) T.len PySem.boot_len (pa_cons (pe_fld (pv 0) rfl) pa_nil)) (nomark _)))), ?_⟩
    refine ⟨_, rfl, s, C, dx, _, _, rfl, h1, T.clS, T.nP, stF_place _ _, _, rfl, _, _, rfl, rfl, _, rfl, s, C, dx, _, _, rfl, h1, T.clS, T.nB, stF_bits _ _, L, _, rfl, .inl (SqL.of h2), _, _, rfl, rfl, ?_⟩
    rw [bV_len]
    have e : decide ((st.place : Int) + (n : Int) ≤ (st.bits.length : Int)) = st.has n := by
      unfold Md03.Abs.has
      rw [decide_eq_decide]
      omega
    rw [← e] at k
    exact k
/-- put_bits: the bits of a number behind those of the store -/
def spPut (C : Addr) : Sp := fun vs H Q _ => ∃ (s L : Addr) (st : Md03.Abs) (n : Int) (m : Nat), vs = [.ref s, .int n, .int (m : Int)] ∧ StoreAt C H s L st ∧ m ≤ 64 ∧ st.bits.length + m ≤ 32768 ∧
  Q .non (upd H L (.lst (bV (st.bits ++ Md03.bitsOf m (Md03.mod m n)))))
theorem sc_put_bits : FnScope ["store", "number", "width", "bit"] ["store", "number", "width"] (defScope (top 11)) := ⟨rfl, rfl, rfl, by decide +kernel, rfl, by decide +kernel, by decide +kernel⟩
theorem ok_put (D : Df K mg "put_bits" (top 11)) (T : Txt K mg C CI) : HasD P w K mg base "put_bits" 1 ["store", "number", "width"] (spPut C) := by
  obtain ⟨f, fd, F, g⟩ := D.ex
  refine ⟨f, fd, g, F.kp, F.binds (fun _ _ _ _ _ _ us hl => match us, hl with | [_, _, _], _ => rfl), F.ok sc_put_bits (fun vs H Q E h => ?_) (fun cdv A outer s0 H vs Q E hr h => ?_)⟩
  · obtain ⟨s, L, st, n, m, rfl, _⟩ := h
    rfl
  · obtain ⟨s, L, st, n, m, rfl, S, hm, hroom, k⟩ := h
    refine ⟨_, (pss_one (ps_for PassesOwn.never rfl (pi_range3 (by rfl) T.range (pa_cons (pe_op op_sub (pv 2) pe_int) (pa_cons (pe_un un_neg pe_int) (pa_cons (pe_un un_neg pe_int) pa_nil)))) (pg_name (i := 3) sc_put_bits.nd rfl (Or.inl rfl)) (pss_one (ps_expr (pe_bm PySem.F.plainAttrs_list PySem.F.slot_list_append PySem.F.type_list_append mt_append (pe_fld (pv 0) rfl) (pa_cons (pe_op op_mod (pe_op op_shr (pv 1) (pv 3)) pe_int) pa_nil)))))), ?_⟩
    have hn : ((m : Int) - 1 - -1).toNat = m := by omega
    refine ⟨_, rfl, _, _, rfl, rfl, _, rfl, _, rfl, (m : Int) - 1, -1, -1, m, rfl, (by
      have q := RgC.neg (i := (m : Int) - 1) (j := -1) (by omega) (by omega) (by decide) (by decide)
      rw [hn] at q
      exact q), for_rangeC (lo := (m : Int) - 1) (c := -1) (n := m) (fun i σ H' => ∃ v : Option V, σ = [some (.ref s), some (.int n), some (.int (m : Int)), v] ∧ H' = upd H L (.lst (bV (st.bits ++ (Md03.bitsOf m (Md03.mod m n)).take i))))
      ⟨none, rfl, ?_⟩ ?_ ?_⟩
    · rw [List.take_zero, List.append_nil]
      funext b
      by_cases hb : b = L
      · rw [hb, upd_same]
        exact S.lst
      · rw [upd_ne hb]
    · rintro i σ H' hi ⟨v, rfl, rfl⟩
      obtain ⟨⟨dx, h1⟩, h2⟩ := S.put (st.bits ++ (Md03.bitsOf m (Md03.mod m n)).take i)
      have hl : ((Md03.bitsOf m (Md03.mod m n)).take i).length = i := by
        rw [List.length_take, bitsOf_len]
        omega
      refine ⟨_, rfl, s, C, dx, _, _, rfl, h1, T.clS, T.nB, stF_bits _ _, .inl ⟨rfl, _, SqL.of h2⟩, _, rfl, _, rfl, _, _, rfl, rfl, (by show (0 : Int) ≤ _; omega), _, _, rfl, rfl, (by show (0 : Int) < 2; decide), L, _, _, rfl, rfl, h2, ?_, ?_⟩
      · rw [bV_len, List.length_append, hl]
        exact Nat.lt_of_lt_of_le (show st.bits.length + i < 32769 by omega) (by decide)
      · refine ⟨_, rfl, ?_⟩
        rw [upd_upd]
        congr 2
        have ej : ((m : Int) - 1 + (i : Int) * -1).toNat = m - 1 - i := by omega
        rw [take_more (bitsOf_get m (Md03.mod m n) i hi), ← List.append_assoc, bV_app _ [_]]
        show _ ++ [V.int (n / 2 ^ ((m : Int) - 1 + (i : Int) * -1).toNat % 2)] = _
        rw [ej, bit_eq (w := m) (j := m - 1 - i) (by omega) n]
        rfl
    · rintro σ H' ⟨v, rfl, rfl⟩
      rw [List.take_of_length_le (by rw [bitsOf_len]; exact Nat.le_refl _)]
      exact k
/-- read_bits: the next bits' number; the place is behind them; what else stood stands -/
def spRead (C : Addr) : Sp := fun vs H Q _ => ∃ (s L : Addr) (st : Md03.Abs) (m : Nat), vs = [.ref s, .int (m : Int)] ∧ StoreAt C H s L st ∧ st.has m = true ∧
  ∀ H' : Hp, StoreAt C H' s L { st with place := st.place + m } → (∀ b o, H b = some o → b ≠ s → H' b = some o) → Q (.int (Md03.value (st.next m) : Int)) H'
theorem sc_read_bits : FnScope ["store", "width", "number", "bit"] ["store", "width"] (defScope (top 12)) := ⟨rfl, rfl, rfl, by decide +kernel, rfl, by decide +kernel, by decide +kernel⟩
theorem ok_read (D : Df K mg "read_bits" (top 12)) (T : Txt K mg C CI) : HasD P w K mg base "read_bits" 1 ["store", "width"] (spRead C) := by
  obtain ⟨f, fd, F, g⟩ := D.ex
  refine ⟨f, fd, g, F.kp, F.binds (fun _ _ _ _ _ _ us hl => match us, hl with | [_, _], _ => rfl), F.ok sc_read_bits (fun vs H Q E h => ?_) (fun cdv A outer s0 H vs Q E hr h => ?_)⟩
  · obtain ⟨s, L, st, m, rfl, _⟩ := h
    rfl
  · obtain ⟨s, L, st, m, rfl, S, hm, k⟩ := h
    have hm' : st.place + m ≤ st.bits.length := of_decide_eq_true hm
    obtain ⟨⟨dx, h1⟩, h2⟩ := id S
    refine ⟨_, (pss_cons (ps_set (i := 2) sc_read_bits.nd rfl (Or.inl rfl) pe_int)
      (pss_cons (ps_for PassesOwn.never rfl (pi_list (pe_slice sl_list (pe_fld (pv 0) rfl) (po_some (pe_fld (pv 0) rfl)) (po_some (pe_op op_add (pe_fld (pv 0) rfl) (pv 1))))) (pg_name (i := 3) sc_read_bits.nd rfl (Or.inl rfl)) (pss_one (ps_set (i := 2) sc_read_bits.nd rfl (Or.inl rfl) (pe_op op_add (pe_op op_mul pe_int (pv 2)) (pv 3)))))
      (pss_cons (ps_fld (pv 0) (pe_op op_add (pe_fld (pv 0) rfl) (pv 1)) rfl)
      (pss_one (ps_ret (pv 2)))))), ?_⟩
    refine ⟨_, rfl, s, C, dx, _, _, rfl, h1, T.clS, T.nB, stF_bits _ _, _, rfl, s, C, dx, _, _, rfl, h1, T.clS, T.nP, stF_place _ _, _, rfl, _, rfl, s, C, dx, _, _, rfl, h1, T.clS, T.nP, stF_place _ _, _, rfl, _, _, rfl, rfl, _, rfl, L, _, rfl, SqL.of h2, fun p hp => ?_⟩
    have ecut : cutV (bV st.bits) (some (st.place : Int)) (some ((st.place : Int) + (m : Int))) = bV (st.next m) := by
      rw [← Int.natCast_add, cut_nat (by rw [bV_len]; exact hm') (Nat.le_add_right _ _), show st.place + m - st.place = m by omega]
      unfold Md03.Abs.next bV
      rw [List.map_take, List.map_drop]
    rw [ecut]
    have S1 : StoreAt C (upd H p (.lst (bV (st.next m)))) s L st := S.same (Same.new hp)
    refine ⟨p, rfl, ⟨_, SqL.of upd_same⟩, for_list (K := K) (a := p) (xs := bV (st.next m)) (fun i σ H' => ∃ v : Option V, σ = [some (.ref s), some (.int (m : Int)), some (.int (Md03.value ((st.next m).take i) : Int)), v] ∧ H' = upd H p (.lst (bV (st.next m))))
      ⟨none, rfl, rfl⟩ ?_ ?_ ?_⟩
    · rintro i σ H' _ ⟨v, rfl, rfl⟩
      exact SqL.of upd_same
    · rintro i x σ H' hx ⟨v, rfl, rfl⟩
      obtain ⟨b, hb, rfl⟩ := bV_get hx
      refine ⟨_, rfl, _, _, rfl, rfl, .inl (by decide), _, rfl, _, _, rfl, rfl, ?_⟩
      refine ⟨some (V.int (b.toNat : Int)), ?_, rfl⟩
      rw [take_more hb, value_snoc, Int.natCast_add, Int.natCast_mul]
      rfl
    · rintro σ H' ⟨v, rfl, rfl⟩
      obtain ⟨⟨d1, q1⟩, q2⟩ := id S1
      refine ⟨_, rfl, s, C, d1, _, _, rfl, q1, T.clS, T.nP, stF_place _ _, _, rfl, _, _, rfl, rfl, _, rfl, s, C, d1, _, rfl, q1, T.clS, T.nP, stF_len _ _, _, rfl, ?_⟩
      rw [bV_len, List.take_of_length_le (Nat.le_refl _), stF_set]
      refine k _ ⟨⟨d1, ?_⟩, ?_⟩ fun b o e hb => ?_
      · rw [upd_same, ← Int.natCast_add]
      · rw [upd_ne S.ne.symm]
        exact q2
      · rw [upd_ne hb]
        exact Same.new hp b o e
/-- signed -/
def spSigned : Sp := fun vs H Q _ => ∃ (n : Int) (m : Nat), vs = [.int n, .int (m : Int)] ∧ 1 ≤ m ∧ m ≤ 64 ∧ Q (.int (sgn n m)) H
theorem sc_signed : FnScope ["number", "width"] ["number", "width"] (defScope (top 13)) := ⟨rfl, rfl, rfl, by decide +kernel, rfl, by decide +kernel, by decide +kernel⟩
theorem ok_signed (D : Df K mg "signed" (top 13)) : HasD P w K mg base "signed" 1 ["number", "width"] spSigned := by
  obtain ⟨f, fd, F, g⟩ := D.ex
  refine ⟨f, fd, g, F.kp, F.binds (fun _ _ _ _ _ _ us hl => match us, hl with | [_, _], _ => rfl), F.ok sc_signed (fun vs H Q E h => ?_) (fun cdv A outer s0 H vs Q E hr h => ?_)⟩
  · obtain ⟨n, m, rfl, _⟩ := h
    rfl
  · obtain ⟨n, m, rfl, h1, h64, k⟩ := h
    refine ⟨_, (pss_cons (ps_if (pt_cmpR op_ge (pv 0) (pe_op op_shl pe_int (pe_op op_sub (pv 1) pe_int)) (nomark _)) (pss_one (ps_ret (pe_op op_sub (pv 0) (pe_op op_shl pe_int (pv 1))))) pss_nil)
      (pss_one (ps_ret (pv 0)))), ?_⟩
    have e1 : ((m : Int) - 1).toNat = m - 1 := by omega
    refine ⟨_, rfl, _, rfl, _, _, rfl, rfl, _, _, rfl, rfl, ⟨by omega, by omega, by decide⟩, _, _, rfl, rfl, _, rfl, ?_⟩
    rw [e1, Int.one_mul]
    unfold sgn at k
    by_cases hc : (2 : Int) ^ (m - 1) ≤ n
    · rw [if_pos hc] at k
      rw [decide_eq_true hc]
      refine iteT ⟨_, rfl, _, rfl, _, _, rfl, rfl, ⟨by omega, by omega, by decide⟩, _, _, rfl, rfl, ?_⟩
      rw [Int.one_mul]
      exact k
    · rw [if_neg hc] at k
      rw [decide_eq_false hc]
      exact iteF ⟨_, rfl, k⟩
/-- number_of -/
def spNum (K : PySem.W.Frag) : Sp := fun vs H Q _ => ∃ (a : Addr) (b : Md03.Bytes), vs = [.ref a] ∧ SqL K H a (cV b) ∧ Q (.int (Md03.word b : Int)) H
theorem sc_number_of : FnScope ["eight", "number", "byte"] ["eight"] (defScope (top 14)) := ⟨rfl, rfl, rfl, by decide +kernel, rfl, by decide +kernel, by decide +kernel⟩
theorem ok_num (D : Df K mg "number_of" (top 14)) (T : Txt K mg C CI) : HasD P w K mg base "number_of" 1 ["eight"] (spNum K) := by
  obtain ⟨f, fd, F, g⟩ := D.ex
  refine ⟨f, fd, g, F.kp, F.binds (fun _ _ _ _ _ _ us hl => match us, hl with | [_], _ => rfl), F.ok sc_number_of (fun vs H Q E h => ?_) (fun cdv A outer s0 H vs Q E hr h => ?_)⟩
  · obtain ⟨a, b, rfl, _⟩ := h
    rfl
  · obtain ⟨a, b, rfl, hS, k⟩ := h
    refine ⟨_, (pss_cons (ps_set (i := 1) sc_number_of.nd rfl (Or.inl rfl) pe_int)
      (pss_cons (ps_for PassesOwn.never rfl (pi_reversed (by rfl) T.reversed (pa_cons (pv 0) pa_nil)) (pg_name (i := 2) sc_number_of.nd rfl (Or.inl rfl)) (pss_one (ps_set (i := 1) sc_number_of.nd rfl (Or.inl rfl) (pe_op op_add (pe_op op_mul pe_int (pv 1)) (pv 2)))))
      (pss_one (ps_ret (pv 1))))), ?_⟩
    refine ⟨_, rfl, a, _, rfl, hS, RT.for_Itv (K := K) (a := a) (xs := cV b) (fun i σ H' => ∃ v : Option V, σ = [some (.ref a), some (.int (Md03.word (b.drop (b.length - i)) : Int)), v] ∧ H' = H)
      ⟨none, ?_, rfl⟩ ?_ ?_ ?_⟩
    · rw [Nat.sub_zero, List.drop_length]
      rfl
    · rintro i σ H' ⟨v, rfl, rfl⟩
      exact hS
    · rintro i x σ H' hi hx ⟨v, rfl, rfl⟩
      rw [cV_len] at hi hx
      obtain ⟨c, hc, rfl⟩ := cV_get hx
      refine ⟨_, rfl, _, _, rfl, rfl, .inl (by decide), _, rfl, _, _, rfl, rfl, ?_⟩
      refine ⟨some (V.int (c.toNat : Int)), ?_, rfl⟩
      rw [show b.length - (i + 1) = b.length - 1 - i by omega, word_drop hc, show b.length - 1 - i + 1 = b.length - i by omega]
      show _ = [_, some (V.int ((c.toNat + 256 * Md03.word (b.drop (b.length - i)) : Nat) : Int)), _]
      rw [Int.natCast_add, Int.natCast_mul, Int.add_comm]
      rfl
    · rintro σ H' ⟨v, rfl, rfl⟩
      rw [cV_len, Nat.sub_self]
      exact ⟨_, rfl, k⟩
/-- eight_of: a new list -/
def spEight : Sp := fun vs H Q _ => ∃ (n : Int), vs = [.int n] ∧ ∀ p, H p = none → Q (.ref p) (upd H p (.lst (cV (Md03.bytesOf 8 (Md03.mod 64 n)))))
theorem sc_eight_of : FnScope ["number", "place"] ["number"] (defScope (top 15)) := ⟨rfl, rfl, rfl, by decide +kernel, rfl, by decide +kernel, by decide +kernel⟩
theorem ok_eight (D : Df K mg "eight_of" (top 15)) (T : Txt K mg C CI) : HasD P w K mg base "eight_of" 1 ["number"] spEight := by
  obtain ⟨f, fd, F, g⟩ := D.ex
  refine ⟨f, fd, g, F.kp, F.binds (fun _ _ _ _ _ _ us hl => match us, hl with | [_], _ => rfl), F.ok sc_eight_of (fun vs H Q E h => ?_) (fun cdv A outer s0 H vs Q E hr h => ?_)⟩
  · obtain ⟨n, rfl, _⟩ := h
    rfl
  · obtain ⟨n, rfl, k⟩ := h
    refine ⟨_, (pss_one (ps_ret (pe_lc (own := [("place", 1)]) (g := gName 1) (tt := tYes) rfl sc_eight_of.nd (pi_range1 (by rfl) T.range (pa_cons pe_int pa_nil)) (blkOk_by (own := [("place", 1)]) (N := ["number", "place"]) (sc := defScope (top 15)) (by decide +kernel)) (fun _ _ _ _ _ => pg_name (i := 1) sc_eight_of.nd rfl (Or.inl rfl)) (fun _ _ _ _ _ => pts_nil) (fun _ _ _ _ _ => (pe_op op_mod (pe_op op_shr (pv 0) (pe_op op_mul pe_int (pv 1))) pe_int))))), ?_⟩
    refine ⟨8, rfl, by decide, by decide, fun D hD => lc_range (lo := 0) (n := 8) (fun i H' => H' = upd H D (.lst (cV ((Md03.bytesOf 8 (Md03.mod 64 n)).take i)))) rfl ?_ ?_⟩
    · rintro i H' hi rfl
      refine ⟨rfl, _, rfl, _, rfl, _, _, rfl, rfl, .inl (by decide), _, _, rfl, rfl, (by show (0 : Int) ≤ _; omega), _, _, rfl, rfl, (by show (0 : Int) < 256; decide), _, upd_same, ?_, ?_⟩
      · rw [cV_len, List.length_take, bytesOf_len]
        exact Nat.lt_of_le_of_lt (Nat.min_le_right _ _) (by decide)
      · rw [upd_upd]
        congr 2
        have ej : (8 * ((0 : Int) + (i : Int))).toNat = 8 * i := by omega
        rw [take_more (bytesOf_get 8 (Md03.mod 64 n) i hi), cV_app]
        show _ ++ [V.int (n / 2 ^ (8 * ((0 : Int) + (i : Int))).toNat % 256)] = _
        rw [ej, byte_eq n hi]
        rfl
    · rintro H' rfl
      have q := k D hD
      rw [List.take_of_length_le (by rw [bytesOf_len]; exact Nat.le_refl _)]
      exact q
end
end Pb

/-! ## PbW2 -/
namespace Pb
open PySem L2
/-! ### lists side by side -/
theorem All2.get {α β : Type} {R : α → β → Prop} : ∀ {l : List α} {r : List β} {i : Nat} {a : α}, All2 R l r → l[i]? = some a → ∃ b, r[i]? = some b ∧ R a b
  | _, _, _, _, .nil, h => by simp at h
  | _, _, 0, _, .cons h _, e => by
    have e2 := Option.some.inj e
    subst e2
    exact ⟨_, rfl, h⟩
  | _, _, i + 1, _, .cons _ t, e => All2.get (i := i) t e
theorem All2.len {α β : Type} {R : α → β → Prop} : ∀ {l : List α} {r : List β}, All2 R l r → l.length = r.length
  | _, _, .nil => rfl
  | _, _, .cons _ t => congrArg (· + 1) (All2.len t)
theorem All2.snoc {α β : Type} {R : α → β → Prop} {a : α} {b : β} : ∀ {l : List α} {r : List β}, All2 R l r → R a b → All2 R (l ++ [a]) (r ++ [b])
  | _, _, .nil, h => .cons h .nil
  | _, _, .cons x t, h => .cons x (All2.snoc t h)
theorem All2.mono {α β : Type} {R S : α → β → Prop} : ∀ {l : List α} {r : List β}, All2 R l r → (∀ a b, a ∈ l → R a b → S a b) → All2 S l r
  | _, _, .nil, _ => .nil
  | _, _, .cons x t, f => .cons (f _ _ List.mem_cons_self x) (All2.mono t fun a b h => f a b (List.mem_cons_of_mem _ h))
theorem All2.take {α β : Type} {R : α → β → Prop} {i : Nat} : ∀ {l : List α} {r : List β}, All2 R l r → All2 R (l.take i) (r.take i) := by
  induction i with
  | zero =>
    intro l r _
    exact .nil
  | succ i ih =>
    intro l r h
    cases h with
    | nil => exact .nil
    | cons x t => exact .cons x (ih t)
theorem refs_get {as : List Addr} {i : Nat} {v : V} (h : (as.map V.ref)[i]? = some v) : ∃ a, as[i]? = some a ∧ v = V.ref a := by
  rw [List.getElem?_map] at h
  cases e : as[i]? with
  | none =>
    rw [e] at h
    cases h
  | some b =>
    rw [e] at h
    exact ⟨b, rfl, (Option.some.inj h).symm⟩
/-! ### formats -/
section
variable {P : Program} {w : World} {K : PySem.W.Frag} {mg : Str → Option Value} {base : Heap} {C CI : Addr}
/-- Item.__init__ -/
def spItem (CI : Addr) : Sp := fun vs H Q _ => ∃ (p dx : Addr) (l : Str) (n : Int), vs = [.ref p, .str l, .int n] ∧ H p = some (.ins CI dx []) ∧
  Q .non (upd H p (.ins CI dx ([("letter", V.str l), ("width", V.int n)] : List (Str × V))))
theorem sc_init_Item : FnScope ["self", "letter", "width"] ["self", "letter", "width"] (defScope (inClass (top 1) 0)) := ⟨rfl, rfl, rfl, by decide +kernel, rfl, by decide +kernel, by decide +kernel⟩
theorem ok_item {f : Addr} {fd : FuncData} (F : Fun K "__init__" "Item.__init__" (inClass (top 1) 0) f fd) (T : Txt K mg C CI) : FnOk P w K mg base CX0 1 f fd ["self", "letter", "width"] (spItem CI) := by
  refine F.ok sc_init_Item (fun vs H Q E h => ?_) (fun cdv A outer s0 H vs Q E hr h => ?_)
  · obtain ⟨p, dx, l, n, rfl, _⟩ := h
    rfl
  · obtain ⟨p, dx, l, n, rfl, hp, k⟩ := h
    refine ⟨_, (pss_cons (ps_fld (pv 0) (pv 1) rfl)
      (pss_one (ps_fld (pv 0) (pv 2) rfl))), ?_⟩
    refine ⟨_, rfl, _, rfl, p, CI, dx, [], rfl, hp, T.clI, T.nL, (by show 0 < 1000; decide), ?_⟩
    refine ⟨_, rfl, _, rfl, p, CI, dx, _, rfl, upd_same, T.clI, T.nW, (by show 1 < 1000; decide), ?_⟩
    rw [upd_upd]
    have e : putF "width" (.int n) (putF "letter" (.str l) []) = ([("letter", V.str l), ("width", V.int n)] : List (Str × V)) := by
      show (if ("letter" : Str) = "width" then _ else (("letter" : Str), V.str l) :: putF "width" (.int n) []) = _
      rw [if_neg lw_]
      rfl
    rw [e]
    exact k
/-- split_blanks -/
def spSplit (K : PySem.W.Frag) : Sp := fun vs H Q _ => ∃ (a : Addr) (t : Md03.Bytes), vs = [.ref a] ∧ SqL K H a (cV t) ∧ t.length ≤ 200 ∧
  ∀ (H' : Hp) (p : Addr) (as : List Addr), Same H H' → H' p = some (.lst (as.map V.ref)) → All2 (fun b x => H' b = some (.lst (cV x)) ∧ H b = none) as (Md03.split t) → Q (.ref p) H'
theorem sc_split_blanks : FnScope ["text", "pieces", "piece", "byte"] ["text"] (defScope (top 2)) := ⟨rfl, rfl, rfl, by decide +kernel, rfl, by decide +kernel, by decide +kernel⟩
theorem ok_split (D : Df K mg "split_blanks" (top 2)) (T : Txt K mg C CI) : HasD P w K mg base "split_blanks" 1 ["text"] (spSplit K) := by
  obtain ⟨f, fd, F, g⟩ := D.ex
  refine ⟨f, fd, g, F.kp, F.binds (fun _ _ _ _ _ _ us hl => match us, hl with | [_], _ => rfl), F.ok sc_split_blanks (fun vs H Q E h => ?_) (fun cdv A outer s0 H vs Q E hr h => ?_)⟩
  · obtain ⟨a, t, rfl, _⟩ := h
    rfl
  · obtain ⟨a, t, rfl, hS, hlen, k⟩ := h
    refine ⟨_, (pss_cons (ps_set (i := 1) sc_split_blanks.nd rfl (Or.inl rfl) (pe_lst pa_nil))
      (pss_cons (ps_set (i := 2) sc_split_blanks.nd rfl (Or.inl rfl) (pe_lst pa_nil))
      (pss_cons (ps_for PassesOwn.never rfl (pi_list (pv 0)) (pg_name (i := 3) sc_split_blanks.nd rfl (Or.inl rfl)) (pss_one (ps_if (pt_cmpR op_eq (pv 3) pe_int (nomark _)) (pss_cons (ps_expr (pe_bm PySem.F.plainAttrs_list PySem.F.slot_list_append PySem.F.type_list_append mt_append (pv 1) (pa_cons (pv 2) pa_nil)))
      (pss_one (ps_set (i := 2) sc_split_blanks.nd rfl (Or.inl rfl) (pe_lst pa_nil)))) (pss_one (ps_expr (pe_bm PySem.F.plainAttrs_list PySem.F.slot_list_append PySem.F.type_list_append mt_append (pv 2) (pa_cons (pv 3) pa_nil)))))))
      (pss_cons (ps_expr (pe_bm PySem.F.plainAttrs_list PySem.F.slot_list_append PySem.F.type_list_append mt_append (pv 1) (pa_cons (pv 2) pa_nil)))
      (pss_one (ps_ret (pv 1))))))), ?_⟩
    refine ⟨Nat.zero_le _, fun pp hpp => ?_⟩
    refine ⟨Nat.zero_le _, fun q0 hq0 => ?_⟩
    have npq : q0 ≠ pp := fun e => by
      rw [e, upd_same] at hq0
      cases hq0
    have hq0' : H q0 = none := by
      rw [upd_ne npq] at hq0
      exact hq0
    refine ⟨_, rfl, a, rfl, ⟨_, (Same.trans (Same.new hpp) (Same.new hq0)).seq hS⟩, for_list (K := K) (a := a) (xs := cV t)
      (fun i σ H' => ∃ (v : Option V) (q : Addr) (as : List Addr) (ps : List Md03.Bytes) (p : Md03.Bytes), σ = [some (.ref a), some (.ref pp), some (.ref q), v] ∧ Cut (t.take i) ps p ∧ Same H H' ∧ H q = none ∧ q ≠ pp ∧
        H' pp = some (.lst (as.map V.ref)) ∧ H' q = some (.lst (cV p)) ∧ All2 (fun b x => H' b = some (.lst (cV x)) ∧ b ≠ q ∧ b ≠ pp ∧ H b = none) as ps)
      ⟨none, q0, [], [], [], rfl, cut_nil, Same.trans (Same.new hpp) (Same.new hq0), hq0', npq, by rw [upd_ne npq.symm, upd_same] <;> rfl, by rw [upd_same] <;> rfl, .nil⟩ ?_ ?_ ?_⟩
    · rintro i σ H' _ ⟨v, q, as, ps, p, rfl, _, s1, _⟩
      exact s1.seq hS
    · rintro i x σ H' hx ⟨v, q, as, ps, p, rfl, hc, s1, hq, nq, h1, h2, h3⟩
      obtain ⟨c, hc1, rfl⟩ := cV_get hx
      have hi : i < t.length := (List.getElem?_eq_some_iff.mp hc1).1
      have l1 : as.length ≤ 200 := by
        have e1 := split_len (t.take i)
        rw [hc.eq, List.length_append, List.length_singleton, List.length_take] at e1
        rw [h3.len]
        omega
      have l2 : p.length ≤ 200 := by
        have e1 := split_item (t := t.take i) (p := p) (by rw [hc.eq]; simp)
        rw [List.length_take] at e1
        omega
      refine ⟨_, rfl, rfl, _, rfl, ?_⟩
      by_cases hb : c = 32
      · subst hb
        refine iteT ?_
        refine ⟨_, rfl, .inl ⟨rfl, _, SqL.of h1⟩, _, rfl, pp, _, _, rfl, rfl, h1, (by rw [List.length_map]; exact Nat.lt_of_le_of_lt l1 (by decide)), ?_⟩
        refine ⟨Nat.zero_le _, fun q' hq' => ?_⟩
        have n1 : q' ≠ pp := fun e => by
          rw [e, upd_same] at hq'
          cases hq'
        have hq2 : H' q' = none := by
          rw [upd_ne n1] at hq'
          exact hq'
        have n2 : q' ≠ q := fun e => by
          rw [e, h2] at hq2
          cases hq2
        refine ⟨_, q', as ++ [q], ps ++ [p], [], rfl, (by rw [take_more hc1]; exact hc.blank), ?_, s1.free hq2, n1, ?_, upd_same, ?_⟩
        · intro b o e
          rw [upd_ne (ne_of_none (s1 b o e) hq2), upd_ne (ne_of_none e hpp)]
          exact s1 b o e
        · rw [upd_ne n1.symm, upd_same, List.map_append]
          rfl
        · refine All2.snoc (h3.mono fun b x _ ⟨e, m1, m2, m4⟩ => ?_) ?_
          · have m3 : b ≠ q' := ne_of_none e hq2
            exact ⟨by rw [upd_ne m3, upd_ne m2]; exact e, m3, m2, m4⟩
          · exact ⟨by rw [upd_ne n2.symm, upd_ne nq]; exact h2, n2.symm, nq, hq⟩
      · have e32 : decide (V.int (c.toNat : Int) = V.int 32) = false := by
          apply decide_eq_false
          intro e
          have e1 : (c.toNat : Int) = 32 := V.int.inj e
          exact hb (UInt8.toNat_inj.mp (by show c.toNat = 32; omega))
        rw [e32]
        refine iteF ?_
        refine ⟨_, rfl, .inl ⟨rfl, _, SqL.of h2⟩, _, rfl, q, _, _, rfl, rfl, h2, (by rw [cV_len]; exact Nat.lt_of_le_of_lt l2 (by decide)), ?_⟩
        refine ⟨_, q, as, ps, p ++ [c], rfl, (by rw [take_more hc1]; exact hc.other hb), ?_, hq, nq, ?_, ?_, ?_⟩
        · intro b o e
          rw [upd_ne (ne_of_none e hq)]
          exact s1 b o e
        · rw [upd_ne nq.symm]
          exact h1
        · rw [upd_same, cV_app]
          rfl
        · exact h3.mono fun b x _ ⟨e, m1, m2, m4⟩ => ⟨by rw [upd_ne m1]; exact e, m1, m2, m4⟩
    · rintro σ H' ⟨v, q, as, ps, p, rfl, hc, s1, hq, nq, h1, h2, h3⟩
      rw [cV_len, List.take_of_length_le (Nat.le_refl _)] at hc
      have l1 : as.length ≤ 200 := by
        have e1 := split_len t
        rw [hc.eq, List.length_append, List.length_singleton] at e1
        rw [h3.len]
        omega
      refine ⟨_, rfl, .inl ⟨rfl, _, SqL.of h1⟩, _, rfl, pp, _, _, rfl, rfl, h1, (by rw [List.length_map]; exact Nat.lt_of_le_of_lt l1 (by decide)), ?_⟩
      refine ⟨_, rfl, ?_⟩
      refine k _ pp (as ++ [q]) ?_ ?_ ?_
      · intro b o e
        rw [upd_ne (ne_of_none e hpp)]
        exact s1 b o e
      · rw [upd_same, List.map_append]
        rfl
      · rw [hc.eq]
        refine All2.snoc (h3.mono fun b x _ ⟨e, m1, m2, m4⟩ => ⟨?_, m4⟩) ⟨?_, hq⟩
        · rw [upd_ne m2]
          exact e
        · rw [upd_ne nq]
          exact h2
theorem fold10_snoc (n : Nat) (r : Md03.Bytes) (x : UInt8) : fold10 n (r ++ [x]) = 10 * fold10 n r + (x.toNat - 48) := by
  unfold fold10
  rw [List.foldl_append]
  rfl
theorem cV_ix0 (c : UInt8) (r : Md03.Bytes) : atI (cV (c :: r)) 0 = some (V.int (c.toNat : Int)) := atI_nat (j := 0) rfl
theorem byte_is (c d : UInt8) : decide (V.int (c.toNat : Int) = V.int (d.toNat : Int)) = decide (c = d) := by
  rw [decide_eq_decide]
  constructor
  · intro e
    have e1 : (c.toNat : Int) = d.toNat := V.int.inj e
    exact UInt8.toNat_inj.mp (by omega)
  · intro e
    rw [e]
/-- read_width -/
def spWidth (K : PySem.W.Frag) : Sp := fun vs H Q _ => ∃ (a : Addr) (r : Md03.Bytes), vs = [.ref a] ∧ SqL K H a (cV r) ∧ Q (.int (width r : Int)) H
theorem sc_read_width : FnScope ["digits", "width", "digit"] ["digits"] (defScope (top 3)) := ⟨rfl, rfl, rfl, by decide +kernel, rfl, by decide +kernel, by decide +kernel⟩
theorem ok_width (D : Df K mg "read_width" (top 3)) (T : Txt K mg C CI) : HasD P w K mg base "read_width" 1 ["digits"] (spWidth K) := by
  obtain ⟨f, fd, F, g⟩ := D.ex
  refine ⟨f, fd, g, F.kp, F.binds (fun _ _ _ _ _ _ us hl => match us, hl with | [_], _ => rfl), F.ok sc_read_width (fun vs H Q E h => ?_) (fun cdv A outer s0 H vs Q E hr h => ?_)⟩
  · obtain ⟨a, t, rfl, _⟩ := h
    rfl
  · obtain ⟨a, r, rfl, hS, k⟩ := h
    refine ⟨_, (pss_cons (ps_if (PW.pt (pw_or (pt_cmpR op_lt (pe_callB call_len_seq (by rfl) T.len PySem.boot_len (pa_cons (pv 0) pa_nil)) pe_int (nomark _)) (pw_or (pt_cmpR op_gt (pe_callB call_len_seq (by rfl) T.len PySem.boot_len (pa_cons (pv 0) pa_nil)) pe_int (nomark _)) (pw_or1 (pt_cmpR op_eq (pe_ix ix_list (pv 0) pe_int (fun _ _ => rfl)) pe_int (nomark _)))))) (pss_one (ps_ret pe_int)) pss_nil)
      (pss_cons (ps_set (i := 1) sc_read_width.nd rfl (Or.inl rfl) pe_int)
      (pss_cons (ps_for PassesOwn.never rfl (pi_list (pv 0)) (pg_name (i := 2) sc_read_width.nd rfl (Or.inl rfl)) (pss_cons (ps_if (PW.pt (pw_or (pt_cmpR op_lt (pv 2) pe_int (nomark _)) (pw_or1 (pt_cmpR op_gt (pv 2) pe_int (nomark _))))) (pss_one (ps_ret pe_int)) pss_nil)
      (pss_one (ps_set (i := 1) sc_read_width.nd rfl (Or.inl rfl) (pe_op op_sub (pe_op op_add (pe_op op_mul pe_int (pv 1)) (pv 2)) pe_int)))))
      (pss_one (ps_ret (pv 1)))))), ?_⟩
    refine ⟨_, rfl, a, _, rfl, .inl hS, _, _, rfl, rfl, _, rfl, ?_⟩
    rw [cV_len]
    match r with
    | [] => exact k
    | c :: r =>
      have e1 : decide (((c :: r).length : Int) < 1) = false := decide_eq_false (by rw [List.length_cons]; omega)
      rw [e1]
      refine iteF ⟨_, rfl, a, _, rfl, .inl hS, _, _, rfl, rfl, _, rfl, ?_⟩
      rw [cV_len]
      by_cases h2 : (c :: r).length > 2
      · have e2 : decide ((2 : Int) < ((c :: r).length : Int)) = true := decide_eq_true (by omega)
        rw [e2]
        rw [width_cons, if_pos h2] at k
        exact k
      · have e2 : decide ((2 : Int) < ((c :: r).length : Int)) = false := decide_eq_false (by omega)
        rw [e2]
        refine iteF ⟨_, rfl, a, _, _, _, rfl, rfl, hS, cV_ix0 c r, rfl, _, rfl, ?_⟩
        have e3 : decide (V.int (c.toNat : Int) = V.int 48) = decide (c = 48) := byte_is c 48
        rw [e3]
        rw [width_cons, if_neg h2] at k
        by_cases h3 : c = 48
        · rw [decide_eq_true h3]
          rw [if_pos h3] at k
          exact k
        · rw [decide_eq_false h3]
          rw [if_neg h3] at k
          refine iteF ?_
          refine ⟨_, rfl, a, rfl, ⟨_, hS⟩, for_list (K := K) (a := a) (xs := cV (c :: r))
            (fun i σ H' => ∃ v : Option V, σ = [some (.ref a), some (.int (fold10 0 ((c :: r).take i) : Int)), v] ∧ ((c :: r).take i).all isDig = true ∧ H' = H)
            ⟨none, rfl, rfl, rfl⟩ ?_ ?_ ?_⟩
          · rintro i σ H' _ ⟨v, rfl, _, rfl⟩
            exact hS
          · rintro i x σ H' hx ⟨v, rfl, ha, rfl⟩
            obtain ⟨d, hd, rfl⟩ := cV_get hx
            have bad : isDig d = false → Q (.int 0) H' := fun hb => by
              have : ¬ (c :: r).all isDig = true := fun hall => by
                have := List.all_eq_true.mp hall d (List.mem_of_getElem? hd)
                rw [hb] at this
                cases this
              rw [if_neg this] at k
              exact k
            refine ⟨_, rfl, _, _, rfl, rfl, _, rfl, ?_⟩
            by_cases h4 : (d.toNat : Int) < 48
            · rw [decide_eq_true h4]
              refine bad ?_
              unfold isDig
              rw [decide_eq_false (by omega), Bool.false_and]
            · rw [decide_eq_false h4]
              refine iteF ⟨_, rfl, _, _, rfl, rfl, _, rfl, ?_⟩
              by_cases h5 : (57 : Int) < (d.toNat : Int)
              · rw [decide_eq_true h5]
                refine bad ?_
                unfold isDig
                rw [decide_eq_false (show ¬ d.toNat ≤ 57 by omega), Bool.and_false]
              · rw [decide_eq_false h5]
                refine iteF ⟨_, rfl, _, _, rfl, rfl, .inl (by decide), _, rfl, _, _, rfl, rfl, _, _, rfl, rfl, ?_⟩
                refine ⟨some (V.int (d.toNat : Int)), ?_, ?_, rfl⟩
                · rw [take_more hd, fold10_snoc]
                  show [_, some (V.int (10 * (fold10 0 ((c :: r).take i) : Int) + (d.toNat : Int) - 48)), _] = [_, some (V.int ((10 * fold10 0 ((c :: r).take i) + (d.toNat - 48) : Nat) : Int)), _]
                  have e6 : 10 * (fold10 0 ((c :: r).take i) : Int) + (d.toNat : Int) - 48 = ((10 * fold10 0 ((c :: r).take i) + (d.toNat - 48) : Nat) : Int) := by omega
                  rw [e6]
                · rw [take_more hd, List.all_append, ha, Bool.true_and, List.all_cons, List.all_nil, Bool.and_true]
                  unfold isDig
                  rw [decide_eq_true (by omega), decide_eq_true (by omega)]
                  rfl
          · rintro σ H' ⟨v, rfl, ha, rfl⟩
            rw [cV_len, List.take_length] at ha ⊢
            rw [if_pos ha] at k
            exact ⟨_, rfl, k⟩
/-- read_item: None, or a new item -/
def ItR (CI : Addr) (o : Option Md03.Item) (H : Hp) (v : V) : Prop := match o with
  | none => v = .non
  | some x => ∃ p, v = .ref p ∧ ItemAt CI H p x
def spReadItem (K : PySem.W.Frag) (CI : Addr) : Sp := fun vs H Q _ => ∃ (a : Addr) (t : Md03.Bytes), vs = [.ref a] ∧ SqL K H a (cV t) ∧ ∀ (H' : Hp) (v : V), Same H H' → ItR CI (readItem t) H' v → Q v H'
theorem same_item {H H1 : Hp} {x dx : Addr} {o1 o2 o3 : HO} (e : Same H H1) (hx : H1 x = none) (hd : H1 dx = none) : Same H (upd (upd (upd H1 dx o1) x o2) x o3) := fun b o h => by
  have n1 := ne_of_none (e b o h) hx
  rw [upd_ne n1, upd_ne n1, upd_ne (ne_of_none (e b o h) hd)]
  exact e b o h
theorem sc_read_item : FnScope ["piece", "width"] ["piece"] (defScope (top 4)) := ⟨rfl, rfl, rfl, by decide +kernel, rfl, by decide +kernel, by decide +kernel⟩
theorem ok_readItem (D : Df K mg "read_item" (top 4)) (T : Txt K mg C CI) (h_read_width : HasD P w K mg base "read_width" 1 ["digits"] (spWidth K)) {f_i : Addr} {fd_i : FuncData} (M_Item : Mk K CI f_i) (G_Item : FnOk P w K mg base CX0 1 f_i fd_i ["self", "letter", "width"] (spItem CI)) (b_Item : Binds K fd_i ["self", "letter", "width"] []) :
    HasD P w K mg base "read_item" 3 ["piece"] (spReadItem K CI) := by
  obtain ⟨f, fd, F, g⟩ := D.ex
  obtain ⟨f_read_width, fd_read_width, g_read_width, k_read_width, b_read_width, G_read_width⟩ := h_read_width.ex
  refine ⟨f, fd, g, F.kp, F.binds (fun _ _ _ _ _ _ us hl => match us, hl with | [_], _ => rfl), F.ok sc_read_item (fun vs H Q E h => ?_) (fun cdv A outer s0 H vs Q E hr h => ?_)⟩
  · obtain ⟨a, t, rfl, _⟩ := h
    rfl
  · obtain ⟨a, t, rfl, hS, k⟩ := h
    refine ⟨_, (pss_cons (ps_if (pt_cmpR op_eq (pe_callB call_len_seq (by rfl) T.len PySem.boot_len (pa_cons (pv 0) pa_nil)) pe_int (nomark _)) (pss_one (ps_ret pe_non)) pss_nil)
      (pss_cons (ps_set (i := 1) sc_read_item.nd rfl (Or.inl rfl) (pe_call G_read_width (hr.mono (by decide)) (by rfl) g_read_width k_read_width b_read_width .nil pass0 (pa_cons (pe_slice sl_list (pv 0) (po_some pe_int) po_none) pa_nil)))
      (pss_cons (ps_if (PW.pt (pw_or (pt_cmpR op_lt (pv 1) pe_int (nomark _)) (pw_or1 (pt_cmpR op_gt (pv 1) pe_int (nomark _))))) (pss_one (ps_ret pe_non)) pss_nil)
      (pss_cons (ps_if (pt_cmpR op_eq (pe_ix ix_list (pv 0) pe_int (fun _ _ => rfl)) (pe_callB call_ord (by rfl) T.ord (by decide +kernel) (pa_cons pe_str pa_nil)) (nomark _)) (pss_one (ps_ret (pe_make M_Item G_Item (hr.mono (by decide)) rfl T.gI b_Item .nil pass0 (pa_cons pe_str (pa_cons (pv 1) pa_nil))))) pss_nil)
      (pss_cons (ps_if (PW.pt (pw_and (pt_cmpR op_eq (pe_ix ix_list (pv 0) pe_int (fun _ _ => rfl)) (pe_callB call_ord (by rfl) T.ord (by decide +kernel) (pa_cons pe_str pa_nil)) (nomark _)) (pw_and1 (pt_cmpR op_ge (pv 1) pe_int (nomark _))))) (pss_one (ps_ret (pe_make M_Item G_Item (hr.mono (by decide)) rfl T.gI b_Item .nil pass0 (pa_cons pe_str (pa_cons (pv 1) pa_nil))))) pss_nil)
      (pss_cons (ps_if (pt_cmpR op_eq (pe_ix ix_list (pv 0) pe_int (fun _ _ => rfl)) (pe_callB call_ord (by rfl) T.ord (by decide +kernel) (pa_cons pe_str pa_nil)) (nomark _)) (pss_one (ps_ret (pe_make M_Item G_Item (hr.mono (by decide)) rfl T.gI b_Item .nil pass0 (pa_cons pe_str (pa_cons (pv 1) pa_nil))))) pss_nil)
      (pss_one (ps_ret pe_non)))))))), ?_⟩
    refine ⟨_, rfl, a, _, rfl, .inl hS, rfl, _, rfl, ?_⟩
    rw [cV_len]
    match t with
    | [] => exact k _ _ (Same.refl H) rfl
    | c :: r =>
      have e1 : decide (V.int ((c :: r).length : Int) = V.int 0) = false := decide_eq_false (fun e => by
        have e2 : ((c :: r).length : Int) = 0 := V.int.inj e
        rw [List.length_cons] at e2
        omega)
      rw [e1]
      refine iteF ⟨_, rfl, 1, rfl, a, _, rfl, hS, fun p hp => ?_⟩
      have ecut : cutV (cV (c :: r)) (some (1 : Int)) none = cV r := by
        have e := cut_from (xs := cV (c :: r)) (a := 1) (by rw [cV_len, List.length_cons]; omega)
        exact e
      rw [ecut]
      have s1 : Same H (upd H p (.lst (cV r))) := Same.new hp
      refine ⟨p, r, rfl, SqL.of upd_same, ?_⟩
      have hS1 := s1.seq hS
      generalize upd H p (.lst (cV r)) = H1 at s1 hS1
      rw [item_cons] at k
      refine ⟨_, rfl, _, _, rfl, rfl, _, rfl, ?_⟩
      by_cases h1 : (width r : Int) < 1
      · rw [decide_eq_true h1]
        rw [if_pos (Or.inl (by omega))] at k
        exact k _ _ s1 rfl
      · rw [decide_eq_false h1]
        refine iteF ⟨_, rfl, _, _, rfl, rfl, _, rfl, ?_⟩
        by_cases h2 : (32 : Int) < (width r : Int)
        · rw [decide_eq_true h2]
          rw [if_pos (Or.inr (by omega))] at k
          exact k _ _ s1 rfl
        · rw [decide_eq_false h2]
          rw [if_neg (by omega)] at k
          refine iteF ⟨_, rfl, a, _, _, _, rfl, rfl, hS1, cV_ix0 c r, _, rfl, rfl, rfl, _, rfl, ?_⟩
          have e3 : decide (V.int (c.toNat : Int) = V.int 117) = decide (c = 117) := byte_is c 117
          show if decide (V.int (c.toNat : Int) = V.int 117) = true then _ else _
          rw [e3]
          by_cases h3 : c = 117
          · rw [decide_eq_true h3]
            rw [if_pos h3] at k
            refine iteT ⟨_, rfl, fun x dx hx hdx hne => ?_⟩
            exact ⟨x, dx, "u", _, rfl, upd_same, rfl, k _ _ (same_item s1 hx hdx) ⟨x, rfl, dx, upd_same⟩⟩
          · rw [decide_eq_false h3]
            rw [if_neg h3] at k
            refine iteF ⟨_, rfl, a, _, _, _, rfl, rfl, hS1, cV_ix0 c r, _, rfl, rfl, rfl, _, rfl, ?_⟩
            have e4 : decide (V.int (c.toNat : Int) = V.int 105) = decide (c = 105) := byte_is c 105
            show if decide (V.int (c.toNat : Int) = V.int 105) = true then _ else _
            rw [e4]
            have last : ¬ (c = 105 ∧ 2 ≤ width r) → tSeq (tIfS (tTest (tOp rEq (tOp (rIxL K) (tVar 0) (tC (.int 0))) (tCB (fun xs H Q => ∃ x, xs = [.str x] ∧ x.length = 1 ∧ Q (.int (x.cps.getD 0 0 : Nat)) H) (tCons (tC (.str "z")) tNil)))) (tRet (tMake CI (spItem CI) [] E0 (tCons (tC (.str "z")) (tCons (tVar 1) tNil)))) tNext) (tRet (tC .non))
                { nx := fun _ H' => Q .non H', rt := Q } [some (.ref a), some (.int (width r : Int))] H1 := fun hn => by
              rw [if_neg hn] at k
              refine ⟨_, rfl, a, _, _, _, rfl, rfl, hS1, cV_ix0 c r, _, rfl, rfl, rfl, _, rfl, ?_⟩
              have e5 : decide (V.int (c.toNat : Int) = V.int 122) = decide (c = 122) := byte_is c 122
              show if decide (V.int (c.toNat : Int) = V.int 122) = true then _ else _
              rw [e5]
              by_cases h5 : c = 122
              · rw [decide_eq_true h5]
                rw [if_pos h5] at k
                refine iteT ⟨_, rfl, fun x dx hx hdx hne => ?_⟩
                exact ⟨x, dx, "z", _, rfl, upd_same, rfl, k _ _ (same_item s1 hx hdx) ⟨x, rfl, dx, upd_same⟩⟩
              · rw [decide_eq_false h5]
                rw [if_neg h5] at k
                exact iteF (k _ _ s1 rfl)
            by_cases h4 : c = 105
            · rw [decide_eq_true h4]
              refine iteT ⟨_, rfl, _, _, rfl, rfl, _, rfl, ?_⟩
              by_cases h5 : (2 : Int) ≤ (width r : Int)
              · rw [decide_eq_true h5]
                rw [if_pos ⟨h4, by omega⟩] at k
                refine iteT ⟨_, rfl, fun x dx hx hdx hne => ?_⟩
                exact ⟨x, dx, "i", _, rfl, upd_same, rfl, k _ _ (same_item s1 hx hdx) ⟨x, rfl, dx, upd_same⟩⟩
              · rw [decide_eq_false h5]
                exact iteF (last fun q => h5 (by omega))
            · rw [decide_eq_false h4]
              exact iteF (iteF (last fun q => h4 q.1))
end
end Pb

/-! ## PbW3 -/
namespace Pb
open PySem L2
section
variable {P : Program} {w : World} {K : PySem.W.Frag} {mg : Str → Option Value} {base : Heap} {C CI : Addr}
theorem letter_z (k : Md03.Kind) : decide (V.str (letter k) = V.str "z") = (k == Md03.Kind.z) := by cases k <;> decide +kernel
theorem letter_u (k : Md03.Kind) : decide (V.str (letter k) = V.str "u") = (k == Md03.Kind.u) := by cases k <;> decide +kernel
theorem letter_i (k : Md03.Kind) : decide (V.str (letter k) = V.str "i") = (k == Md03.Kind.i) := by cases k <;> decide +kernel
/-- a format's items as they lie; None for no format -/
def FmR (CI : Addr) (o : Option (List Md03.Item)) (H0 H : Hp) (v : V) : Prop := match o with
  | none => v = .non
  | some l => ∃ (p : Addr) (as : List Addr), v = .ref p ∧ H p = some (.lst (as.map V.ref)) ∧ All2 (ItemAt CI H) as l ∧ H0 p = none
def spFormat (K : PySem.W.Frag) (CI : Addr) : Sp := fun vs H Q _ => ∃ (a : Addr) (t : Md03.Bytes), vs = [.ref a] ∧ SqL K H a (cV t) ∧ t.length ≤ 200 ∧ ∀ (H' : Hp) (v : V), Same H H' → FmR CI (Md03.items t) H H' v → Q v H'
theorem takes_snoc (l : List Md03.Item) (x : Md03.Item) : ((l ++ [x]).filter Md03.takes).length = (l.filter Md03.takes).length + (if Md03.takes x = true then 1 else 0) := by
  rw [List.filter_append, List.length_append]
  congr 1
  by_cases h : Md03.takes x = true
  · rw [if_pos h, List.filter_cons_of_pos h]
    rfl
  · rw [if_neg h, List.filter_cons_of_neg h]
    rfl
theorem sc_read_format : FnScope ["text", "items", "numbers", "piece", "item"] ["text"] (defScope (top 5)) := ⟨rfl, rfl, rfl, by decide +kernel, rfl, by decide +kernel, by decide +kernel⟩
theorem ok_format (D : Df K mg "read_format" (top 5)) (T : Txt K mg C CI) (h_split_blanks : HasD P w K mg base "split_blanks" 1 ["text"] (spSplit K)) (h_read_item : HasD P w K mg base "read_item" 3 ["piece"] (spReadItem K CI)) :
    HasD P w K mg base "read_format" 4 ["text"] (spFormat K CI) := by
  obtain ⟨f, fd, F, g⟩ := D.ex
  obtain ⟨f_split_blanks, fd_split_blanks, g_split_blanks, k_split_blanks, b_split_blanks, G_split_blanks⟩ := h_split_blanks.ex
  obtain ⟨f_read_item, fd_read_item, g_read_item, k_read_item, b_read_item, G_read_item⟩ := h_read_item.ex
  refine ⟨f, fd, g, F.kp, F.binds (fun _ _ _ _ _ _ us hl => match us, hl with | [_], _ => rfl), F.ok sc_read_format (fun vs H Q E h => ?_) (fun cdv A outer s0 H vs Q E hr h => ?_)⟩
  · obtain ⟨a, t, rfl, _⟩ := h
    rfl
  · obtain ⟨a, t, rfl, hS, hlen, k⟩ := h
    rw [← read_is] at k
    unfold readFormat at k
    refine ⟨_, (pss_cons (ps_if (PW.pt (pw_or (pt_cmpR op_lt (pe_callB call_len_seq (by rfl) T.len PySem.boot_len (pa_cons (pv 0) pa_nil)) pe_int (nomark _)) (pw_or1 (pt_cmpR op_gt (pe_callB call_len_seq (by rfl) T.len PySem.boot_len (pa_cons (pv 0) pa_nil)) pe_int (nomark _))))) (pss_one (ps_ret pe_non)) pss_nil)
      (pss_cons (ps_set (i := 1) sc_read_format.nd rfl (Or.inl rfl) (pe_lst pa_nil))
      (pss_cons (ps_set (i := 2) sc_read_format.nd rfl (Or.inl rfl) pe_int)
      (pss_cons (ps_for PassesOwn.never rfl (pi_list (pe_call G_split_blanks (hr.mono (by decide)) (by rfl) g_split_blanks k_split_blanks b_split_blanks .nil pass0 (pa_cons (pv 0) pa_nil))) (pg_name (i := 3) sc_read_format.nd rfl (Or.inl rfl)) (pss_cons (ps_set (i := 4) sc_read_format.nd rfl (Or.inl rfl) (pe_call G_read_item (hr.mono (by decide)) (by rfl) g_read_item k_read_item b_read_item .nil pass0 (pa_cons (pv 3) pa_nil)))
      (pss_cons (ps_if (pt_cmpR op_isN (pv 4) pe_non (nomark _)) (pss_one (ps_ret pe_non)) pss_nil)
      (pss_cons (ps_if (pt_cmpR op_ne (pe_fld (pv 4) rfl) pe_str (nomark _)) (pss_one (ps_set (i := 2) sc_read_format.nd rfl (Or.inl rfl) (pe_op op_add (pv 2) pe_int))) pss_nil)
      (pss_one (ps_expr (pe_bm PySem.F.plainAttrs_list PySem.F.slot_list_append PySem.F.type_list_append mt_append (pv 1) (pa_cons (pv 4) pa_nil))))))))
      (pss_cons (ps_if (pt_cmpR op_gt (pv 2) pe_int (nomark _)) (pss_one (ps_ret pe_non)) pss_nil)
      (pss_one (ps_ret (pv 1)))))))), ?_⟩
    refine ⟨_, rfl, a, _, rfl, .inl hS, _, _, rfl, rfl, _, rfl, ?_⟩
    rw [cV_len]
    by_cases h1 : (t.length : Int) < 1
    · rw [decide_eq_true h1]
      rw [if_pos (Or.inl (by omega))] at k
      exact k _ _ (Same.refl H) rfl
    rw [decide_eq_false h1]
    refine iteF ⟨_, rfl, a, _, rfl, .inl hS, _, _, rfl, rfl, _, rfl, ?_⟩
    rw [cV_len]
    by_cases h2 : (63 : Int) < (t.length : Int)
    · rw [decide_eq_true h2]
      rw [if_pos (Or.inr (by omega))] at k
      exact k _ _ (Same.refl H) rfl
    rw [decide_eq_false h2]
    rw [if_neg (by omega)] at k
    refine iteF ⟨Nat.zero_le _, fun ip hip => ?_⟩
    have s0 : Same H (upd H ip (.lst [])) := Same.new hip
    refine ⟨_, rfl, a, t, rfl, s0.seq hS, hlen, fun H1 pp as s1 hpp hA => ?_⟩
    have s01 : Same H H1 := s0.trans s1
    have hi1 : H1 ip = some (.lst []) := s1 _ _ upd_same
    have alen : as.length ≤ 200 := by
      rw [hA.len]
      have := split_len t
      omega
    refine ⟨pp, rfl, ⟨_, SqL.of hpp⟩, for_list (K := K) (a := pp) (xs := as.map V.ref)
      (fun i σ H' => ∃ (v1 v2 : Option V) (bs : List Addr) (l : List Md03.Item), σ = [some (.ref a), some (.ref ip), some (.int ((l.filter Md03.takes).length : Int)), v1, v2] ∧ All2 (fun q x => readItem q = some x) ((Md03.split t).take i) l ∧
        (∀ b o, H1 b = some o → b ≠ ip → H' b = some o) ∧ H' ip = some (.lst (bs.map V.ref)) ∧ All2 (fun b x => ItemAt CI H' b x ∧ b ≠ ip) bs l)
      ⟨none, none, [], [], rfl, .nil, fun b o e _ => e, hi1, .nil⟩ ?_ ?_ ?_⟩
    · rintro i σ H' _ ⟨v1, v2, bs, l, rfl, _, q1, _⟩
      have n : pp ≠ ip := fun e => by
        rw [e, hi1] at hpp
        have e2 : ([] : List V) = as.map V.ref := HO.lst.inj (Option.some.inj hpp)
        have e3 : as = [] := by simpa using e2.symm
        obtain ⟨x, y, e4⟩ := split_ne t
        rw [e3, e4] at hA
        cases hA
      exact SqL.of (q1 _ _ hpp n)
    · rintro i x σ H' hx ⟨v1, v2, bs, l, rfl, ha, q1, q2, q3⟩
      obtain ⟨b, hb, rfl⟩ := refs_get hx
      obtain ⟨piece, hp, hbp, hbn⟩ := hA.get hb
      have nb : b ≠ ip := fun e => by
        rw [e, upd_same] at hbn
        cases hbn
      have sH : Same H H' := fun c o e => q1 c o (s01 c o e) (ne_of_none e hip)
      refine ⟨_, rfl, b, piece, rfl, SqL.of (q1 _ _ hbp nb), fun H2 v s2 r2 => ?_⟩
      refine ⟨_, rfl, rfl, _, rfl, ?_⟩
      cases er : readItem piece with
      | none =>
        rw [er] at r2
        have e : v = .non := r2
        subst e
        refine iteT ?_
        have em : (Md03.split t).mapM readItem = none := by
          cases em : (Md03.split t).mapM readItem with
          | none => rfl
          | some r =>
            obtain ⟨z, _, hz⟩ := (mapM_some.mp em).get hp
            rw [er] at hz
            cases hz
        rw [em] at k
        exact k _ _ (sH.trans s2) rfl
      | some y =>
        rw [er] at r2
        obtain ⟨p, rfl, dx, hpd⟩ := r2
        refine iteF ?_
        have q2' := s2 _ _ q2
        have lb : l.length ≤ 200 := by
          rw [← ha.len, List.length_take]
          have := split_len t
          omega
        have fin : ∀ (σ5 : L2.St), σ5 = [some (.ref a), some (.ref ip), some (.int (((l ++ [y]).filter Md03.takes).length : Int)), some (.ref b), some (.ref p)] → ∀ (R : L2.St → Hp → Prop), (∀ σ' H'', (∃ (v1 v2 : Option V) (bs : List Addr) (l : List Md03.Item), σ' = [some (.ref a), some (.ref ip), some (.int ((l.filter Md03.takes).length : Int)), v1, v2] ∧ All2 (fun q x => readItem q = some x) ((Md03.split t).take (i + 1)) l ∧
            (∀ b o, H1 b = some o → b ≠ ip → H'' b = some o) ∧ H'' ip = some (.lst (bs.map V.ref)) ∧ All2 (fun b x => ItemAt CI H'' b x ∧ b ≠ ip) bs l) → R σ' H'') → R σ5 (upd H2 ip (.lst (bs.map V.ref ++ [.ref p]))) := by
          rintro σ5 rfl R hR
          have np : p ≠ ip := ne_of hpd q2' (by intro q; cases q)
          refine hR _ _ ⟨some (.ref b), some (.ref p), bs ++ [p], l ++ [y], rfl, ?_, ?_, ?_, ?_⟩
          · rw [take_more hp]
            exact ha.snoc er
          · intro c o e hc
            rw [upd_ne hc]
            exact s2 _ _ (q1 c o e hc)
          · rw [upd_same, List.map_append]
            rfl
          · refine All2.snoc (q3.mono fun c z _ ⟨⟨d, e⟩, hc⟩ => ⟨⟨d, by rw [upd_ne hc]; exact s2 _ _ e⟩, hc⟩) ⟨⟨dx, by rw [upd_ne np]; exact hpd⟩, np⟩
        refine ⟨_, rfl, p, CI, dx, _, _, rfl, hpd, T.clI, T.nL, itF_letter _, rfl, _, rfl, ?_⟩
        rw [letter_z]
        by_cases hz : y.1 = Md03.Kind.z
        · have et : Md03.takes y = false := by
            unfold Md03.takes
            rw [hz]
            rfl
          have ez : (!(y.1 == Md03.Kind.z)) = false := et
          rw [ez]
          refine iteF ⟨_, rfl, .inl ⟨rfl, _, SqL.of q2'⟩, _, rfl, ip, _, _, rfl, rfl, q2', (by rw [List.length_map, q3.len]; exact Nat.lt_of_le_of_lt lb (by decide)), ?_⟩
          refine fin _ ?_ _ fun σ' H'' z => z
          rw [takes_snoc, et]
          rfl
        · have et : Md03.takes y = true := by
            unfold Md03.takes
            cases e : y.1 with
            | z => exact absurd e hz
            | u => rfl
            | i => rfl
          have ez : (!(y.1 == Md03.Kind.z)) = true := et
          rw [ez]
          refine iteT ⟨_, rfl, _, _, rfl, rfl, ?_⟩
          refine ⟨_, rfl, .inl ⟨rfl, _, SqL.of q2'⟩, _, rfl, ip, _, _, rfl, rfl, q2', (by rw [List.length_map, q3.len]; exact Nat.lt_of_le_of_lt lb (by decide)), ?_⟩
          refine fin _ ?_ _ fun σ' H'' z => z
          rw [takes_snoc, if_pos et]
          rfl
    · rintro σ H' ⟨v1, v2, bs, l, rfl, ha, q1, q2, q3⟩
      rw [List.length_map, hA.len, List.take_length] at ha
      rw [mapM_some.mpr ha] at k
      have sH : Same H H' := fun c o e => q1 c o (s01 c o e) (ne_of_none e hip)
      refine ⟨_, rfl, _, _, rfl, rfl, _, rfl, ?_⟩
      by_cases h6 : (6 : Int) < ((l.filter Md03.takes).length : Int)
      · rw [decide_eq_true h6]
        refine iteT ?_
        have k := k
        dsimp only at k
        rw [if_pos (by omega)] at k
        exact k _ _ sH rfl
      · rw [decide_eq_false h6]
        refine iteF ⟨_, rfl, ?_⟩
        dsimp only at k
        rw [if_neg (by omega)] at k
        exact k _ _ sH ⟨ip, bs, rfl, q2, q3.mono (fun _ _ _ z => z.1), hip⟩
theorem size_sum (l : List Md03.Item) : (l.map fun x => (x.2 : Int)).sum = (Md03.size l : Int) := by
  induction l with
  | nil => rfl
  | cons x r ih =>
    rw [List.map_cons, List.sum_cons, ih]
    show _ = ((x.2 + Md03.size r : Nat) : Int)
    rw [Int.natCast_add]
/-- format_width -/
def spSize (CI : Addr) : Sp := fun vs H Q _ => ∃ (p : Addr) (as : List Addr) (l : List Md03.Item), vs = [.ref p] ∧ H p = some (.lst (as.map V.ref)) ∧ All2 (ItemAt CI H) as l ∧ l.length ≤ 200 ∧ ∀ H', Same H H' → Q (.int (Md03.size l : Int)) H'
theorem sc_format_width : FnScope ["items", "item"] ["items"] (defScope (top 6)) := ⟨rfl, rfl, rfl, by decide +kernel, rfl, by decide +kernel, by decide +kernel⟩
theorem ok_size (D : Df K mg "format_width" (top 6)) (T : Txt K mg C CI) : HasD P w K mg base "format_width" 1 ["items"] (spSize CI) := by
  obtain ⟨f, fd, F, g⟩ := D.ex
  refine ⟨f, fd, g, F.kp, F.binds (fun _ _ _ _ _ _ us hl => match us, hl with | [_], _ => rfl), F.ok sc_format_width (fun vs H Q E h => ?_) (fun cdv A outer s0 H vs Q E hr h => ?_)⟩
  · obtain ⟨p, as, l, rfl, _⟩ := h
    rfl
  · obtain ⟨p, as, l, rfl, hp, hA, hl, k⟩ := h
    refine ⟨_, (pss_one (ps_ret (pe_callB (cr_sum rfl) (by rfl) T.sum (by decide +kernel) (pa_cons (pe_lc (te := tFld K (tVar 1) "width") (own := [("item", 1)]) (g := gName 1) (tt := tYes) rfl sc_format_width.nd (pi_list (pv 0)) (blkOk_by (own := [("item", 1)]) (N := ["items", "item"]) (sc := defScope (top 6)) (by decide +kernel)) (fun _ _ _ _ _ => pg_name (i := 1) sc_format_width.nd rfl (Or.inl rfl)) (fun _ _ _ _ _ => pts_nil) (fun _ _ _ _ _ => (pe_fld (pv 1) rfl))) pa_nil)))), ?_⟩
    refine ⟨_, rfl, p, rfl, ⟨_, SqL.of hp⟩, fun D hD => lc_list (K := K) (a := p) (xs := as.map V.ref) (fun i H' => H' = upd H D (.lst (((l.take i).map fun x => (x.2 : Int)).map V.int))) rfl ?_ ?_ ?_⟩
    · rintro i H' _ rfl
      exact SqL.of (Same.new hD _ _ hp)
    · rintro i x H' hx rfl
      obtain ⟨b, hb, rfl⟩ := refs_get hx
      obtain ⟨y, hy, dx, hi⟩ := hA.get hb
      have nb : b ≠ D := ne_of_none hi hD
      refine ⟨rfl, _, rfl, b, CI, dx, _, _, rfl, (by rw [upd_ne nb]; exact hi), T.clI, T.nW, itF_width _, _, upd_same, ?_, ?_⟩
      · rw [List.length_map, List.length_map, List.length_take]
        exact Nat.lt_of_le_of_lt (Nat.le_trans (Nat.min_le_right _ _) hl) (by decide)
      · rw [upd_upd, take_more hy, List.map_append, List.map_append]
        rfl
    · rintro H' rfl
      rw [List.length_map, hA.len, List.take_length]
      refine ⟨D, _, rfl, SqL.of upd_same, ?_⟩
      rw [size_sum]
      exact k _ (Same.new hD)
end
end Pb

/-! ## PbW4 -/
namespace Pb
open PySem L2
section
variable {P : Program} {w : World} {K : PySem.W.Frag} {mg : Str → Option Value} {base : Heap} {C CI : Addr}
theorem cg {a b : Int} (e : a = b) : some (some (V.int a)) = some (some (V.int b)) := by rw [e]
theorem fin_int {Q : VK} {H : Hp} {a b : Int} (k : Q (.int b) H) (e : a = b) : Q (.int a) H := by
  rw [e]
  exact k
theorem nat_is (n k : Nat) : decide (V.int (n : Int) = V.int (k : Int)) = decide (n = k) := by
  rw [decide_eq_decide]
  constructor
  · intro e
    have e1 : (n : Int) = k := V.int.inj e
    omega
  · intro e
    rw [e]
/-- a number, or None -/
def oN : Option Nat → V
  | some i => .int (i : Int)
  | none => .non
/-- single_of -/
def spSingle : Sp := fun vs H Q _ => ∃ (d : Nat), vs = [.int (d : Int)] ∧ d < 2 ^ 64 ∧ Q (oN (Md03.single d)) H
theorem sc_single_of : FnScope ["double", "sign", "exponent", "fraction", "power", "whole", "shift"] ["double"] (defScope (top 17)) := ⟨rfl, rfl, rfl, by decide +kernel, rfl, by decide +kernel, by decide +kernel⟩
theorem ok_single (D : Df K mg "single_of" (top 17)) : HasD P w K mg base "single_of" 1 ["double"] spSingle := by
  obtain ⟨f, fd, F, g⟩ := D.ex
  refine ⟨f, fd, g, F.kp, F.binds (fun _ _ _ _ _ _ us hl => match us, hl with | [_], _ => rfl), F.ok sc_single_of (fun vs H Q E h => ?_) (fun cdv A outer s0 H vs Q E hr h => ?_)⟩
  · obtain ⟨d, rfl, _⟩ := h
    rfl
  · obtain ⟨d, rfl, hd, k⟩ := h
    refine ⟨_, (pss_cons (ps_set (i := 1) sc_single_of.nd rfl (Or.inl rfl) (pe_op op_shl (pe_op op_shr (pv 0) pe_int) pe_int))
      (pss_cons (ps_set (i := 2) sc_single_of.nd rfl (Or.inl rfl) (pe_op op_mod (pe_op op_shr (pv 0) pe_int) (pe_op op_shl pe_int pe_int)))
      (pss_cons (ps_set (i := 3) sc_single_of.nd rfl (Or.inl rfl) (pe_op op_mod (pv 0) (pe_op op_shl pe_int pe_int)))
      (pss_cons (ps_if (pt_cmpR op_eq (pv 2) pe_int (nomark _)) (pss_cons (ps_if (pt_cmpR op_eq (pv 3) pe_int (nomark _)) (pss_one (ps_ret (pe_op op_add (pv 1) (pe_op op_shl pe_int pe_int)))) pss_nil)
      (pss_one (ps_ret pe_non))) pss_nil)
      (pss_cons (ps_if (pt_cmpR op_eq (pv 2) pe_int (nomark _)) (pss_cons (ps_if (pt_cmpR op_eq (pv 3) pe_int (nomark _)) (pss_one (ps_ret (pv 1))) pss_nil)
      (pss_one (ps_ret pe_non))) pss_nil)
      (pss_cons (ps_set (i := 4) sc_single_of.nd rfl (Or.inl rfl) (pe_op op_sub (pv 2) pe_int))
      (pss_cons (ps_if (PW.pt (pw_or (pt_cmpR op_gt (pv 4) pe_int (nomark _)) (pw_or1 (pt_cmpR op_lt (pv 4) (pe_un un_neg pe_int) (nomark _))))) (pss_one (ps_ret pe_non)) pss_nil)
      (pss_cons (ps_if (pt_cmpR op_ge (pv 4) (pe_un un_neg pe_int) (nomark _)) (pss_cons (ps_if (pt_cmpR op_ne (pe_op op_mod (pv 3) (pe_op op_shl pe_int pe_int)) pe_int (nomark _)) (pss_one (ps_ret pe_non)) pss_nil)
      (pss_one (ps_ret (pe_op op_add (pe_op op_add (pv 1) (pe_op op_shl (pe_op op_add (pv 4) pe_int) pe_int)) (pe_op op_shr (pv 3) pe_int))))) pss_nil)
      (pss_cons (ps_set (i := 5) sc_single_of.nd rfl (Or.inl rfl) (pe_op op_add (pe_op op_shl pe_int pe_int) (pv 3)))
      (pss_cons (ps_set (i := 6) sc_single_of.nd rfl (Or.inl rfl) (pe_op op_sub (pe_un un_neg pe_int) (pv 4)))
      (pss_cons (ps_if (pt_cmpR op_ne (pe_op op_mod (pv 5) (pe_op op_shl pe_int (pv 6))) pe_int (nomark _)) (pss_one (ps_ret pe_non)) pss_nil)
      (pss_one (ps_ret (pe_op op_add (pv 1) (pe_op op_shr (pv 5) (pv 6)))))))))))))))), ?_⟩
    unfold Md03.single at k
    dsimp only at k
    have e1 : (d : Int) / 2 ^ (63 : Int).toNat * 2 ^ (31 : Int).toNat = ((d / 2 ^ 63 * 2 ^ 31 : Nat) : Int) := by
      rw [Int.natCast_mul, Int.natCast_ediv]
      rfl
    have e2 : (d : Int) / 2 ^ (52 : Int).toNat % (1 * 2 ^ (11 : Int).toNat) = ((d / 2 ^ 52 % 2 ^ 11 : Nat) : Int) := by
      rw [Int.natCast_emod, Int.natCast_ediv]
      rfl
    have e3 : (d : Int) % (1 * 2 ^ (52 : Int).toNat) = ((d % 2 ^ 52 : Nat) : Int) := by
      rw [Int.natCast_emod]
      rfl
    have he : d / 2 ^ 52 % 2 ^ 11 < 2 ^ 11 := Nat.mod_lt _ (by decide)
    have hm : d % 2 ^ 52 < 2 ^ 52 := Nat.mod_lt _ (by decide)
    have hs : d / 2 ^ 63 < 2 ^ 64 := by omega
    generalize hsd : d / 2 ^ 63 = sd at hs e1 k
    generalize d / 2 ^ 52 % 2 ^ 11 = e at he e2 k
    generalize d % 2 ^ 52 = m at hm e3 k
    refine ⟨_, rfl, _, _, rfl, rfl, (by show (0 : Int) ≤ 63; decide), _, _, rfl, rfl, ⟨by decide, by decide, ?_⟩, ?_⟩
    · have e0 : (d : Int) / 2 ^ (63 : Int).toNat = (sd : Int) := by
        rw [← hsd, Int.natCast_ediv]
        rfl
      show ((d : Int) / 2 ^ (63 : Int).toNat).natAbs < 2 ^ 64
      rw [e0]
      exact hs
    refine ⟨_, rfl, _, _, rfl, rfl, (by show (0 : Int) ≤ 52; decide), _, _, rfl, rfl, ⟨by decide, by decide, by decide⟩, _, _, rfl, rfl, (by show (0 : Int) < 1 * 2 ^ (11 : Int).toNat; decide), ?_⟩
    refine ⟨_, rfl, _, _, rfl, rfl, ⟨by decide, by decide, by decide⟩, _, _, rfl, rfl, (by show (0 : Int) < 1 * 2 ^ (52 : Int).toNat; decide), ?_⟩
    refine ⟨_, cg e2, rfl, _, rfl, ?_⟩
    rw [show decide (V.int (e : Int) = V.int 2047) = decide (e = 2047) from nat_is e 2047]
    by_cases h1 : e = 2047
    · rw [decide_eq_true h1]
      rw [if_pos h1] at k
      refine iteT ⟨_, cg e3, rfl, _, rfl, ?_⟩
      rw [show decide (V.int (m : Int) = V.int 0) = decide (m = 0) from nat_is m 0]
      by_cases h2 : m = 0
      · rw [decide_eq_true h2]
        rw [if_pos h2] at k
        refine iteT ⟨_, cg e1, _, _, rfl, rfl, ⟨by decide, by decide, by decide⟩, _, _, rfl, rfl, ?_⟩
        exact fin_int (Q := Q) k (by rw [Int.natCast_add]; rfl)
      · rw [decide_eq_false h2]
        rw [if_neg h2] at k
        exact iteF k
    rw [decide_eq_false h1]
    rw [if_neg h1] at k
    refine iteF ⟨_, cg e2, rfl, _, rfl, ?_⟩
    rw [show decide (V.int (e : Int) = V.int 0) = decide (e = 0) from nat_is e 0]
    by_cases h2 : e = 0
    · rw [decide_eq_true h2]
      rw [if_pos h2] at k
      refine iteT ⟨_, cg e3, rfl, _, rfl, ?_⟩
      rw [show decide (V.int (m : Int) = V.int 0) = decide (m = 0) from nat_is m 0]
      by_cases h3 : m = 0
      · rw [decide_eq_true h3]
        rw [if_pos h3] at k
        exact iteT ⟨_, cg e1, k⟩
      · rw [decide_eq_false h3]
        rw [if_neg h3] at k
        exact iteF k
    rw [decide_eq_false h2]
    rw [if_neg h2] at k
    refine iteF ⟨_, cg e2, _, _, rfl, rfl, ?_⟩
    refine ⟨_, rfl, _, _, rfl, rfl, _, rfl, ?_⟩
    by_cases h3 : (127 : Int) < (e : Int) - 1023
    · rw [decide_eq_true h3]
      rw [if_neg (by omega), if_neg (by omega)] at k
      exact k
    rw [decide_eq_false h3]
    refine iteF ⟨_, rfl, _, rfl, _, _, rfl, rfl, _, rfl, ?_⟩
    by_cases h4 : (e : Int) - 1023 < -149
    · rw [decide_eq_true h4]
      rw [if_neg (by omega), if_neg (by omega)] at k
      exact k
    rw [decide_eq_false h4]
    refine iteF ⟨_, rfl, _, rfl, _, _, rfl, rfl, _, rfl, ?_⟩
    by_cases h5 : (-126 : Int) ≤ (e : Int) - 1023
    · rw [decide_eq_true h5]
      rw [if_pos (by omega)] at k
      refine iteT ⟨_, cg e3, _, _, rfl, rfl, ⟨by decide, by decide, by decide⟩, _, _, rfl, rfl, (by show (0 : Int) < 1 * 2 ^ (29 : Int).toNat; decide), rfl, _, rfl, ?_⟩
      have e4 : (!decide (V.int ((m : Int) % (1 * 2 ^ (29 : Int).toNat)) = V.int 0)) = !decide (m % 2 ^ 29 = 0) := by
        have q := nat_is (m % 2 ^ 29) 0
        rw [Int.natCast_emod] at q
        exact congrArg not q
      rw [e4]
      by_cases h6 : m % 2 ^ 29 = 0
      · rw [decide_eq_true h6]
        rw [if_pos h6] at k
        refine iteF ⟨_, cg e1, _, rfl, _, _, rfl, rfl, _, _, rfl, rfl, ⟨by decide, by decide, ?_⟩, _, _, rfl, rfl, _, cg e3, _, _, rfl, rfl, (by show (0 : Int) ≤ 29; decide), _, _, rfl, rfl, ?_⟩
        · show ((e : Int) - 1023 + 127).natAbs < 2 ^ 64
          omega
        · refine fin_int (Q := Q) k ?_
          have e5 : (e : Int) - 1023 + 127 = ((e - 896 : Nat) : Int) := by omega
          rw [e5, Int.natCast_add, Int.natCast_add, Int.natCast_mul (e - 896), Int.natCast_ediv]
          rfl
      · rw [decide_eq_false h6]
        rw [if_neg h6] at k
        exact iteT k
    rw [decide_eq_false h5]
    rw [if_neg (by omega), if_pos (by omega)] at k
    have e6 : (-97 : Int) - ((e : Int) - 1023) = ((926 - e : Nat) : Int) := by omega
    have e7 : (1 : Int) * 2 ^ (52 : Int).toNat + (m : Int) = ((2 ^ 52 + m : Nat) : Int) := by
      rw [Int.natCast_add]
      rfl
    refine iteF ⟨_, _, rfl, rfl, ⟨by decide, by decide, by decide⟩, _, cg e3, _, _, rfl, rfl, ?_⟩
    refine ⟨_, rfl, _, rfl, _, _, rfl, rfl, ?_⟩
    have hj : ((926 - e : Nat) : Int).toNat = 926 - e := Int.toNat_natCast _
    refine ⟨_, cg e7, _, cg e6, _, _, rfl, rfl, ⟨Int.natCast_nonneg _, by show ((926 - e : Nat) : Int) ≤ 1000000; omega, by decide⟩, _, _, rfl, rfl, ?_, rfl, _, rfl, ?_⟩
    · show (0 : Int) < 1 * 2 ^ ((926 - e : Nat) : Int).toNat
      rw [Int.one_mul]
      exact pow_pos _
    have e8 : (!decide (V.int (((2 ^ 52 + m : Nat) : Int) % (1 * 2 ^ ((926 - e : Nat) : Int).toNat)) = V.int 0)) = !decide ((2 ^ 52 + m) % 2 ^ (926 - e) = 0) := by
      have q := nat_is ((2 ^ 52 + m) % 2 ^ (926 - e)) 0
      rw [Int.natCast_emod, pow_cast] at q
      rw [hj, Int.one_mul]
      exact congrArg not q
    rw [e8]
    by_cases h6 : (2 ^ 52 + m) % 2 ^ (926 - e) = 0
    · rw [decide_eq_true h6]
      rw [if_pos h6] at k
      refine iteF ⟨_, cg e1, _, cg e7, _, cg e6, _, _, rfl, rfl, Int.natCast_nonneg _, _, _, rfl, rfl, ?_⟩
      refine fin_int (Q := Q) k ?_
      rw [hj, Int.natCast_add (sd * 2 ^ 31), Int.natCast_ediv, pow_cast]
    · rw [decide_eq_false h6]
      rw [if_neg h6] at k
      exact iteT k
/-- double_of -/
def spDouble : Sp := fun vs H Q _ => ∃ (d : Nat), vs = [.int (d : Int)] ∧ d < 2 ^ 32 ∧ Q (oN (Md03.double d)) H
theorem sc_double_of : FnScope ["single", "sign", "exponent", "fraction", "size", "power"] ["single"] (defScope (top 18)) := ⟨rfl, rfl, rfl, by decide +kernel, rfl, by decide +kernel, by decide +kernel⟩
theorem ok_double (D : Df K mg "double_of" (top 18)) : HasD P w K mg base "double_of" 1 ["single"] spDouble := by
  obtain ⟨f, fd, F, g⟩ := D.ex
  refine ⟨f, fd, g, F.kp, F.binds (fun _ _ _ _ _ _ us hl => match us, hl with | [_], _ => rfl), F.ok sc_double_of (fun vs H Q E h => ?_) (fun cdv A outer s0 H vs Q E hr h => ?_)⟩
  · obtain ⟨d, rfl, _⟩ := h
    rfl
  · obtain ⟨d, rfl, hd, k⟩ := h
    refine ⟨_, (pss_cons (ps_set (i := 1) sc_double_of.nd rfl (Or.inl rfl) (pe_op op_shl (pe_op op_shr (pv 0) pe_int) pe_int))
      (pss_cons (ps_set (i := 2) sc_double_of.nd rfl (Or.inl rfl) (pe_op op_mod (pe_op op_shr (pv 0) pe_int) (pe_op op_shl pe_int pe_int)))
      (pss_cons (ps_set (i := 3) sc_double_of.nd rfl (Or.inl rfl) (pe_op op_mod (pv 0) (pe_op op_shl pe_int pe_int)))
      (pss_cons (ps_if (pt_cmpR op_eq (pv 2) pe_int (nomark _)) (pss_cons (ps_if (pt_cmpR op_eq (pv 3) pe_int (nomark _)) (pss_one (ps_ret (pe_op op_add (pv 1) (pe_op op_shl pe_int pe_int)))) pss_nil)
      (pss_one (ps_ret pe_non))) pss_nil)
      (pss_cons (ps_if (pt_cmpR op_gt (pv 2) pe_int (nomark _)) (pss_one (ps_ret (pe_op op_add (pe_op op_add (pv 1) (pe_op op_shl (pe_op op_add (pv 2) pe_int) pe_int)) (pe_op op_shl (pv 3) pe_int)))) pss_nil)
      (pss_cons (ps_if (pt_cmpR op_eq (pv 3) pe_int (nomark _)) (pss_one (ps_ret (pv 1))) pss_nil)
      (pss_cons (ps_set (i := 4) sc_double_of.nd rfl (Or.inl rfl) (pe_bits (pv 3)))
      (pss_cons (ps_set (i := 5) sc_double_of.nd rfl (Or.inl rfl) (pe_op op_sub (pv 4) pe_int))
      (pss_one (ps_ret (pe_op op_sub (pe_op op_add (pe_op op_add (pv 1) (pe_op op_shl (pe_op op_add (pv 5) pe_int) pe_int)) (pe_op op_shl (pv 3) (pe_op op_sub pe_int (pv 4)))) (pe_op op_shl pe_int pe_int)))))))))))), ?_⟩
    unfold Md03.double at k
    dsimp only at k
    have e1 : (d : Int) / 2 ^ (31 : Int).toNat * 2 ^ (63 : Int).toNat = ((d / 2 ^ 31 * 2 ^ 63 : Nat) : Int) := by
      rw [Int.natCast_mul, Int.natCast_ediv]
      rfl
    have e2 : (d : Int) / 2 ^ (23 : Int).toNat % (1 * 2 ^ (8 : Int).toNat) = ((d / 2 ^ 23 % 2 ^ 8 : Nat) : Int) := by
      rw [Int.natCast_emod, Int.natCast_ediv]
      rfl
    have e3 : (d : Int) % (1 * 2 ^ (23 : Int).toNat) = ((d % 2 ^ 23 : Nat) : Int) := by
      rw [Int.natCast_emod]
      rfl
    have he : d / 2 ^ 23 % 2 ^ 8 < 2 ^ 8 := Nat.mod_lt _ (by decide)
    have hm : d % 2 ^ 23 < 2 ^ 23 := Nat.mod_lt _ (by decide)
    have hs : d / 2 ^ 31 < 2 ^ 64 := by omega
    generalize hsd : d / 2 ^ 31 = sd at hs e1 k
    generalize d / 2 ^ 23 % 2 ^ 8 = e at he e2 k
    generalize d % 2 ^ 23 = m at hm e3 k
    refine ⟨_, rfl, _, _, rfl, rfl, (by show (0 : Int) ≤ 31; decide), _, _, rfl, rfl, ⟨by decide, by decide, ?_⟩, ?_⟩
    · have e0 : (d : Int) / 2 ^ (31 : Int).toNat = (sd : Int) := by
        rw [← hsd, Int.natCast_ediv]
        rfl
      show ((d : Int) / 2 ^ (31 : Int).toNat).natAbs < 2 ^ 64
      rw [e0]
      exact hs
    refine ⟨_, rfl, _, _, rfl, rfl, (by show (0 : Int) ≤ 23; decide), _, _, rfl, rfl, ⟨by decide, by decide, by decide⟩, _, _, rfl, rfl, (by show (0 : Int) < 1 * 2 ^ (8 : Int).toNat; decide), ?_⟩
    refine ⟨_, rfl, _, _, rfl, rfl, ⟨by decide, by decide, by decide⟩, _, _, rfl, rfl, (by show (0 : Int) < 1 * 2 ^ (23 : Int).toNat; decide), ?_⟩
    refine ⟨_, cg e2, rfl, _, rfl, ?_⟩
    rw [show decide (V.int (e : Int) = V.int 255) = decide (e = 255) from nat_is e 255]
    by_cases h1 : e = 255
    · rw [decide_eq_true h1]
      rw [if_pos h1] at k
      refine iteT ⟨_, cg e3, rfl, _, rfl, ?_⟩
      rw [show decide (V.int (m : Int) = V.int 0) = decide (m = 0) from nat_is m 0]
      by_cases h2 : m = 0
      · rw [decide_eq_true h2]
        rw [if_pos h2] at k
        refine iteT ⟨_, cg e1, _, _, rfl, rfl, ⟨by decide, by decide, by decide⟩, _, _, rfl, rfl, ?_⟩
        exact fin_int (Q := Q) k (by rw [Int.natCast_add]; rfl)
      · rw [decide_eq_false h2]
        rw [if_neg h2] at k
        exact iteF k
    rw [decide_eq_false h1]
    rw [if_neg h1] at k
    refine iteF ⟨_, cg e2, _, _, rfl, rfl, _, rfl, ?_⟩
    by_cases h2 : (0 : Int) < (e : Int)
    · rw [decide_eq_true h2]
      rw [if_neg (by omega)] at k
      refine iteT ⟨_, cg e1, _, cg e2, _, _, rfl, rfl, _, _, rfl, rfl, ⟨by decide, by decide, ?_⟩, _, _, rfl, rfl, _, cg e3, _, _, rfl, rfl, ⟨by decide, by decide, ?_⟩, _, _, rfl, rfl, ?_⟩
      · show ((e : Int) + 896).natAbs < 2 ^ 64
        omega
      · show ((m : Int)).natAbs < 2 ^ 64
        omega
      · refine fin_int (Q := Q) k ?_
        rw [Int.natCast_add, Int.natCast_add, Int.natCast_mul (e + 896), Int.natCast_add, Int.natCast_mul m]
        rfl
    rw [decide_eq_false h2]
    rw [if_pos (show e = 0 by omega)] at k
    refine iteF ⟨_, cg e3, rfl, _, rfl, ?_⟩
    rw [show decide (V.int (m : Int) = V.int 0) = decide (m = 0) from nat_is m 0]
    by_cases h3 : m = 0
    · rw [decide_eq_true h3]
      rw [if_pos h3] at k
      exact iteT ⟨_, cg e1, k⟩
    rw [decide_eq_false h3]
    rw [if_neg h3] at k
    refine iteF ⟨_, cg e3, _, rfl, ?_⟩
    have hb : Builtin.Int.intBits (m : Int) = Nat.log2 m + 1 := by
      unfold Builtin.Int.intBits
      rw [if_neg (by simpa using h3)]
      rfl
    have hl : Nat.log2 m < 23 := (Nat.log2_lt h3).mpr hm
    have hle : 2 ^ Nat.log2 m ≤ m := Nat.log2_self_le h3
    have e4 : ((Builtin.Int.intBits (m : Int) : Nat) : Int) = ((Nat.log2 m + 1 : Nat) : Int) := by rw [hb]
    generalize Nat.log2 m = lg at hl hle e4 k
    refine ⟨_, cg e4, _, _, rfl, rfl, ?_⟩
    refine ⟨_, cg e1, _, rfl, _, _, rfl, rfl, _, _, rfl, rfl, ⟨by decide, by decide, ?_⟩, _, _, rfl, rfl, _, cg e3, _, cg e4, _, _, rfl, rfl, _, _, rfl, rfl, ⟨?_, ?_, ?_⟩, _, _, rfl, rfl, _, _, rfl, rfl, ⟨by decide, by decide, by decide⟩, _, _, rfl, rfl, ?_⟩
    · show (((lg + 1 : Nat) : Int) - 150 + 1023).natAbs < 2 ^ 64
      omega
    · show (0 : Int) ≤ 53 - ((lg + 1 : Nat) : Int)
      omega
    · show (53 : Int) - ((lg + 1 : Nat) : Int) ≤ 1000000
      omega
    · show ((m : Int)).natAbs < 2 ^ 64
      omega
    · refine fin_int (Q := Q) k ?_
      have e5 : ((lg + 1 : Nat) : Int) - 150 + 1023 = ((874 + lg : Nat) : Int) := by omega
      have e6 : ((53 : Int) - ((lg + 1 : Nat) : Int)).toNat = 52 - lg := by omega
      have e7 : (2 : Nat) ^ lg * 2 ^ (52 - lg) = 2 ^ 52 := by
        rw [← Nat.pow_add]
        congr 1
        omega
      have e8 : ((m - 2 ^ lg : Nat) : Int) * 2 ^ (52 - lg) = (m : Int) * 2 ^ (52 - lg) - 2 ^ 52 := by
        rw [Int.natCast_sub hle, Int.sub_mul, ← pow_cast (52 - lg), ← Int.natCast_mul (2 ^ lg), e7]
        rfl
      rw [e5, e6, Int.natCast_add (sd * 2 ^ 63 + (874 + lg) * 2 ^ 52), Int.natCast_add (sd * 2 ^ 63), Int.natCast_mul (874 + lg), Int.natCast_mul (m - 2 ^ lg), pow_cast (52 - lg), e8]
      show _ + ((874 + lg : Nat) : Int) * 2 ^ 52 + _ - 1 * 2 ^ 52 = _ + ((874 + lg : Nat) : Int) * 2 ^ 52 + _
      omega
end
end Pb

/-! ## PbRev -/
namespace Pb
open PySem PySem.Spec PyProof.Rows L2
/-! ### list(reversed(xs)), xs a list: a new list, its items from the end -/
section
variable {prog : Program} {w : World} {A : Around} {E : Value → Shared → Prop} {s : Shared} {R : Result → Shared → Prop}
/-- the new list at S is filled from the iterator at it, which walks the list at l -/
theorem fill_back {S it l : Addr} {res : Value} {c₀ : Nat} {zs : Array Value} (hh : A.handled = none) (hS : s.heap.get? S = some { cls := .type "list", data := .seq #[] c₀ }) (hit : s.heap.IsRevIter it l ((zs.size : Int) - 1)) (hl : s.heap.IsList l zs)
    (hli : l ≠ it) (hSi : S ≠ it) (hSl : S ≠ l) (hz : zs.size ≤ sizeLine)
    (hR : ∀ (h' : Heap) (tk : Nat) (acc : Array Value) (c' : Nat), (∀ b o, b ≠ it → b ≠ S → s.heap.get? b = some o → h'.get? b = some o) → h'.get? S = some { cls := .type "list", dict := none, data := .seq acc c', slots := #[] } →
      ItemsOf (fun i v => zs[zs.size - 1 - i]? = some v) acc zs.size → R (.ok (.ret res)) { s with heap := h', toks := tk }) :
    wpAny (model prog w) A.in1 (Builtin.List.listExtendWith (.ref S) (.ref it) res)
      (fun fin s' => match fin with | .done f => R (.ok f) s' | .again c' => c'.quiet = true ∧ codeAny (model prog w) A c' R s') (fun e s' => R (.error e) s') s := by
  have W := (Walks.listRev (prog := prog) (w := w) (A := A.in1) hh it l hli zs).toS
  have hT : s.TypeIs (.ref it) "list_reverseiterator" := hit.typeIs
  have out : S ∉ [it, l] := by
    intro hm
    rcases List.mem_cons.mp hm with e | hm
    · exact hSi e
    · exact hSl (List.mem_singleton.mp hm)
  unfold Builtin.List.listExtendWith
  refine wpAny_bind (wpAny_typeOf hT ?_)
  have d1 : Builtin.List.listSameRef (.ref S) (.ref it) = false := by simp [Builtin.List.listSameRef, hSi]
  rw [d1, if_neg (by decide)]
  refine wpAny_bind (wpAny_pyIter_revIter hit (wpAny_bind (wpAny_holding ?_)))
  unfold Builtin.List.listLengthHint
  refine wpAny_bind (wpAny_specialOf hT RT.nolen_lri ?_)
  show wpAny _ _ (specialOf (Value.ref it) (Str.ofString "__length_hint__") >>= _) _ _ _
  refine wpAny_bind (wpAny_specialOf hT RT.hint_lri ?_)
  generalize hid : ("list_reverseiterator.__length_hint__" : String) = nm
  wp_delta
  have sp : splitId nm = some ("list_reverseiterator", "__length_hint__") := by
    subst hid
    decide +kernel
  rw [sp]
  subst hid
  have sb : isSubtype (.type "list_reverseiterator") (.type "list_reverseiterator") = pure true := by rw [isSubtype_type]; kernel_rfl
  refine wpAny_bind (wpAny_isInstance (b := true) hT sb (wpAny_pure ?_))
  rw [if_neg (by decide)]
  have z0 : (zs.size : Int) - 1 - ((0 : Nat) : Int) = (zs.size : Int) - 1 := Int.sub_zero _
  refine wpAny_pure ⟨plainId_quiet F.plain_extend_loop _, codeAny_extend_loopS W hz S out res zs.size 0 s #[] c₀ rfl (Nat.zero_le _) ⟨Nat.zero_le _, (by rw [z0]; exact hit), hl⟩ hS (ItemsOf.nil _) fun s' acc c' mv at' its => ?_⟩
  rw [Moved.eq_with mv]
  refine hR _ _ acc c' (fun b o h1 h2 e => mv.heap b o (fun hm => ?_) e) at' its
  rcases List.mem_cons.mp hm with e' | hm
  · exact h2 e'
  · exact h1 (List.mem_singleton.mp hm)
theorem call_list_back {it l : Addr} {zs : Array Value} {Q : Value → Shared → Prop} (hh : A.handled = none) (hit : s.heap.IsRevIter it l ((zs.size : Int) - 1)) (hl : s.heap.IsList l zs) (hli : l ≠ it) (hz : zs.size ≤ sizeLine)
    (hQ : ∀ (h' : Heap) (tk : Nat) (acc : Array Value) (c' : Nat), (∀ b o, b ≠ it → s.heap.get? b = some o → h'.get? b = some o) → h'.get? s.heap.objs.size = some { cls := .type "list", dict := none, data := .seq acc c', slots := #[] } →
      ItemsOf (fun i v => zs[zs.size - 1 - i]? = some v) acc zs.size → Q (.ref s.heap.objs.size) { s with heap := h', toks := tk }) :
    wpAny (model prog w) A (call (.type "list") [.ref it]) Q E s := by
  obtain ⟨oi, hoi, _⟩ := id hit
  obtain ⟨ol, hol, _⟩ := id hl
  have ni : s.heap.objs.size ≠ it := Nat.ne_of_gt (Heap.lt_size hoi)
  have nl : s.heap.objs.size ≠ l := Nat.ne_of_gt (Heap.lt_size hol)
  refine callType_codes (Q₁ := fun v s₁ => v = .ref s.heap.objs.size ∧ s₁ = { s with heap := s.heap.push { cls := .type "list", data := .seq #[] } }) F.called_list (F.typeCall_list_1 _) F.entry_list_init (code_list_new _ ⟨rfl, rfl⟩) fun v s₁ hv => ?_
  obtain ⟨ev, es⟩ := hv
  subst ev es
  have g0 : (s.heap.push { cls := .type "list", data := .seq #[] }).get? s.heap.objs.size = some { cls := .type "list", data := .seq #[] } := Heap.get?_push_size _ rfl
  refine ⟨⟨_, g0, rfl⟩, F.args_list_init_2 _ _, ?_⟩
  show wpAny _ A.in1.in1 (Builtin.List.listItems (.ref s.heap.objs.size) >>= fun old => Builtin.List.listUpdate (.ref s.heap.objs.size) (fun _ => #[]) >>= fun _ => letGo old.toList.reverse >>= fun _ => Builtin.List.listExtendWith (.ref s.heap.objs.size) (.ref it) .none) _ _ _
  refine wpAny_bind ?_
  unfold Builtin.List.listItems
  refine wpAny_bind (wpAny_seqItems g0 rfl (wpAny_pure ?_))
  show wpAny _ A.in1.in1 (updateSeq s.heap.objs.size (fun _ => (#[] : Array Value)) >>= fun _ => letGo (#[] : Array Value).toList.reverse >>= fun _ => Builtin.List.listExtendWith (.ref s.heap.objs.size) (.ref it) .none) _ _ _
  refine wpAny_bind (wpAny_updateSeq g0 rfl ?_)
  have g1 := Heap.get?_update_self (Obj.mapSeq (fun _ => (#[] : Array Value))) g0 rfl
  have up : ∀ b o, b ≠ s.heap.objs.size → s.heap.get? b = some o → ((s.heap.push { cls := .type "list", data := .seq #[] }).update s.heap.objs.size (Obj.mapSeq (fun _ => (#[] : Array Value)))).get? b = some o := fun b o hb e =>
    (Heap.get?_update_other _ _ (Ne.symm hb)).trans (Heap.get?_push_of_some _ e)
  refine wpAny_bind (wpAny_letGo ?_)
  refine fill_back (A := A.in1) hh g1 (hit.at fun o e => up it o (Ne.symm ni) e) (hl.at fun o e => up l o (Ne.symm nl) e) hli ni nl hz fun h' tk acc c' kp at' its => ?_
  exact ⟨rfl, hQ h' tk acc c' (fun b o hb e => kp b o hb (Nat.ne_of_lt (Heap.lt_size e)) (up b o (Nat.ne_of_lt (Heap.lt_size e)) e)) at' its⟩
end
/-- list(reversed(e)) -/
def tListRev (K : PySem.W.Frag) (te : TE) : TE := fun σ H Q => te σ H fun v H1 => ∃ (a : Addr) (xs : List V), v = .ref a ∧ SqL K H1 a xs ∧ ∀ q, H1 q = none → Q (.ref q) (upd H1 q (.lst xs.reverse))
section
variable {X : Cx}
theorem pe_listRev {e : Expr} {te : TE} {p p2 pos pos2 : Pos} (hc : X.calm = true) (hg : Gl X "list") (hm : X.mg "list" = none) (hg2 : Gl X "reversed") (hm2 : X.mg "reversed" = none) (he : PE X e te)
    (s1 : starEach [e] X.env = (false, eval e X.env) :: starEach [] X.env := by rfl)
    (s2 : starEach [.Call (.Name "reversed" p2) [e] [] pos2] X.env = (false, eval (.Call (.Name "reversed" p2) [e] [] pos2) X.env) :: starEach [] X.env := by rfl) :
    PE X (.Call (.Name "list" p) [.Call (.Name "reversed" p2) [e] [] pos2] [] pos) (tListRev X.K te) := by
  refine ⟨fun pins s σ H Q I h => ?_⟩
  have hb : bootBuiltins "list" = some (.type "list") := by decide +kernel
  refine Call_ (ld_blt I hg hm hb (callWith_type1 (args_cons ?_ s2) s2 rfl))
  refine Call_ (ld_blt I hg2 hm2 boot_reversed (callWith_type1 (args_cons (thn (he.run pins s σ H _ I h) fun u t ⟨v, H1, J, r1, q1⟩ => args_nil ?_) s1) s1 rfl))
  obtain ⟨a, xs, ev, hq, q⟩ := q1
  subst ev
  obtain rfl : u = Value.ref a := r1
  obtain ⟨its, rv, pl, hz⟩ := J.list hq
  refine call_reversed_list pl.isList (args_nil ?_)
  have J2 : Inv X pins σ H1 { t with heap := t.heap.push (revObj a ((its.toArray.size : Int) - 1)) } := J.kept (t' := t.toks) fun b o eb => Heap.get?_push_of_some _ eb
  obtain ⟨ol, hol, _⟩ := id pl.isList
  have na : a ≠ t.heap.objs.size := Nat.ne_of_lt (Heap.lt_size hol)
  have nz : its.toArray.size ≤ sizeLine := by
    rw [List.size_toArray, ← rv.length]
    exact hz
  refine call_list_back (s := { t with heap := t.heap.push (revObj a ((its.toArray.size : Int) - 1)) }) (J.ok.hd hc) ⟨_, Heap.get?_push_size _ rfl, rfl, rfl⟩ (pl.isList.push _) na nz fun h' tk acc c' kp at' ia => ?_
  have hsz : (t.heap.push (revObj a ((its.toArray.size : Int) - 1))).objs.size = t.heap.objs.size + 1 := Heap.size_push _ _
  have fresh2 := J2.hok.fresh (Nat.le_refl _)
  generalize hg2 : (t.heap.push (revObj a ((its.toArray.size : Int) - 1))) = g2 at *
  have J3 : Inv X pins σ (upd H1 g2.objs.size (.lst xs.reverse)) { t with heap := g2.push { cls := .type "list", dict := none, data := .seq acc c', slots := #[] } } := by
    refine J2.laid (t' := t.toks) (fun b o eb => Heap.get?_push_of_some _ eb) (Nat.le_refl _) ⟨by rw [List.length_reverse]; exact hz, acc.toList, c', RT.vals_rev rv ia, ?_⟩
    rw [Array.toArray_toList]
    exact Heap.get?_push_size _ rfl
  have nit : t.heap.objs.size ≠ g2.objs.size := by omega
  have hn : (upd H1 g2.objs.size (.lst xs.reverse)) t.heap.objs.size = none := by
    rw [upd_ne nit]
    exact J.hok.fresh (Nat.le_refl _)
  obtain ⟨f0, f1, f2, f3, f4, f5⟩ := J.fpOk (b := t.heap.objs.size) (Nat.le_refl _) hn
  refine ⟨.ref g2.objs.size, upd H1 g2.objs.size (.lst xs.reverse), J3.turned (t' := tk) (fun b o hb eb => ?_) f0 f1 f3 f4 f5, rfl, q _ fresh2⟩
  by_cases hb2 : b = g2.objs.size
  · subst hb2
    have e1 : (g2.push { cls := .type "list", dict := none, data := .seq acc c', slots := #[] }).get? g2.objs.size = some { cls := .type "list", dict := none, data := .seq acc c', slots := #[] } := Heap.get?_push_size _ rfl
    have e2 := eb.symm.trans e1
    rw [e2]
    exact at'
  · refine kp b o hb ?_
    have e3 : (g2.push { cls := .type "list", dict := none, data := .seq acc c', slots := #[] }).get? b = some o := eb
    rcases Heap.get?_push_cases e3 with ⟨e4, _⟩ | e4
    · exact absurd e4 hb2
    · exact e4
end
end Pb

/-! ## PbW5 -/
namespace Pb
open PySem L2
section
variable {P : Program} {w : World} {K : PySem.W.Frag} {mg : Str → Option Value} {base : Heap} {C CI : Addr}
theorem int_is (a b : Int) : decide (V.int a = V.int b) = decide (a = b) := by
  rw [decide_eq_decide]
  exact ⟨fun e => V.int.inj e, fun e => by rw [e]⟩
/-! ### values -/
def spMay : Sp := fun vs H Q _ => ∃ (k : Nat) (n : Int), vs = [.int (k : Int), .int n] ∧ Q (.bl (Md03.valueGood k n)) H
theorem good0 (n : Int) : Md03.valueGood 0 n = (decide (1 ≤ n) && decide (n ≤ 64)) := by simp [Md03.valueGood]
theorem good1 (n : Int) : Md03.valueGood 1 n = (decide (2 ≤ n) && decide (n ≤ 64)) := by simp [Md03.valueGood]
theorem good2 (n : Int) : Md03.valueGood 2 n = (decide (n = 32) || decide (n = 64)) := by
  unfold Md03.valueGood
  rw [show ((2 : Nat) == 0) = false from rfl, show ((2 : Nat) == 1) = false from rfl, show ((2 : Nat) == 2) = true from rfl, show ((2 : Nat) == 3) = false from rfl]
  simp only [Bool.false_and, Bool.true_and, Bool.false_or, Bool.or_false]
  rfl
theorem good3 {k : Nat} (h0 : k ≠ 0) (h1 : k ≠ 1) (h2 : k ≠ 2) (n : Int) : Md03.valueGood k n = (decide (k = 3) && (decide (8 ≤ n) && (decide (n ≤ 64) && decide (n % 8 = 0)))) := by
  have b0 : (k == 0) = false := by simpa using h0
  have b1 : (k == 1) = false := by simpa using h1
  have b2 : (k == 2) = false := by simpa using h2
  unfold Md03.valueGood
  rw [b0, b1, b2]
  simp only [Bool.false_and, Bool.false_or, Bool.and_assoc]
  rfl
theorem good_cases {k : Nat} {n : Int} (h : Md03.valueGood k n = true) : ∃ m : Nat, n = (m : Int) ∧ 1 ≤ m ∧ m ≤ 64 ∧ (k = 0 ∨ (k = 1 ∧ 2 ≤ m) ∨ (k = 2 ∧ (m = 32 ∨ m = 64)) ∨ (k = 3 ∧ 8 ≤ m ∧ m % 8 = 0)) := by
  by_cases h0 : k = 0
  · subst h0
    rw [good0, Bool.and_eq_true, decide_eq_true_eq, decide_eq_true_eq] at h
    exact ⟨n.toNat, by omega, by omega, by omega, .inl rfl⟩
  by_cases h1 : k = 1
  · subst h1
    rw [good1, Bool.and_eq_true, decide_eq_true_eq, decide_eq_true_eq] at h
    exact ⟨n.toNat, by omega, by omega, by omega, .inr (.inl ⟨rfl, by omega⟩)⟩
  by_cases h2 : k = 2
  · subst h2
    rw [good2, Bool.or_eq_true, decide_eq_true_eq, decide_eq_true_eq] at h
    exact ⟨n.toNat, by omega, by omega, by omega, .inr (.inr (.inl ⟨rfl, by omega⟩))⟩
  rw [good3 h0 h1 h2, Bool.and_eq_true, Bool.and_eq_true, Bool.and_eq_true, decide_eq_true_eq, decide_eq_true_eq, decide_eq_true_eq, decide_eq_true_eq] at h
  exact ⟨n.toNat, by omega, by omega, by omega, .inr (.inr (.inr ⟨h.1, by omega, by omega⟩))⟩
theorem sc_may_be : FnScope ["kind", "width"] ["kind", "width"] (defScope (top 20)) := ⟨rfl, rfl, rfl, by decide +kernel, rfl, by decide +kernel, by decide +kernel⟩
theorem ok_may (D : Df K mg "may_be" (top 20)) : HasD P w K mg base "may_be" 1 ["kind", "width"] spMay := by
  obtain ⟨f, fd, F, g⟩ := D.ex
  refine ⟨f, fd, g, F.kp, F.binds (fun _ _ _ _ _ _ us hl => match us, hl with | [_, _], _ => rfl), F.ok sc_may_be (fun vs H Q E h => ?_) (fun cdv A outer s0 H vs Q E hr h => ?_)⟩
  · obtain ⟨d, n, rfl, _⟩ := h
    rfl
  · obtain ⟨d, n, rfl, k⟩ := h
    refine ⟨_, (pss_cons (ps_if (pt_cmpR op_eq (pv 0) pe_int (nomark _)) (pss_one (ps_ret (pe_and (pe_cmpR op_ge (pv 1) pe_int (nomark _)) (pe_one (pe_cmpR op_le (pv 1) pe_int (nomark _)))))) pss_nil)
      (pss_cons (ps_if (pt_cmpR op_eq (pv 0) pe_int (nomark _)) (pss_one (ps_ret (pe_and (pe_cmpR op_ge (pv 1) pe_int (nomark _)) (pe_one (pe_cmpR op_le (pv 1) pe_int (nomark _)))))) pss_nil)
      (pss_cons (ps_if (pt_cmpR op_eq (pv 0) pe_int (nomark _)) (pss_one (ps_ret (pe_or (pe_cmpR op_eq (pv 1) pe_int (nomark _)) (pe_one (pe_cmpR op_eq (pv 1) pe_int (nomark _)))))) pss_nil)
      (pss_one (ps_ret (pe_and (pe_cmpR op_eq (pv 0) pe_int (nomark _)) (pe_and (pe_cmpR op_ge (pv 1) pe_int (nomark _)) (pe_and (pe_cmpR op_le (pv 1) pe_int (nomark _)) (pe_one (pe_cmpR op_eq (pe_op op_mod (pv 1) pe_int) pe_int (nomark _))))))))))), ?_⟩
    refine ⟨_, rfl, rfl, _, rfl, ?_⟩
    rw [show decide (V.int (d : Int) = V.int 0) = decide (d = 0) from nat_is d 0]
    by_cases h0 : d = 0
    · subst h0
      rw [good0] at k
      refine iteT ⟨_, rfl, _, _, rfl, rfl, _, rfl, ?_⟩
      cases h : decide ((1 : Int) ≤ n) with
      | true =>
        rw [h] at k
        exact iteT ⟨_, rfl, _, _, rfl, rfl, k⟩
      | false =>
        rw [h] at k
        exact iteF k
    rw [decide_eq_false h0]
    refine iteF ⟨_, rfl, rfl, _, rfl, ?_⟩
    rw [show decide (V.int (d : Int) = V.int 1) = decide (d = 1) from nat_is d 1]
    by_cases h1 : d = 1
    · subst h1
      rw [good1] at k
      refine iteT ⟨_, rfl, _, _, rfl, rfl, _, rfl, ?_⟩
      cases h : decide ((2 : Int) ≤ n) with
      | true =>
        rw [h] at k
        exact iteT ⟨_, rfl, _, _, rfl, rfl, k⟩
      | false =>
        rw [h] at k
        exact iteF k
    rw [decide_eq_false h1]
    refine iteF ⟨_, rfl, rfl, _, rfl, ?_⟩
    rw [show decide (V.int (d : Int) = V.int 2) = decide (d = 2) from nat_is d 2]
    by_cases h2 : d = 2
    · subst h2
      rw [good2] at k
      refine iteT ⟨_, rfl, rfl, _, rfl, ?_⟩
      rw [int_is]
      cases h : decide (n = 32) with
      | true =>
        rw [h] at k
        exact iteT k
      | false =>
        rw [h] at k
        refine iteF ⟨_, rfl, rfl, ?_⟩
        rw [int_is]
        exact k
    rw [decide_eq_false h2]
    rw [good3 h0 h1 h2] at k
    refine iteF ⟨_, rfl, rfl, _, rfl, ?_⟩
    rw [show decide (V.int (d : Int) = V.int 3) = decide (d = 3) from nat_is d 3]
    cases h3 : decide (d = 3) with
    | false =>
      rw [h3] at k
      exact iteF k
    | true =>
      rw [h3] at k
      refine iteT ⟨_, rfl, _, _, rfl, rfl, _, rfl, ?_⟩
      cases h4 : decide ((8 : Int) ≤ n) with
      | false =>
        rw [h4] at k
        exact iteF k
      | true =>
        rw [h4] at k
        refine iteT ⟨_, rfl, _, _, rfl, rfl, _, rfl, ?_⟩
        cases h5 : decide (n ≤ (64 : Int)) with
        | false =>
          rw [h5] at k
          exact iteF k
        | true =>
          rw [h5] at k
          refine iteT ⟨_, rfl, _, _, rfl, rfl, (by show (0 : Int) < 8; decide), rfl, ?_⟩
          rw [int_is]
          exact k
/-- in_signed_range -/
def spRange : Sp := fun vs H Q _ => ∃ (n : Int) (m : Nat), vs = [.int n, .int (m : Int)] ∧ 1 ≤ m ∧ m ≤ 64 ∧ Q (.bl (Md03.inSigned m n)) H
theorem sc_in_signed_range : FnScope ["number", "width"] ["number", "width"] (defScope (top 21)) := ⟨rfl, rfl, rfl, by decide +kernel, rfl, by decide +kernel, by decide +kernel⟩
theorem ok_range (D : Df K mg "in_signed_range" (top 21)) : HasD P w K mg base "in_signed_range" 1 ["number", "width"] spRange := by
  obtain ⟨f, fd, F, g⟩ := D.ex
  refine ⟨f, fd, g, F.kp, F.binds (fun _ _ _ _ _ _ us hl => match us, hl with | [_, _], _ => rfl), F.ok sc_in_signed_range (fun vs H Q E h => ?_) (fun cdv A outer s0 H vs Q E hr h => ?_)⟩
  · obtain ⟨n, m, rfl, _⟩ := h
    rfl
  · obtain ⟨n, m, rfl, h1, h64, k⟩ := h
    refine ⟨_, (pss_one (ps_ret (pe_and (pe_cmpR op_ge (pv 0) (pe_un un_neg (pe_op op_shl pe_int (pe_op op_sub (pv 1) pe_int))) (nomark _)) (pe_one (pe_cmpR op_lt (pv 0) (pe_op op_shl pe_int (pe_op op_sub (pv 1) pe_int)) (nomark _)))))), ?_⟩
    unfold Md03.inSigned at k
    rw [pow_cast] at k
    have e1 : ((m : Int) - 1).toNat = m - 1 := by omega
    refine ⟨_, rfl, _, rfl, _, _, rfl, rfl, _, _, rfl, rfl, ⟨by omega, by omega, by decide⟩, _, rfl, _, _, rfl, rfl, _, rfl, ?_⟩
    rw [e1, Int.one_mul]
    cases h : decide (-(2 : Int) ^ (m - 1) ≤ n) with
    | false =>
      rw [h] at k
      exact iteF k
    | true =>
      rw [h] at k
      refine iteT ⟨_, rfl, _, rfl, _, _, rfl, rfl, _, _, rfl, rfl, ⟨by omega, by omega, by decide⟩, _, _, rfl, rfl, ?_⟩
      rw [e1, Int.one_mul]
      exact k
/-- bytes_number -/
def spBig (K : PySem.W.Frag) : Sp := fun vs H Q _ => ∃ (a : Addr) (b : Md03.Bytes), vs = [.ref a] ∧ SqL K H a (cV b) ∧ Q (.int (big b : Int)) H
theorem sc_bytes_number : FnScope ["letters", "number", "byte"] ["letters"] (defScope (top 22)) := ⟨rfl, rfl, rfl, by decide +kernel, rfl, by decide +kernel, by decide +kernel⟩
theorem ok_big (D : Df K mg "bytes_number" (top 22)) : HasD P w K mg base "bytes_number" 1 ["letters"] (spBig K) := by
  obtain ⟨f, fd, F, g⟩ := D.ex
  refine ⟨f, fd, g, F.kp, F.binds (fun _ _ _ _ _ _ us hl => match us, hl with | [_], _ => rfl), F.ok sc_bytes_number (fun vs H Q E h => ?_) (fun cdv A outer s0 H vs Q E hr h => ?_)⟩
  · obtain ⟨a, b, rfl, _⟩ := h
    rfl
  · obtain ⟨a, b, rfl, hS, k⟩ := h
    refine ⟨_, (pss_cons (ps_set (i := 1) sc_bytes_number.nd rfl (Or.inl rfl) pe_int)
      (pss_cons (ps_for PassesOwn.never rfl (pi_list (pv 0)) (pg_name (i := 2) sc_bytes_number.nd rfl (Or.inl rfl)) (pss_one (ps_set (i := 1) sc_bytes_number.nd rfl (Or.inl rfl) (pe_op op_add (pe_op op_mul pe_int (pv 1)) (pv 2)))))
      (pss_one (ps_ret (pv 1))))), ?_⟩
    refine ⟨_, rfl, a, rfl, ⟨_, hS⟩, for_list (K := K) (a := a) (xs := cV b) (fun i σ H' => ∃ v : Option V, σ = [some (.ref a), some (.int (big (b.take i) : Int)), v] ∧ H' = H)
      ⟨none, rfl, rfl⟩ ?_ ?_ ?_⟩
    · rintro i σ H' _ ⟨v, rfl, rfl⟩
      exact hS
    · rintro i x σ H' hx ⟨v, rfl, rfl⟩
      obtain ⟨c, hc, rfl⟩ := cV_get hx
      refine ⟨_, rfl, _, _, rfl, rfl, .inl (by decide), _, rfl, _, _, rfl, rfl, ?_⟩
      refine ⟨some (V.int (c.toNat : Int)), ?_, rfl⟩
      rw [take_more hc, big_snoc, Int.natCast_add, Int.natCast_mul]
      rfl
    · rintro σ H' ⟨v, rfl, rfl⟩
      rw [cV_len, List.take_length]
      exact ⟨_, rfl, k⟩
/-- field_of: None, or a number with the value's bits -/
def FldR (o : Option (List Bool)) (m : Nat) (v : V) : Prop := match o with
  | none => v = .non
  | some l => ∃ z : Int, v = .int z ∧ Md03.bitsOf m (Md03.mod m z) = l
def spField (K : PySem.W.Frag) : Sp := fun vs H Q _ => ∃ (k m : Nat) (a : Addr) (b : Md03.Bytes), vs = [.int (k : Int), .int (m : Int), .ref a] ∧ SqL K H a (cV b) ∧ b.length = 8 ∧ Md03.valueGood k (m : Int) = true ∧
  ∀ (H' : Hp) (v : V), Same H H' → FldR (Md03.valueBits k m b) m v → Q v H'
theorem sc_field_of : FnScope ["kind", "width", "eight", "number"] ["kind", "width", "eight"] (defScope (top 23)) := ⟨rfl, rfl, rfl, by decide +kernel, rfl, by decide +kernel, by decide +kernel⟩
theorem ok_field (D : Df K mg "field_of" (top 23)) (T : Txt K mg C CI) (h_number_of : HasD P w K mg base "number_of" 1 ["eight"] (spNum K)) (h_in_signed_range : HasD P w K mg base "in_signed_range" 1 ["number", "width"] spRange) (h_signed : HasD P w K mg base "signed" 1 ["number", "width"] spSigned)
    (h_single_of : HasD P w K mg base "single_of" 1 ["double"] spSingle) (h_bytes_number : HasD P w K mg base "bytes_number" 1 ["letters"] (spBig K)) : HasD P w K mg base "field_of" 2 ["kind", "width", "eight"] (spField K) := by
  obtain ⟨f, fd, F, g⟩ := D.ex
  obtain ⟨f_number_of, fd_number_of, g_number_of, k_number_of, b_number_of, G_number_of⟩ := h_number_of.ex
  obtain ⟨f_in_signed_range, fd_in_signed_range, g_in_signed_range, k_in_signed_range, b_in_signed_range, G_in_signed_range⟩ := h_in_signed_range.ex
  obtain ⟨f_signed, fd_signed, g_signed, k_signed, b_signed, G_signed⟩ := h_signed.ex
  obtain ⟨f_single_of, fd_single_of, g_single_of, k_single_of, b_single_of, G_single_of⟩ := h_single_of.ex
  obtain ⟨f_bytes_number, fd_bytes_number, g_bytes_number, k_bytes_number, b_bytes_number, G_bytes_number⟩ := h_bytes_number.ex
  refine ⟨f, fd, g, F.kp, F.binds (fun _ _ _ _ _ _ us hl => match us, hl with | [_, _, _], _ => rfl), F.ok sc_field_of (fun vs H Q E h => ?_) (fun cdv A outer s0 H vs Q E hr h => ?_)⟩
  · obtain ⟨d, m, a, b, rfl, _⟩ := h
    rfl
  · obtain ⟨d, m, a, b, rfl, hS, hb, hgood, k⟩ := h
    obtain ⟨m', em, hm1, hm64, hk⟩ := good_cases hgood
    have em : m = m' := by omega
    subst em
    refine ⟨_, (pss_cons (ps_set (i := 3) sc_field_of.nd rfl (Or.inl rfl) (pe_call G_number_of (hr.mono (by decide)) (by rfl) g_number_of k_number_of b_number_of .nil pass0 (pa_cons (pv 2) pa_nil)))
      (pss_cons (ps_if (pt_cmpR op_eq (pv 0) pe_int (nomark _)) (pss_cons (ps_if (pt_cmpR op_lt (pv 3) (pe_op op_shl pe_int (pv 1)) (nomark _)) (pss_one (ps_ret (pv 3))) pss_nil)
      (pss_one (ps_ret pe_non))) pss_nil)
      (pss_cons (ps_if (pt_cmpR op_eq (pv 0) pe_int (nomark _)) (pss_cons (ps_if (pt_val (pe_call G_in_signed_range (hr.mono (by decide)) (by rfl) g_in_signed_range k_in_signed_range b_in_signed_range .nil pass0 (pa_cons (pe_call G_signed (hr.mono (by decide)) (by rfl) g_signed k_signed b_signed .nil pass0 (pa_cons (pv 3) (pa_cons pe_int pa_nil))) (pa_cons (pv 1) pa_nil)))) (pss_one (ps_ret (pe_op op_mod (pv 3) (pe_op op_shl pe_int (pv 1))))) pss_nil)
      (pss_one (ps_ret pe_non))) pss_nil)
      (pss_cons (ps_if (pt_cmpR op_eq (pv 0) pe_int (nomark _)) (pss_cons (ps_if (pt_cmpR op_eq (pv 1) pe_int (nomark _)) (pss_one (ps_ret (pv 3))) pss_nil)
      (pss_one (ps_ret (pe_call G_single_of (hr.mono (by decide)) (by rfl) g_single_of k_single_of b_single_of .nil pass0 (pa_cons (pv 3) pa_nil))))) pss_nil)
      (pss_one (ps_ret (pe_call G_bytes_number (hr.mono (by decide)) (by rfl) g_bytes_number k_bytes_number b_bytes_number .nil pass0 (pa_cons (pe_slice sl_list (pv 2) po_none (po_some (pe_op op_fdiv (pv 1) pe_int))) pa_nil)))))))), ?_⟩
    have hw := word_lt64 hb
    refine ⟨_, rfl, a, b, rfl, hS, ?_⟩
    unfold Md03.valueBits at k
    refine ⟨_, rfl, rfl, _, rfl, ?_⟩
    rw [show decide (V.int (d : Int) = V.int 0) = decide (d = 0) from nat_is d 0]
    by_cases h0 : d = 0
    · rw [decide_eq_true h0]
      rw [if_pos h0] at k
      refine iteT ⟨_, rfl, _, rfl, _, _, rfl, rfl, ⟨by omega, by omega, by decide⟩, _, _, rfl, rfl, _, rfl, ?_⟩
      have ec : decide ((Md03.word b : Int) < 1 * 2 ^ ((m : Int)).toNat) = decide (Md03.word b < 2 ^ m) := by
        rw [decide_eq_decide, Int.one_mul, Int.toNat_natCast, ← pow_cast]
        exact Int.ofNat_lt
      rw [ec]
      by_cases h1 : Md03.word b < 2 ^ m
      · rw [decide_eq_true h1]
        rw [if_pos h1] at k
        exact iteT ⟨_, rfl, k _ _ (Same.refl H) ⟨_, rfl, bitsOf_modn _ _⟩⟩
      · rw [decide_eq_false h1]
        rw [if_neg h1] at k
        exact iteF (k _ _ (Same.refl H) rfl)
    rw [decide_eq_false h0]
    rw [if_neg h0] at k
    refine iteF ⟨_, rfl, rfl, _, rfl, ?_⟩
    rw [show decide (V.int (d : Int) = V.int 1) = decide (d = 1) from nat_is d 1]
    by_cases h1 : d = 1
    · rw [decide_eq_true h1]
      rw [if_pos h1, signed64_sgn] at k
      refine iteT ⟨_, rfl, _, 64, rfl, by decide, by decide, _, rfl, _, m, rfl, hm1, hm64, _, rfl, ?_⟩
      cases h2 : Md03.inSigned m (sgn (Md03.word b) 64) with
      | true =>
        rw [if_pos h2] at k
        refine iteT ⟨_, rfl, _, rfl, _, _, rfl, rfl, ⟨by omega, by omega, by decide⟩, _, _, rfl, rfl, ?_, ?_⟩
        · show (0 : Int) < 1 * 2 ^ ((m : Int)).toNat
          rw [Int.one_mul]
          exact pow_pos _
        · refine k _ _ (Same.refl H) ⟨_, rfl, ?_⟩
          rw [Int.one_mul, Int.toNat_natCast, ← mod_castI, bitsOf_modi, sgn_mod hm64]
      | false =>
        rw [if_neg (by rw [h2]; exact Bool.false_ne_true)] at k
        exact iteF (k _ _ (Same.refl H) rfl)
    rw [decide_eq_false h1]
    rw [if_neg h1] at k
    refine iteF ⟨_, rfl, rfl, _, rfl, ?_⟩
    rw [show decide (V.int (d : Int) = V.int 2) = decide (d = 2) from nat_is d 2]
    by_cases h2 : d = 2
    · rw [decide_eq_true h2]
      rw [if_pos h2] at k
      refine iteT ⟨_, rfl, rfl, _, rfl, ?_⟩
      rw [show decide (V.int (m : Int) = V.int 64) = decide (m = 64) from nat_is m 64]
      by_cases h3 : m = 64
      · rw [decide_eq_true h3]
        rw [if_pos h3] at k
        exact iteT ⟨_, rfl, k _ _ (Same.refl H) ⟨_, rfl, by rw [h3]; exact bitsOf_modn _ _⟩⟩
      · rw [decide_eq_false h3]
        rw [if_neg h3] at k
        have h32 : m = 32 := by omega
        refine iteF ⟨_, rfl, _, rfl, hw, ?_⟩
        cases hs : Md03.single (Md03.word b) with
        | none =>
          rw [hs] at k
          exact k _ _ (Same.refl H) rfl
        | some x =>
          rw [hs] at k
          exact k _ _ (Same.refl H) ⟨_, rfl, by rw [h32]; exact bitsOf_modn _ _⟩
    rw [decide_eq_false h2]
    rw [if_neg h2] at k
    have h8 : m % 8 = 0 ∧ 8 ≤ m := by omega
    refine iteF ⟨_, rfl, _, rfl, _, _, rfl, rfl, ⟨by decide, by decide⟩, _, rfl, a, _, rfl, hS, fun p hp => ?_⟩
    have ecut : cutV (cV b) none (some ((m : Int) / 8)) = cV (b.take (m / 8)) := by
      have e1 := cut_nat (xs := cV b) (a := 0) (b := m / 8) (by rw [cV_len, hb]; omega) (Nat.zero_le _)
      have e2 : cutV (cV b) none (some ((m : Int) / 8)) = cutV (cV b) (some ((0 : Nat) : Int)) (some ((m / 8 : Nat) : Int)) := by
        rw [Int.natCast_ediv]
        unfold cutV HT.sIx
        simp
      rw [e2, e1, List.drop_zero, Nat.sub_zero]
      unfold cV
      rw [List.map_take]
    refine ⟨p, b.take (m / 8), rfl, ?_, ?_⟩
    · have q : (upd H p (.lst (cutV (cV b) none (some ((m : Int) / 8))))) p = some (.lst (cutV (cV b) none (some ((m : Int) / 8)))) := upd_same
      rw [ecut] at q
      refine SqL.of ?_
      show (upd H p (.lst (cutV (cV b) none (some ((m : Int) / 8))))) p = _
      rw [ecut]
      exact upd_same
    · refine k _ _ (Same.new hp) ⟨_, rfl, ?_⟩
      have hlen : (b.take (m / 8)).length = m / 8 := by
        rw [List.length_take, hb]
        omega
      have e8 := bitsOf_big (b.take (m / 8))
      rw [hlen, show 8 * (m / 8) = m by omega] at e8
      rw [bitsOf_modn, e8]
end
end Pb

/-! ## PbW6 -/
namespace Pb
open PySem L2
/-! ### what a call hands back -/
def ansInts (a : Md03.Ans) : List Int := a.code :: (a.ints ++ a.out.map fun (b : UInt8) => (b.toNat : Int))
theorem cV_iV (t : Md03.Bytes) : cV t = iV (t.map fun (b : UInt8) => (b.toNat : Int)) := by
  unfold cV iV
  rw [List.map_map]
  rfl
theorem iV_cons (x : Int) (l : List Int) : iV (x :: l) = V.int x :: iV l := rfl
/-- the answer is a new list; the store is as it should be; all else stands -/
def Done (C : Addr) (s L : Addr) (H : Hp) (r : Md03.Ans × Md03.Abs) (Q : VK) : Prop := ∀ (H' : Hp) (p L' : Addr), H' p = some (.lst (iV (ansInts r.1))) → StoreAt C H' s L' r.2 → (L' = L ∨ H L' = none) → H p = none → p ≠ L' → Kp s L H H' → Q (.ref p) H'
theorem Kp.free {C : Addr} {s L p : Addr} {H H1 : Hp} {st : Md03.Abs} (kp : Kp s L H H1) (S : StoreAt C H1 s L st) (hp : H1 p = none) : H p = none := by
  obtain ⟨⟨dx, h1⟩, h2⟩ := S
  cases e : H p with
  | none => rfl
  | some o =>
    have n1 : p ≠ s := fun q => by
      rw [q, h1] at hp
      cases hp
    have n2 : p ≠ L := fun q => by
      rw [q, h2] at hp
      cases hp
    rw [kp p o e n1 n2] at hp
    cases hp
/-- the answer's list is made over the store as it should be -/
theorem Done.new {C : Addr} {s L p : Addr} {H H1 : Hp} {r : Md03.Ans × Md03.Abs} {Q : VK} {xs : List V} (k : Done C s L H r Q) (S : StoreAt C H1 s L r.2) (kp : Kp s L H H1) (hp : H1 p = none) (e : xs = iV (ansInts r.1)) : Q (.ref p) (upd H1 p (.lst xs)) := by
  have hp0 := kp.free S hp
  obtain ⟨⟨dx, h1⟩, h2⟩ := id S
  refine k _ p L (by rw [upd_same, e]) (S.same (Same.new hp)) (.inl rfl) hp0 (ne_of_none h2 hp).symm (kp.trans (Kp.of (Same.new hp)))
section
variable {P : Program} {w : World} {K : PySem.W.Frag} {mg : Str → Option Value} {base : Heap} {C CI : Addr}
/-- put_value -/
def spPutValue (K : PySem.W.Frag) (C : Addr) : Sp := fun vs H Q _ => ∃ (s L : Addr) (st : Md03.Abs) (k : Nat) (n : Int) (a : Addr) (b : Md03.Bytes), vs = [.ref s, .int (k : Int), .int n, .ref a] ∧ StoreAt C H s L st ∧ SqL K H a (cV b) ∧ b.length = 8 ∧
  Done C s L H (Md03.does st (.value k b n)) Q
theorem adds_len (k m : Nat) (b : Md03.Bytes) (l : List Bool) (hb : b.length = 8) (hg : Md03.valueGood k (m : Int) = true) (h : Md03.valueBits k m b = some l) : l.length = m := by
  obtain ⟨m', em, hm1, hm64, hk⟩ := good_cases hg
  have em : m = m' := by omega
  subst em
  unfold Md03.valueBits at h
  by_cases h0 : k = 0
  · rw [if_pos h0] at h
    split at h
    · cases h
      exact bitsOf_len _ _
    · cases h
  rw [if_neg h0] at h
  by_cases h1 : k = 1
  · rw [if_pos h1] at h
    split at h
    · cases h
      exact bitsOf_len _ _
    · cases h
  rw [if_neg h1] at h
  by_cases h2 : k = 2
  · rw [if_pos h2] at h
    split at h
    · rename_i e
      cases h
      rw [bitsOf_len, e]
    · cases hs : Md03.single (Md03.word b) with
      | none =>
        rw [hs] at h
        cases h
      | some x =>
        rw [hs] at h
        cases h
        rw [bitsOf_len]
        omega
  rw [if_neg h2] at h
  have e := Option.some.inj h
  rw [← e, ← bitsOf_big, bitsOf_len, List.length_take, hb]
  omega
theorem sc_put_value : FnScope ["store", "kind", "width", "eight", "field"] ["store", "kind", "width", "eight"] (defScope (top 24)) := ⟨rfl, rfl, rfl, by decide +kernel, rfl, by decide +kernel, by decide +kernel⟩
theorem ok_putValue (D : Df K mg "put_value" (top 24)) (T : Txt K mg C CI) (h_may_be : HasD P w K mg base "may_be" 1 ["kind", "width"] spMay) (h_field_of : HasD P w K mg base "field_of" 2 ["kind", "width", "eight"] (spField K)) (h_has_room : HasD P w K mg base "has_room" 1 ["store", "width"] (spRoom C))
    (h_put_bits : HasD P w K mg base "put_bits" 1 ["store", "number", "width"] (spPut C)) : HasD P w K mg base "put_value" 3 ["store", "kind", "width", "eight"] (spPutValue K C) := by
  obtain ⟨f, fd, F, g⟩ := D.ex
  obtain ⟨f_may_be, fd_may_be, g_may_be, k_may_be, b_may_be, G_may_be⟩ := h_may_be.ex
  obtain ⟨f_field_of, fd_field_of, g_field_of, k_field_of, b_field_of, G_field_of⟩ := h_field_of.ex
  obtain ⟨f_has_room, fd_has_room, g_has_room, k_has_room, b_has_room, G_has_room⟩ := h_has_room.ex
  obtain ⟨f_put_bits, fd_put_bits, g_put_bits, k_put_bits, b_put_bits, G_put_bits⟩ := h_put_bits.ex
  refine ⟨f, fd, g, F.kp, F.binds (fun _ _ _ _ _ _ us hl => match us, hl with | [_, _, _, _], _ => rfl), F.ok sc_put_value (fun vs H Q E h => ?_) (fun cdv A outer s0 H vs Q E hr h => ?_)⟩
  · obtain ⟨s, L, st, d, n, a, b, rfl, _⟩ := h
    rfl
  · obtain ⟨s, L, st, d, n, a, b, rfl, S, hS, hb, k⟩ := h
    refine ⟨_, (pss_cons (ps_if (pt_not (pt_val (pe_call G_may_be (hr.mono (by decide)) (by rfl) g_may_be k_may_be b_may_be .nil pass0 (pa_cons (pv 1) (pa_cons (pv 2) pa_nil))))) (pss_one (ps_ret (pe_lst (pa_cons (pe_un un_neg pe_int) pa_nil)))) pss_nil)
      (pss_cons (ps_set (i := 4) sc_put_value.nd rfl (Or.inl rfl) (pe_call G_field_of (hr.mono (by decide)) (by rfl) g_field_of k_field_of b_field_of .nil pass0 (pa_cons (pv 1) (pa_cons (pv 2) (pa_cons (pv 3) pa_nil)))))
      (pss_cons (ps_if (pt_cmpR op_isN (pv 4) pe_non (nomark _)) (pss_one (ps_ret (pe_lst (pa_cons (pe_un un_neg pe_int) pa_nil)))) pss_nil)
      (pss_cons (ps_if (pt_not (pt_val (pe_call G_has_room (hr.mono (by decide)) (by rfl) g_has_room k_has_room b_has_room .nil pass0 (pa_cons (pv 0) (pa_cons (pv 2) pa_nil))))) (pss_one (ps_ret (pe_lst (pa_cons (pe_un un_neg pe_int) pa_nil)))) pss_nil)
      (pss_cons (ps_expr (pe_call G_put_bits (hr.mono (by decide)) (by rfl) g_put_bits k_put_bits b_put_bits .nil pass0 (pa_cons (pv 0) (pa_cons (pv 4) (pa_cons (pv 2) pa_nil)))))
      (pss_one (ps_ret (pe_lst (pa_cons pe_int pa_nil))))))))), ?_⟩
    refine ⟨_, rfl, _, rfl, d, n, rfl, _, rfl, ?_⟩
    unfold Md03.does at k
    dsimp only at k
    cases hg : Md03.valueGood d n with
    | false =>
      rw [if_pos hg] at k
      exact iteT ⟨_, rfl, by decide, fun p hp => k.new S (Kp.refl s L H) hp rfl⟩
    | true =>
      obtain ⟨m, rfl, hm1, hm64, _⟩ := good_cases hg
      rw [if_neg (by rw [hg]; decide), Int.toNat_natCast] at k
      refine iteF ⟨_, rfl, _, rfl, _, rfl, d, m, a, b, rfl, hS, hb, hg, fun H1 v s1 r1 => ?_⟩
      have S1 := S.same s1
      refine ⟨_, rfl, rfl, _, rfl, ?_⟩
      cases hv : Md03.valueBits d m b with
      | none =>
        rw [hv] at r1 k
        have e : v = .non := r1
        subst e
        exact iteT ⟨_, rfl, by decide, fun p hp => k.new S1 (Kp.of s1) hp rfl⟩
      | some l =>
        rw [hv] at r1 k
        obtain ⟨z, rfl, hz⟩ := r1
        have hl := adds_len d m b l hb hg hv
        refine iteF ⟨_, rfl, _, rfl, s, L, st, m, rfl, S1, _, rfl, ?_⟩
        dsimp only at k
        unfold Md03.adds Md03.MOST at k
        rw [hl] at k
        by_cases hr : st.bits.length + m ≤ 32768
        · rw [decide_eq_true hr]
          rw [if_pos hr] at k
          refine iteF ⟨_, rfl, _, rfl, _, rfl, s, L, st, z, m, rfl, S1, hm64, hr, ?_⟩
          rw [hz]
          exact ⟨by decide, fun p hp => k.new (S1.put (st.bits ++ l)) ((Kp.of s1).trans Kp.L) hp rfl⟩
        · rw [decide_eq_false hr]
          rw [if_neg hr] at k
          exact iteT ⟨_, rfl, by decide, fun p hp => k.new S1 (Kp.of s1) hp rfl⟩
/-- value_bytes: None, or a new list of the value's bytes -/
def BytR (o : Option Md03.Bytes) (H H' : Hp) (v : V) : Prop := match o with
  | none => v = .non
  | some b => ∃ p, v = .ref p ∧ H' p = some (.lst (cV b)) ∧ H p = none
def spBytes : Sp := fun vs H Q _ => ∃ (k m : Nat) (l : List Bool), vs = [.int (k : Int), .int (m : Int), .int (Md03.value l : Int)] ∧ l.length = m ∧ Md03.valueGood k (m : Int) = true ∧
  ∀ (H' : Hp) (v : V), Same H H' → BytR (Md03.valueOf k m l) H H' v → Q v H'
theorem sc_value_bytes : FnScope ["kind", "width", "field", "double"] ["kind", "width", "field"] (defScope (top 25)) := ⟨rfl, rfl, rfl, by decide +kernel, rfl, by decide +kernel, by decide +kernel⟩
theorem ok_bytes (D : Df K mg "value_bytes" (top 25)) (T : Txt K mg C CI) (h_eight_of : HasD P w K mg base "eight_of" 1 ["number"] spEight) (h_signed : HasD P w K mg base "signed" 1 ["number", "width"] spSigned) (h_double_of : HasD P w K mg base "double_of" 1 ["single"] spDouble) :
    HasD P w K mg base "value_bytes" 2 ["kind", "width", "field"] spBytes := by
  obtain ⟨f, fd, F, g⟩ := D.ex
  obtain ⟨f_eight_of, fd_eight_of, g_eight_of, k_eight_of, b_eight_of, G_eight_of⟩ := h_eight_of.ex
  obtain ⟨f_signed, fd_signed, g_signed, k_signed, b_signed, G_signed⟩ := h_signed.ex
  obtain ⟨f_double_of, fd_double_of, g_double_of, k_double_of, b_double_of, G_double_of⟩ := h_double_of.ex
  refine ⟨f, fd, g, F.kp, F.binds (fun _ _ _ _ _ _ us hl => match us, hl with | [_, _, _], _ => rfl), F.ok sc_value_bytes (fun vs H Q E h => ?_) (fun cdv A outer s0 H vs Q E hr h => ?_)⟩
  · obtain ⟨d, m, l, rfl, _⟩ := h
    rfl
  · obtain ⟨d, m, l, rfl, hl, hg, k⟩ := h
    obtain ⟨m', em, hm1, hm64, hk⟩ := good_cases hg
    have em : m = m' := by omega
    subst em
    have hv := value_lt l
    rw [hl] at hv
    refine ⟨_, (pss_cons (ps_if (pt_cmpR op_eq (pv 0) pe_int (nomark _)) (pss_one (ps_ret (pe_call G_eight_of (hr.mono (by decide)) (by rfl) g_eight_of k_eight_of b_eight_of .nil pass0 (pa_cons (pe_call G_signed (hr.mono (by decide)) (by rfl) g_signed k_signed b_signed .nil pass0 (pa_cons (pv 2) (pa_cons (pv 1) pa_nil))) pa_nil)))) pss_nil)
      (pss_cons (ps_if (PW.pt (pw_and (pt_cmpR op_eq (pv 0) pe_int (nomark _)) (pw_and1 (pt_cmpR op_eq (pv 1) pe_int (nomark _))))) (pss_cons (ps_set (i := 3) sc_value_bytes.nd rfl (Or.inl rfl) (pe_call G_double_of (hr.mono (by decide)) (by rfl) g_double_of k_double_of b_double_of .nil pass0 (pa_cons (pv 2) pa_nil)))
      (pss_cons (ps_if (pt_cmpR op_isN (pv 3) pe_non (nomark _)) (pss_one (ps_ret pe_non)) pss_nil)
      (pss_one (ps_ret (pe_call G_eight_of (hr.mono (by decide)) (by rfl) g_eight_of k_eight_of b_eight_of .nil pass0 (pa_cons (pv 3) pa_nil)))))) pss_nil)
      (pss_cons (ps_if (pt_cmpR op_eq (pv 0) pe_int (nomark _)) (pss_one (ps_ret (pe_listRev rfl (by rfl) T.list (by rfl) T.reversed (pe_call G_eight_of (hr.mono (by decide)) (by rfl) g_eight_of k_eight_of b_eight_of .nil pass0 (pa_cons (pe_op op_shl (pv 2) (pe_op op_sub pe_int (pv 1))) pa_nil))))) pss_nil)
      (pss_one (ps_ret (pe_call G_eight_of (hr.mono (by decide)) (by rfl) g_eight_of k_eight_of b_eight_of .nil pass0 (pa_cons (pv 2) pa_nil))))))), ?_⟩
    unfold Md03.valueOf at k
    refine ⟨_, rfl, rfl, _, rfl, ?_⟩
    rw [show decide (V.int (d : Int) = V.int 1) = decide (d = 1) from nat_is d 1]
    by_cases h1 : d = 1
    · rw [decide_eq_true h1]
      rw [if_neg (by omega), if_pos h1, withSign_sgn hl hm1] at k
      exact iteT ⟨_, rfl, _, rfl, _, m, rfl, hm1, hm64, _, rfl, fun p hp => k _ _ (Same.new hp) ⟨p, rfl, upd_same, hp⟩⟩
    rw [decide_eq_false h1]
    refine iteF ⟨_, rfl, rfl, _, rfl, ?_⟩
    have low : (d = 0 ∨ (d = 2 ∧ m = 64)) → ∀ (p : Addr), H p = none → Q (.ref p) (upd H p (.lst (cV (Md03.bytesOf 8 (Md03.mod 64 (Md03.value l : Int)))))) := fun hd p hp => by
      refine k _ _ (Same.new hp) ?_
      rw [bytes_nat]
      by_cases h0 : d = 0
      · rw [if_pos h0]
        exact ⟨p, rfl, upd_same, hp⟩
      · rw [if_neg h0, if_neg h1, if_pos (by omega), if_pos (by omega)]
        exact ⟨p, rfl, upd_same, hp⟩
    have tail : ¬ (d = 2 ∧ m = 32) → ∀ (e : L2.St), e = [some (.int (d : Int)), some (.int (m : Int)), some (.int (Md03.value l : Int)), none] →
      tSeq (tIfS (tTest (tOp rEq (tVar 0) (tC (.int 3)))) (tRet (tListRev K (tCall spEight [] E0 (tCons (tOp (rI CPow fun i j => .int (i * 2 ^ j.toNat)) (tVar 2) (tOp (rI0 fun i j => .int (i - j)) (tC (.int 64)) (tVar 1))) tNil)))) tNext) (tRet (tCall spEight [] E0 (tCons (tVar 2) tNil)))
        { nx := fun _ H' => Q .non H', rt := Q } e H := fun hn e he => by
      subst he
      refine ⟨_, rfl, rfl, _, rfl, ?_⟩
      rw [show decide (V.int (d : Int) = V.int 3) = decide (d = 3) from nat_is d 3]
      by_cases h3 : d = 3
      · rw [decide_eq_true h3]
        rw [if_neg (by omega), if_neg h1, if_neg (by omega)] at k
        have h8 : m % 8 = 0 ∧ 8 ≤ m := by omega
        have ej : ((64 : Int) - (m : Int)).toNat = 64 - m := by omega
        refine iteT ⟨_, rfl, _, rfl, _, _, rfl, rfl, _, _, rfl, rfl, ⟨by omega, by omega, ?_⟩, _, rfl, fun p hp => ?_⟩
        · show ((Md03.value l : Int)).natAbs < 2 ^ 64
          exact Nat.lt_of_lt_of_le hv (Nat.pow_le_pow_right (by decide) hm64)
        · have e1 : (Md03.value l : Int) * 2 ^ ((64 : Int) - (m : Int)).toNat = ((Md03.value l * 2 ^ (64 - m) : Nat) : Int) := by
            rw [ej, Int.natCast_mul, pow_cast]
          refine ⟨p, _, rfl, SqL.of upd_same, fun q hq => ?_⟩
          have sp := Same.new (o := .lst (cV (Md03.bytesOf 8 (Md03.mod 64 ((Md03.value l : Int) * 2 ^ ((64 : Int) - (m : Int)).toNat))))) hp
          refine k _ _ (sp.trans (Same.new hq)) ⟨q, rfl, ?_, sp.free hq⟩
          rw [upd_same, e1, bytes_nat, ← bytes_back hl h8.2 hm64 h8.1]
          unfold cV
          rw [List.map_reverse]
      · rw [decide_eq_false h3]
        refine iteF ⟨_, rfl, _, rfl, fun p hp => low ?_ p hp⟩
        omega
    rw [show decide (V.int (d : Int) = V.int 2) = decide (d = 2) from nat_is d 2]
    by_cases h2 : d = 2
    · rw [decide_eq_true h2]
      refine iteT ⟨_, rfl, rfl, _, rfl, ?_⟩
      rw [show decide (V.int (m : Int) = V.int 32) = decide (m = 32) from nat_is m 32]
      by_cases h3 : m = 32
      · rw [decide_eq_true h3]
        rw [if_neg (by omega), if_neg h1, if_pos h2, if_neg (by omega)] at k
        refine iteT ⟨_, rfl, _, rfl, (by rw [← h3]; exact hv), ?_⟩
        cases hs : Md03.double (Md03.value l) with
        | none =>
          rw [hs] at k
          exact ⟨_, rfl, rfl, _, rfl, iteT (k _ _ (Same.refl H) rfl)⟩
        | some x =>
          rw [hs] at k
          refine ⟨_, rfl, rfl, _, rfl, iteF ⟨_, rfl, _, rfl, fun p hp => k _ _ (Same.new hp) ⟨p, rfl, ?_, hp⟩⟩⟩
          rw [upd_same, bytes_nat]
      · rw [decide_eq_false h3]
        exact iteF (tail (fun q => h3 q.2) _ rfl)
    · rw [decide_eq_false h2]
      exact iteF (iteF (tail (fun q => h2 q.1) _ rfl))
/-- read_value -/
def spReadValue (C : Addr) : Sp := fun vs H Q _ => ∃ (s L : Addr) (st : Md03.Abs) (k : Nat) (n : Int), vs = [.ref s, .int (k : Int), .int n] ∧ StoreAt C H s L st ∧ Done C s L H (Md03.does st (.readValue k n)) Q
theorem sc_read_value : FnScope ["store", "kind", "width", "place", "told"] ["store", "kind", "width"] (defScope (top 26)) := ⟨rfl, rfl, rfl, by decide +kernel, rfl, by decide +kernel, by decide +kernel⟩
theorem next_len {st : Md03.Abs} {m : Nat} (h : st.has m = true) : (st.next m).length = m := by
  have h' : st.place + m ≤ st.bits.length := of_decide_eq_true h
  unfold Md03.Abs.next
  rw [List.length_take, List.length_drop]
  omega
theorem ok_readValue (D : Df K mg "read_value" (top 26)) (T : Txt K mg C CI) (h_may_be : HasD P w K mg base "may_be" 1 ["kind", "width"] spMay) (h_has_left : HasD P w K mg base "has_left" 1 ["store", "width"] (spLeft C)) (h_read_bits : HasD P w K mg base "read_bits" 1 ["store", "width"] (spRead C))
    (h_value_bytes : HasD P w K mg base "value_bytes" 2 ["kind", "width", "field"] spBytes) : HasD P w K mg base "read_value" 3 ["store", "kind", "width"] (spReadValue C) := by
  obtain ⟨f, fd, F, g⟩ := D.ex
  obtain ⟨f_may_be, fd_may_be, g_may_be, k_may_be, b_may_be, G_may_be⟩ := h_may_be.ex
  obtain ⟨f_has_left, fd_has_left, g_has_left, k_has_left, b_has_left, G_has_left⟩ := h_has_left.ex
  obtain ⟨f_read_bits, fd_read_bits, g_read_bits, k_read_bits, b_read_bits, G_read_bits⟩ := h_read_bits.ex
  obtain ⟨f_value_bytes, fd_value_bytes, g_value_bytes, k_value_bytes, b_value_bytes, G_value_bytes⟩ := h_value_bytes.ex
  refine ⟨f, fd, g, F.kp, F.binds (fun _ _ _ _ _ _ us hl => match us, hl with | [_, _, _], _ => rfl), F.ok sc_read_value (fun vs H Q E h => ?_) (fun cdv A outer s0 H vs Q E hr h => ?_)⟩
  · obtain ⟨s, L, st, d, n, rfl, _⟩ := h
    rfl
  · obtain ⟨s, L, st, d, n, rfl, S, k⟩ := h
    refine ⟨_, (pss_cons (ps_if (pt_not (pt_val (pe_call G_may_be (hr.mono (by decide)) (by rfl) g_may_be k_may_be b_may_be .nil pass0 (pa_cons (pv 1) (pa_cons (pv 2) pa_nil))))) (pss_one (ps_ret (pe_lst (pa_cons (pe_un un_neg pe_int) pa_nil)))) pss_nil)
      (pss_cons (ps_if (pt_not (pt_val (pe_call G_has_left (hr.mono (by decide)) (by rfl) g_has_left k_has_left b_has_left .nil pass0 (pa_cons (pv 0) (pa_cons (pv 2) pa_nil))))) (pss_one (ps_ret (pe_lst (pa_cons (pe_un un_neg pe_int) pa_nil)))) pss_nil)
      (pss_cons (ps_set (i := 3) sc_read_value.nd rfl (Or.inl rfl) (pe_fld (pv 0) rfl))
      (pss_cons (ps_set (i := 4) sc_read_value.nd rfl (Or.inl rfl) (pe_call G_value_bytes (hr.mono (by decide)) (by rfl) g_value_bytes k_value_bytes b_value_bytes .nil pass0 (pa_cons (pv 1) (pa_cons (pv 2) (pa_cons (pe_call G_read_bits (hr.mono (by decide)) (by rfl) g_read_bits k_read_bits b_read_bits .nil pass0 (pa_cons (pv 0) (pa_cons (pv 2) pa_nil))) pa_nil)))))
      (pss_cons (ps_if (pt_cmpR op_isN (pv 4) pe_non (nomark _)) (pss_cons (ps_fld (pv 0) (pv 3) rfl)
      (pss_one (ps_ret (pe_lst (pa_cons (pe_un un_neg pe_int) pa_nil))))) pss_nil)
      (pss_one (ps_ret (pe_op op_cat (pe_lst (pa_cons pe_int pa_nil)) (pv 4))))))))), ?_⟩
    refine ⟨_, rfl, _, rfl, d, n, rfl, _, rfl, ?_⟩
    unfold Md03.does at k
    dsimp only at k
    cases hg : Md03.valueGood d n with
    | false =>
      rw [if_pos hg] at k
      exact iteT ⟨_, rfl, by decide, fun p hp => k.new S (Kp.refl s L H) hp rfl⟩
    | true =>
      obtain ⟨m, rfl, hm1, hm64, _⟩ := good_cases hg
      rw [if_neg (by rw [hg]; decide), Int.toNat_natCast] at k
      refine iteF ⟨_, rfl, _, rfl, s, L, st, m, rfl, S, _, rfl, ?_⟩
      cases hh : st.has m with
      | false =>
        rw [if_pos hh] at k
        exact iteT ⟨_, rfl, by decide, fun p hp => k.new S (Kp.refl s L H) hp rfl⟩
      | true =>
        rw [if_neg (by rw [hh]; decide)] at k
        obtain ⟨⟨dx, h1⟩, h2⟩ := id S
        refine iteF ⟨_, rfl, s, C, dx, _, _, rfl, h1, T.clS, T.nP, stF_place _ _, ?_⟩
        refine ⟨_, rfl, _, rfl, _, rfl, _, rfl, s, L, st, m, rfl, S, hh, fun H1 S1 k1 => ?_⟩
        have kp1 : Kp s L H H1 := fun b o e n1 _ => k1 b o e n1
        refine ⟨d, m, st.next m, rfl, next_len hh, hg, fun H2 v s2 r2 => ?_⟩
        have S2 := S1.same s2
        have kp2 := kp1.trans (Kp.of s2)
        refine ⟨_, rfl, rfl, _, rfl, ?_⟩
        cases hv : Md03.valueOf d m (st.next m) with
        | none =>
          rw [hv] at r2 k
          have e : v = .non := r2
          subst e
          obtain ⟨⟨d2, q1⟩, q2⟩ := id S2
          refine iteT ⟨_, rfl, _, rfl, s, C, d2, _, rfl, q1, T.clS, T.nP, stF_len _ _, ?_⟩
          rw [stF_set]
          refine ⟨_, rfl, by decide, fun p hp => ?_⟩
          have S3 : StoreAt C (upd H2 s (.ins C d2 (stF L (st.place : Int)))) s L st := ⟨⟨d2, upd_same⟩, by rw [upd_ne S.ne.symm]; exact q2⟩
          exact k.new S3 (kp2.trans Kp.s) hp rfl
        | some b =>
          rw [hv] at r2 k
          obtain ⟨q, rfl, hq, hq1⟩ := r2
          refine iteF ⟨by decide, fun z hz => ?_⟩
          have nq : q ≠ z := ne_of_none hq hz
          have hb : (cV b).length = 8 := by
            rw [cV_len]
            unfold Md03.valueOf at hv
            by_cases c0 : d = 0
            · rw [if_pos c0] at hv
              cases hv
              exact bytesOf_len _ _
            rw [if_neg c0] at hv
            by_cases c1 : d = 1
            · rw [if_pos c1] at hv
              cases hv
              exact bytesOf_len _ _
            rw [if_neg c1] at hv
            by_cases c2 : d = 2
            · rw [if_pos c2] at hv
              split at hv
              · cases hv
                exact bytesOf_len _ _
              · cases e : Md03.double (Md03.value (st.next m)) with
                | none =>
                  rw [e] at hv
                  cases hv
                | some x =>
                  rw [e] at hv
                  cases hv
                  exact bytesOf_len _ _
            rw [if_neg c2] at hv
            have e := Option.some.inj hv
            rw [← e, List.length_map, List.length_range]
          refine ⟨_, rfl, z, q, _, _, rfl, rfl, upd_same, (by rw [upd_ne nq]; exact hq), ?_, fun p hp => ?_⟩
          · rw [hb]
            show 1 + 8 ≤ sizeLine
            decide
          · refine k.new (S2.same (Same.new hz)) (kp2.trans (Kp.of (Same.new hz))) hp ?_
            rw [cV_iV]
            rfl
end
end Pb

/-! ## PbW7 -/
namespace Pb
open PySem L2
section
variable {P : Program} {w : World} {K : PySem.W.Frag} {mg : Str → Option Value} {base : Heap} {C CI : Addr}
/-! ### init, seek, bytes -/
def spInit (C : Addr) : Sp := fun vs H Q _ => ∃ (s L : Addr) (st : Md03.Abs), vs = [.ref s] ∧ StoreAt C H s L st ∧ Done C s L H (Md03.does st .init) Q
theorem sc_init : FnScope ["store"] ["store"] (defScope (top 30)) := ⟨rfl, rfl, rfl, by decide +kernel, rfl, by decide +kernel, by decide +kernel⟩
theorem ok_init (D : Df K mg "init" (top 30)) (T : Txt K mg C CI) : HasD P w K mg base "init" 1 ["store"] (spInit C) := by
  obtain ⟨f, fd, F, g⟩ := D.ex
  refine ⟨f, fd, g, F.kp, F.binds (fun _ _ _ _ _ _ us hl => match us, hl with | [_], _ => rfl), F.ok sc_init (fun vs H Q E h => ?_) (fun cdv A outer s0 H vs Q E hr h => ?_)⟩
  · obtain ⟨s, L, st, rfl, _⟩ := h
    rfl
  · obtain ⟨s, L, st, rfl, S, k⟩ := h
    obtain ⟨⟨dx, h1⟩, h2⟩ := id S
    refine ⟨_, (pss_cons (ps_fld (pv 0) (pe_lst pa_nil) rfl)
      (pss_cons (ps_fld (pv 0) pe_int rfl)
      (pss_one (ps_ret (pe_lst (pa_cons pe_int pa_nil)))))), ?_⟩
    refine ⟨Nat.zero_le _, fun M hM => ?_⟩
    have nsM : s ≠ M := ne_of_none h1 hM
    refine ⟨_, rfl, s, C, dx, _, rfl, (by rw [upd_ne nsM]; exact h1), T.clS, T.nB, stF_len _ _, ?_⟩
    rw [stF_new]
    refine ⟨_, rfl, s, C, dx, _, rfl, upd_same, T.clS, T.nP, stF_len _ _, ?_⟩
    rw [stF_set, upd_upd]
    refine ⟨by decide, fun p hp => ?_⟩
    have hpM : p ≠ M := fun e => by
      rw [e, upd_ne nsM.symm, upd_same] at hp
      cases hp
    have hps : p ≠ s := fun e => by
      rw [e, upd_same] at hp
      cases hp
    have hpH : H p = none := by
      rw [upd_ne hps, upd_ne hpM] at hp
      exact hp
    refine k _ p M (by rw [upd_same] <;> rfl) ⟨⟨dx, ?_⟩, ?_⟩ (.inr hM) hpH hpM ?_
    · rw [upd_ne hps.symm, upd_same]
      rfl
    · rw [upd_ne hpM.symm, upd_ne nsM.symm, upd_same]
      rfl
    · intro b o e n1 n2
      rw [upd_ne (ne_of_none e hpH), upd_ne n1, upd_ne (ne_of_none e hM)]
      exact e
def spSeek (C : Addr) : Sp := fun vs H Q _ => ∃ (s L : Addr) (st : Md03.Abs) (n : Int), vs = [.ref s, .int n] ∧ StoreAt C H s L st ∧ Done C s L H (Md03.does st (.seek n)) Q
theorem sc_seek : FnScope ["store", "bit"] ["store", "bit"] (defScope (top 36)) := ⟨rfl, rfl, rfl, by decide +kernel, rfl, by decide +kernel, by decide +kernel⟩
theorem ok_seek (D : Df K mg "seek" (top 36)) (T : Txt K mg C CI) : HasD P w K mg base "seek" 1 ["store", "bit"] (spSeek C) := by
  obtain ⟨f, fd, F, g⟩ := D.ex
  refine ⟨f, fd, g, F.kp, F.binds (fun _ _ _ _ _ _ us hl => match us, hl with | [_, _], _ => rfl), F.ok sc_seek (fun vs H Q E h => ?_) (fun cdv A outer s0 H vs Q E hr h => ?_)⟩
  · obtain ⟨s, L, st, n, rfl, _⟩ := h
    rfl
  · obtain ⟨s, L, st, n, rfl, S, k⟩ := h
    obtain ⟨⟨dx, h1⟩, h2⟩ := id S
    refine ⟨_, (pss_cons (ps_if (PW.pt (pw_or (pt_cmpR op_lt (pv 1) pe_int (nomark _)) (pw_or1 (pt_cmpR op_gt (pv 1) (pe_callB call_len_seq (by rfl) T.len PySem.boot_len (pa_cons (pe_fld (pv 0) rfl) pa_nil)) (nomark _))))) (pss_one (ps_ret (pe_lst (pa_cons (pe_un un_neg pe_int) pa_nil)))) pss_nil)
      (pss_cons (ps_fld (pv 0) (pv 1) rfl)
      (pss_one (ps_ret (pe_lst (pa_cons pe_int pa_nil)))))), ?_⟩
    unfold Md03.does at k
    dsimp only at k
    refine ⟨_, rfl, _, _, rfl, rfl, _, rfl, ?_⟩
    by_cases c1 : n < 0
    · rw [decide_eq_true c1]
      rw [if_neg (by omega)] at k
      exact ⟨_, rfl, by decide, fun p hp => k.new S (Kp.refl s L H) hp rfl⟩
    rw [decide_eq_false c1]
    refine iteF ⟨_, rfl, _, rfl, s, C, dx, _, _, rfl, h1, T.clS, T.nB, stF_bits _ _, L, _, rfl, .inl (SqL.of h2), _, _, rfl, rfl, _, rfl, ?_⟩
    rw [bV_len]
    by_cases c2 : (st.bits.length : Int) < n
    · rw [decide_eq_true c2]
      rw [if_neg (by omega)] at k
      exact ⟨_, rfl, by decide, fun p hp => k.new S (Kp.refl s L H) hp rfl⟩
    rw [decide_eq_false c2]
    rw [if_pos (by omega)] at k
    refine iteF ⟨_, rfl, _, rfl, s, C, dx, _, rfl, h1, T.clS, T.nP, stF_len _ _, ?_⟩
    rw [stF_set]
    refine ⟨by decide, fun p hp => ?_⟩
    refine k.new (H1 := upd H s (.ins C dx (stF L n))) ⟨⟨dx, ?_⟩, ?_⟩ Kp.s hp rfl
    · rw [upd_same]
      show _ = some (HO.ins C dx (stF L ((n.toNat : Nat) : Int)))
      rw [Int.toNat_of_nonneg (by omega)]
    · rw [upd_ne S.ne.symm]
      exact h2
def spTell (C : Addr) : Sp := fun vs H Q _ => ∃ (s L : Addr) (st : Md03.Abs) (n : Nat), vs = [.ref s, .int (n : Int)] ∧ StoreAt C H s L st ∧ st.bits.length ≤ 32768 ∧ Done C s L H (Md03.does st (.bytes n)) Q
theorem sc_tell_bytes : FnScope ["store", "cap", "count", "told", "place", "byte", "bit"] ["store", "cap"] (defScope (top 37)) := ⟨rfl, rfl, rfl, by decide +kernel, rfl, by decide +kernel, by decide +kernel⟩
theorem ok_tell (D : Df K mg "tell_bytes" (top 37)) (T : Txt K mg C CI) : HasD P w K mg base "tell_bytes" 1 ["store", "cap"] (spTell C) := by
  obtain ⟨f, fd, F, g⟩ := D.ex
  refine ⟨f, fd, g, F.kp, F.binds (fun _ _ _ _ _ _ us hl => match us, hl with | [_, _], _ => rfl), F.ok sc_tell_bytes (fun vs H Q E h => ?_) (fun cdv A outer s0 H vs Q E hr h => ?_)⟩
  · obtain ⟨s, L, st, n, rfl, _⟩ := h
    rfl
  · obtain ⟨s, L, st, n, rfl, S, hlim, k⟩ := h
    obtain ⟨⟨dx, h1⟩, h2⟩ := id S
    refine ⟨_, (pss_cons (ps_set (i := 2) sc_tell_bytes.nd rfl (Or.inl rfl) (pe_op op_fdiv (pe_op op_add (pe_callB call_len_seq (by rfl) T.len PySem.boot_len (pa_cons (pe_fld (pv 0) rfl) pa_nil)) pe_int) pe_int))
      (pss_cons (ps_if (pt_cmpR op_gt (pv 2) (pv 1) (nomark _)) (pss_one (ps_ret (pe_lst (pa_cons (pe_un un_neg pe_int) pa_nil)))) pss_nil)
      (pss_cons (ps_set (i := 3) sc_tell_bytes.nd rfl (Or.inl rfl) (pe_lst (pa_cons (pv 2) pa_nil)))
      (pss_cons (ps_for PassesOwn.never rfl (pi_range1 (by rfl) T.range (pa_cons (pv 2) pa_nil)) (pg_name (i := 4) sc_tell_bytes.nd rfl (Or.inl rfl)) (pss_cons (ps_set (i := 5) sc_tell_bytes.nd rfl (Or.inl rfl) pe_int)
      (pss_cons (ps_for PassesOwn.never rfl (pi_range2 (by rfl) T.range (pa_cons (pe_op op_mul pe_int (pv 4)) (pa_cons (pe_op op_add (pe_op op_mul pe_int (pv 4)) pe_int) pa_nil))) (pg_name (i := 6) sc_tell_bytes.nd rfl (Or.inl rfl)) (pss_cons (ps_set (i := 5) sc_tell_bytes.nd rfl (Or.inl rfl) (pe_op op_mul pe_int (pv 5)))
      (pss_one (ps_if (pt_cmpR op_lt (pv 6) (pe_callB call_len_seq (by rfl) T.len PySem.boot_len (pa_cons (pe_fld (pv 0) rfl) pa_nil)) (nomark _)) (pss_one (ps_set (i := 5) sc_tell_bytes.nd rfl (Or.inl rfl) (pe_op op_add (pv 5) (pe_ix ix_list (pe_fld (pv 0) rfl) (pv 6) (fun _ _ => rfl))))) pss_nil))))
      (pss_one (ps_expr (pe_bm PySem.F.plainAttrs_list PySem.F.slot_list_append PySem.F.type_list_append mt_append (pv 3) (pa_cons (pv 5) pa_nil)))))))
      (pss_one (ps_ret (pv 3))))))), ?_⟩
    unfold Md03.does at k
    dsimp only at k
    have ec : ((bV st.bits).length + 7 : Int) / 8 = ((Md03.byteCount st : Nat) : Int) := by
      unfold Md03.byteCount
      rw [bV_len]
      omega
    have hc : Md03.byteCount st ≤ 4096 := by
      unfold Md03.byteCount
      omega
    generalize Md03.byteCount st = c at k ec hc
    refine ⟨_, rfl, s, C, dx, _, _, rfl, h1, T.clS, T.nB, stF_bits _ _, L, _, rfl, .inl (SqL.of h2), _, _, rfl, rfl, _, _, rfl, rfl, ⟨by decide, by decide⟩, ?_⟩
    refine ⟨_, cg ec, _, rfl, _, _, rfl, rfl, _, rfl, ?_⟩
    by_cases c1 : (n : Int) < (c : Int)
    · rw [decide_eq_true c1]
      rw [if_neg (by omega)] at k
      exact iteT ⟨_, rfl, by decide, fun p hp => k.new S (Kp.refl s L H) hp rfl⟩
    rw [decide_eq_false c1]
    rw [if_pos (by omega)] at k
    refine iteF ⟨_, cg ec, (by show 1 ≤ sizeLine; decide), fun tp htp => ?_⟩
    have hl0 : (Md03.bytes c st.bits).length = c := bytes_len _ _
    refine ⟨_, cg ec, _, rfl, by omega, by omega, for_range (lo := 0) (n := ((c : Nat) : Int).toNat)
      (fun i σ H' => ∃ (v1 v2 v3 : Option V), σ = [some (.ref s), some (.int (n : Int)), some (.int (((bV st.bits).length + 7 : Int) / 8)), some (.ref tp), v1, v2, v3] ∧ H' = upd H tp (.lst (iV ((c : Int) :: ((Md03.bytes c st.bits).take i).map fun (b : UInt8) => (b.toNat : Int)))))
      ⟨none, none, none, rfl, ?_⟩ ?_ ?_⟩
    · rfl
    · rintro i σ H' hi ⟨v1, v2, v3, rfl, rfl⟩
      rw [Int.toNat_natCast] at hi
      have S1 : StoreAt C (upd H tp (.lst (iV ((c : Int) :: ((Md03.bytes c st.bits).take i).map fun (b : UInt8) => (b.toNat : Int))))) s L st := S.same (Same.new htp)
      have e8 : ((8 * ((0 : Int) + (i : Int)) + 8) - (8 * ((0 : Int) + (i : Int)))).toNat = 8 := by omega
      refine ⟨_, rfl, ?_⟩
      refine ⟨_, _, rfl, rfl, .inl (by decide), _, rfl, _, _, rfl, rfl, .inl (by decide), _, _, rfl, rfl, _, _, rfl, ⟨by omega, by omega, by omega, by omega⟩, ?_⟩
      rw [e8]
      refine for_range (lo := 8 * ((0 : Int) + (i : Int))) (n := 8)
        (fun j σ H' => ∃ v : Option V, σ = [some (.ref s), some (.int (n : Int)), some (.int (((bV st.bits).length + 7 : Int) / 8)), some (.ref tp), some (.int ((0 : Int) + (i : Int))), some (.int ((Md03.value (oct st.bits (8 * i) j) : Nat) : Int)), v] ∧
          H' = upd H tp (.lst (iV ((c : Int) :: ((Md03.bytes c st.bits).take i).map fun (b : UInt8) => (b.toNat : Int)))))
        ⟨v3, rfl, rfl⟩ ?_ ?_
      · rintro j σ H' hj ⟨v, rfl, rfl⟩
        obtain ⟨⟨d1, q1⟩, q2⟩ := id S1
        refine ⟨_, rfl, _, _, rfl, rfl, .inl (by decide), ?_⟩
        refine ⟨_, rfl, _, rfl, s, C, d1, _, _, rfl, q1, T.clS, T.nB, stF_bits _ _, L, _, rfl, .inl (SqL.of q2), _, _, rfl, rfl, _, rfl, ?_⟩
        have ep : 8 * ((0 : Int) + (i : Int)) + (j : Int) = ((8 * i + j : Nat) : Int) := by omega
        by_cases cb : 8 * i + j < st.bits.length
        · have e1 : decide (8 * ((0 : Int) + (i : Int)) + (j : Int) < ((bV st.bits).length : Int)) = true := decide_eq_true (by rw [bV_len]; omega)
          rw [e1]
          have hb := List.getElem?_eq_getElem cb
          refine iteT ⟨_, rfl, _, rfl, s, C, d1, _, _, rfl, q1, T.clS, T.nB, stF_bits _ _, _, cg ep, L, _, _, _, rfl, rfl, SqL.of q2, atI_nat (bV_at hb), _, _, rfl, rfl, ?_⟩
          refine ⟨some (V.int (8 * ((0 : Int) + (i : Int)) + (j : Int))), ?_, rfl⟩
          have e2 : 2 * ((Md03.value (oct st.bits (8 * i) j) : Nat) : Int) + ((st.bits[8 * i + j].toNat : Nat) : Int) = ((Md03.value (oct st.bits (8 * i) (j + 1)) : Nat) : Int) := by
            rw [oct_succ, value_snoc, hb, Int.natCast_add, Int.natCast_mul]
            rfl
          exact congrArg (fun z => [some (V.ref s), some (V.int (n : Int)), some (V.int (((bV st.bits).length + 7 : Int) / 8)), some (V.ref tp), some (V.int ((0 : Int) + (i : Int))), some (V.int z), some (V.int (8 * ((0 : Int) + (i : Int)) + (j : Int)))]) e2
        · have e1 : decide (8 * ((0 : Int) + (i : Int)) + (j : Int) < ((bV st.bits).length : Int)) = false := decide_eq_false (by rw [bV_len]; omega)
          rw [e1]
          refine iteF ⟨some (V.int (8 * ((0 : Int) + (i : Int)) + (j : Int))), ?_, rfl⟩
          have e2 : 2 * ((Md03.value (oct st.bits (8 * i) j) : Nat) : Int) = ((Md03.value (oct st.bits (8 * i) (j + 1)) : Nat) : Int) := by
            rw [oct_succ, value_snoc, List.getElem?_eq_none (by omega), Int.natCast_add, Int.natCast_mul]
            show _ = _ + (0 : Int)
            rw [Int.add_zero]
            rfl
          exact congrArg (fun z => [some (V.ref s), some (V.int (n : Int)), some (V.int (((bV st.bits).length + 7 : Int) / 8)), some (V.ref tp), some (V.int ((0 : Int) + (i : Int))), some (V.int z), some (V.int (8 * ((0 : Int) + (i : Int)) + (j : Int)))]) e2
      · rintro σ H' ⟨v, rfl, rfl⟩
        refine ⟨_, rfl, .inl ⟨rfl, _, SqL.of upd_same⟩, _, rfl, tp, _, _, rfl, rfl, upd_same, ?_, ?_⟩
        · rw [iV_len, List.length_cons, List.length_map, List.length_take, hl0]
          exact Nat.lt_of_le_of_lt (show min i c + 1 ≤ 4097 by omega) (by decide)
        · refine ⟨some (V.int ((0 : Int) + (i : Int))), some (V.int ((Md03.value (oct st.bits (8 * i) 8) : Nat) : Int)), v, rfl, ?_⟩
          rw [upd_upd]
          congr 2
          have hg := bytes_get c st.bits i hi
          rw [take_more hg, List.map_append, iV_cons, iV_cons, iV_app, ← oct_eq, List.cons_append]
          congr 2
          show [V.int _] = [V.int (((UInt8.ofNat (Md03.value (oct st.bits (8 * i) 8))).toNat : Nat) : Int)]
          rw [byte_nat]
          have hv := value_lt (oct st.bits (8 * i) 8)
          have ho : (oct st.bits (8 * i) 8).length = 8 := by
            unfold oct
            rw [List.length_map, List.length_range]
          rw [ho] at hv
          exact hv
    · rintro σ H' ⟨v1, v2, v3, rfl, rfl⟩
      rw [Int.toNat_natCast, List.take_of_length_le (by rw [hl0]; exact Nat.le_refl _)]
      exact ⟨_, rfl, k.new S (Kp.refl s L H) htp rfl⟩
end
end Pb

/-! ## PbW8 -/
namespace Pb
open PySem L2
/-- the tables of the top -/
structure Tab (K : PySem.W.Frag) (mg : Str → Option Value) (aF aW aR : Addr) (ts : List Addr) (tk : Tok) : Prop where
  gFIELDS : mg "FIELDS" = some (.ref aF)
  gHEAD_WIDTH : mg "HEAD_WIDTH" = some (.int 51 tk)
  gWHOLE_NUMBERS : mg "WHOLE_NUMBERS" = some (.ref aW)
  gROWS : mg "ROWS" = some (.ref aR)
  fields : ∀ H, SqT K H aF (ts.map V.ref)
  field : All2 (fun (t : Addr) (x : Nat × Nat) => ∀ H, SqT K H t [V.int (x.1 : Int), V.int (x.2 : Int)]) ts Md03.fields
  wholes : ∀ H, SqT K H aW (iV [0, 0, 0, 0, 2, 2, 0, 0, 1, 0, 1])
  rows : ∀ H, SqT K H aR (iV [0, 0, 2, 1, 1, 0, 1, 0, 0, 0, 0])
/-! ### headers -/
def hw (i : Nat) : Nat := ((Md03.fields.take i).map (·.2)).sum
theorem fields_ok {i : Nat} {x : Nat × Nat} (h : Md03.fields[i]? = some x) : i < 8 ∧ hw (i + 1) = hw i + x.2 ∧ hw i + x.2 ≤ 51 ∧ x.2 ≤ 16 ∧ x.1 ≤ 53 := by
  have hi : i < 8 := (List.getElem?_eq_some_iff.mp h).1
  have all : ∀ i, i < 8 → (match Md03.fields[i]? with
    | some x => decide (hw (i + 1) = hw i + x.2) && (decide (hw i + x.2 ≤ 51) && (decide (x.2 ≤ 16) && decide (x.1 ≤ 53)))
    | none => true) = true := by decide
  have q := all i hi
  rw [h] at q
  simp only [Bool.and_eq_true, decide_eq_true_eq] at q
  exact ⟨hi, q.1, q.2.1, q.2.2.1, q.2.2.2⟩
theorem hw_8 : hw 8 = 51 := rfl
def hbits (b : Md03.Bytes) (i : Nat) : List Bool := (Md03.fields.take i).flatMap fun x => Md03.bitsOf x.2 (Md03.word b / 2 ^ x.1)
theorem hbits_len (b : Md03.Bytes) (i : Nat) : (hbits b i).length = hw i := by
  unfold hbits hw
  rw [List.length_flatMap]
  congr 1
  apply List.map_congr_left
  intro x _
  exact bitsOf_len _ _
theorem hbits_succ (b : Md03.Bytes) {i : Nat} {x : Nat × Nat} (h : Md03.fields[i]? = some x) : hbits b (i + 1) = hbits b i ++ Md03.bitsOf x.2 (Md03.word b / 2 ^ x.1) := by
  unfold hbits
  rw [take_more h, List.flatMap_append]
  simp
section
variable {P : Program} {w : World} {K : PySem.W.Frag} {mg : Str → Option Value} {base : Heap} {C CI aF aW aR : Addr} {ts : List Addr} {tk : Tok}
def spHead (K : PySem.W.Frag) (C : Addr) : Sp := fun vs H Q _ => ∃ (s L : Addr) (st : Md03.Abs) (a : Addr) (b : Md03.Bytes), vs = [.ref s, .ref a] ∧ StoreAt C H s L st ∧ SqL K H a (cV b) ∧ Done C s L H (Md03.does st (.head b)) Q
theorem sc_head : FnScope ["store", "eight", "number", "field"] ["store", "eight"] (defScope (top 34)) := ⟨rfl, rfl, rfl, by decide +kernel, rfl, by decide +kernel, by decide +kernel⟩
theorem ok_head (D : Df K mg "head" (top 34)) (T : Txt K mg C CI) (B : Tab K mg aF aW aR ts tk) (h_has_room : HasD P w K mg base "has_room" 1 ["store", "width"] (spRoom C)) (h_number_of : HasD P w K mg base "number_of" 1 ["eight"] (spNum K)) (h_put_bits : HasD P w K mg base "put_bits" 1 ["store", "number", "width"] (spPut C)) :
    HasD P w K mg base "head" 2 ["store", "eight"] (spHead K C) := by
  obtain ⟨f, fd, F, g⟩ := D.ex
  obtain ⟨f_has_room, fd_has_room, g_has_room, k_has_room, b_has_room, G_has_room⟩ := h_has_room.ex
  obtain ⟨f_number_of, fd_number_of, g_number_of, k_number_of, b_number_of, G_number_of⟩ := h_number_of.ex
  obtain ⟨f_put_bits, fd_put_bits, g_put_bits, k_put_bits, b_put_bits, G_put_bits⟩ := h_put_bits.ex
  refine ⟨f, fd, g, F.kp, F.binds (fun _ _ _ _ _ _ us hl => match us, hl with | [_, _], _ => rfl), F.ok sc_head (fun vs H Q E h => ?_) (fun cdv A outer s0 H vs Q E hr h => ?_)⟩
  · obtain ⟨s, L, st, a, b, rfl, _⟩ := h
    rfl
  · obtain ⟨s, L, st, a, b, rfl, S, hS, k⟩ := h
    refine ⟨_, (pss_cons (ps_if (pt_not (pt_val (pe_call G_has_room (hr.mono (by decide)) (by rfl) g_has_room k_has_room b_has_room .nil pass0 (pa_cons (pv 0) (pa_cons (pe_glob (v := .int 51) (by rfl) B.gHEAD_WIDTH ⟨_, rfl⟩) pa_nil))))) (pss_one (ps_ret (pe_lst (pa_cons (pe_un un_neg pe_int) pa_nil)))) pss_nil)
      (pss_cons (ps_set (i := 2) sc_head.nd rfl (Or.inl rfl) (pe_call G_number_of (hr.mono (by decide)) (by rfl) g_number_of k_number_of b_number_of .nil pass0 (pa_cons (pv 1) pa_nil)))
      (pss_cons (ps_for PassesOwn.never rfl (pi_tup (pe_glob (v := .ref aF) (by rfl) B.gFIELDS rfl)) (pg_name (i := 3) sc_head.nd rfl (Or.inl rfl)) (pss_one (ps_expr (pe_call G_put_bits (hr.mono (by decide)) (by rfl) g_put_bits k_put_bits b_put_bits .nil pass0 (pa_cons (pv 0) (pa_cons (pe_op op_shr (pv 2) (pe_ix ix_tup (pv 3) pe_int (fun _ _ => rfl))) (pa_cons (pe_ix ix_tup (pv 3) pe_int (fun _ _ => rfl)) pa_nil)))))))
      (pss_one (ps_ret (pe_lst (pa_cons pe_int pa_nil))))))), ?_⟩
    have hb8 : Md03.headBits b = hbits b 8 := rfl
    unfold Md03.does at k
    dsimp only at k
    unfold Md03.adds Md03.MOST at k
    rw [hb8, hbits_len, hw_8] at k
    refine ⟨_, rfl, s, L, st, 51, rfl, S, _, rfl, ?_⟩
    by_cases hr : st.bits.length + 51 ≤ 32768
    · rw [decide_eq_true hr]
      rw [if_pos hr] at k
      refine iteF ⟨_, rfl, a, b, rfl, hS, ?_⟩
      refine ⟨aF, rfl, ⟨_, B.fields H⟩, for_tup (K := K) (a := aF) (xs := ts.map V.ref)
        (fun i σ H' => ∃ v : Option V, σ = [some (.ref s), some (.ref a), some (.int (Md03.word b : Int)), v] ∧ H' = upd H L (.lst (bV (st.bits ++ hbits b i))))
        ⟨none, rfl, ?_⟩ (fun i σ H' _ _ => B.fields H') ?_ ?_⟩
      · show H = upd H L (.lst (bV (st.bits ++ [])))
        rw [List.append_nil]
        funext q
        by_cases hq : q = L
        · rw [hq, upd_same]
          exact S.lst
        · rw [upd_ne hq]
      · rintro i x σ H' hx ⟨v, rfl, rfl⟩
        obtain ⟨t, ht, rfl⟩ := refs_get hx
        obtain ⟨x, hx2, hq⟩ := B.field.get ht
        obtain ⟨hi, e1, e2, e3, e4⟩ := fields_ok hx2
        refine ⟨_, rfl, _, rfl, _, rfl, t, _, 0, _, rfl, rfl, hq _, rfl, _, _, rfl, rfl, Int.natCast_nonneg _, _, rfl, t, _, 1, _, rfl, rfl, hq _, rfl, ?_⟩
        refine ⟨s, L, _, _, x.2, rfl, S.put (st.bits ++ hbits b i), by omega, ?_, ?_⟩
        · show (st.bits ++ hbits b i).length + x.2 ≤ 32768
          rw [List.length_append, hbits_len]
          omega
        · refine ⟨some (V.ref t), rfl, ?_⟩
          rw [upd_upd]
          congr 3
          have e5 : (Md03.word b : Int) / 2 ^ ((x.1 : Int)).toNat = ((Md03.word b / 2 ^ x.1 : Nat) : Int) := by
            rw [Int.natCast_ediv, Int.toNat_natCast, pow_cast]
          show st.bits ++ hbits b i ++ Md03.bitsOf x.2 (Md03.mod x.2 ((Md03.word b : Int) / 2 ^ ((x.1 : Int)).toNat)) = _
          rw [e5, bitsOf_modn, hbits_succ b hx2, List.append_assoc]
      · rintro σ H' ⟨v, rfl, rfl⟩
        have e8 : (ts.map V.ref).length = 8 := by
          rw [List.length_map, B.field.len]
          rfl
        rw [e8]
        exact ⟨by decide, fun p hp => k.new (S.put (st.bits ++ hbits b 8)) Kp.L hp rfl⟩
    · rw [decide_eq_false hr]
      rw [if_neg hr] at k
      exact iteT ⟨_, rfl, by decide, fun p hp => k.new S (Kp.refl s L H) hp rfl⟩
def spReadHead (C : Addr) : Sp := fun vs H Q _ => ∃ (s L : Addr) (st : Md03.Abs), vs = [.ref s] ∧ StoreAt C H s L st ∧ Done C s L H (Md03.does st .readHead) Q
theorem sc_read_head : FnScope ["store", "number", "field"] ["store"] (defScope (top 35)) := ⟨rfl, rfl, rfl, by decide +kernel, rfl, by decide +kernel, by decide +kernel⟩
theorem ok_readHead (D : Df K mg "read_head" (top 35)) (T : Txt K mg C CI) (B : Tab K mg aF aW aR ts tk) (h_has_left : HasD P w K mg base "has_left" 1 ["store", "width"] (spLeft C)) (h_read_bits : HasD P w K mg base "read_bits" 1 ["store", "width"] (spRead C)) (h_eight_of : HasD P w K mg base "eight_of" 1 ["number"] spEight) :
    HasD P w K mg base "read_head" 2 ["store"] (spReadHead C) := by
  obtain ⟨f, fd, F, g⟩ := D.ex
  obtain ⟨f_has_left, fd_has_left, g_has_left, k_has_left, b_has_left, G_has_left⟩ := h_has_left.ex
  obtain ⟨f_read_bits, fd_read_bits, g_read_bits, k_read_bits, b_read_bits, G_read_bits⟩ := h_read_bits.ex
  obtain ⟨f_eight_of, fd_eight_of, g_eight_of, k_eight_of, b_eight_of, G_eight_of⟩ := h_eight_of.ex
  refine ⟨f, fd, g, F.kp, F.binds (fun _ _ _ _ _ _ us hl => match us, hl with | [_], _ => rfl), F.ok sc_read_head (fun vs H Q E h => ?_) (fun cdv A outer s0 H vs Q E hr h => ?_)⟩
  · obtain ⟨s, L, st, rfl, _⟩ := h
    rfl
  · obtain ⟨s, L, st, rfl, S, k⟩ := h
    refine ⟨_, (pss_cons (ps_if (pt_not (pt_val (pe_call G_has_left (hr.mono (by decide)) (by rfl) g_has_left k_has_left b_has_left .nil pass0 (pa_cons (pv 0) (pa_cons (pe_glob (v := .int 51) (by rfl) B.gHEAD_WIDTH ⟨_, rfl⟩) pa_nil))))) (pss_one (ps_ret (pe_lst (pa_cons (pe_un un_neg pe_int) pa_nil)))) pss_nil)
      (pss_cons (ps_set (i := 1) sc_read_head.nd rfl (Or.inl rfl) pe_int)
      (pss_cons (ps_for PassesOwn.never rfl (pi_tup (pe_glob (v := .ref aF) (by rfl) B.gFIELDS rfl)) (pg_name (i := 2) sc_read_head.nd rfl (Or.inl rfl)) (pss_one (ps_set (i := 1) sc_read_head.nd rfl (Or.inl rfl) (pe_op op_add (pv 1) (pe_op op_shl (pe_call G_read_bits (hr.mono (by decide)) (by rfl) g_read_bits k_read_bits b_read_bits .nil pass0 (pa_cons (pv 0) (pa_cons (pe_ix ix_tup (pv 2) pe_int (fun _ _ => rfl)) pa_nil))) (pe_ix ix_tup (pv 2) pe_int (fun _ _ => rfl)))))))
      (pss_one (ps_ret (pe_op op_cat (pe_lst (pa_cons pe_int pa_nil)) (pe_call G_eight_of (hr.mono (by decide)) (by rfl) g_eight_of k_eight_of b_eight_of .nil pass0 (pa_cons (pv 1) pa_nil)))))))), ?_⟩
    unfold Md03.does at k
    dsimp only at k
    refine ⟨_, rfl, s, L, st, 51, rfl, S, _, rfl, ?_⟩
    cases hh : st.has 51 with
    | false =>
      rw [if_pos (show st.has Md03.HEAD = false from hh)] at k
      exact iteT ⟨_, rfl, by decide, fun p hp => k.new S (Kp.refl s L H) hp rfl⟩
    | true =>
      rw [if_neg (show ¬ st.has Md03.HEAD = false by rw [show st.has Md03.HEAD = true from hh]; decide)] at k
      have hh' : st.place + 51 ≤ st.bits.length := of_decide_eq_true hh
      refine iteF ?_
      refine ⟨aF, rfl, ⟨_, B.fields H⟩, for_tup (K := K) (a := aF) (xs := ts.map V.ref)
        (fun i σ H' => ∃ v : Option V, σ = [some (.ref s), some (.int (Md03.headFrom (Md03.fields.take i) (st.next 51) : Int)), v] ∧ StoreAt C H' s L { st with place := st.place + hw i } ∧ Kp s L H H')
        ⟨none, rfl, S, Kp.refl s L H⟩ (fun i σ H' _ _ => B.fields H') ?_ ?_⟩
      · rintro i x σ H' hx ⟨v, rfl, S1, kp⟩
        obtain ⟨t, ht, rfl⟩ := refs_get hx
        obtain ⟨x, hx2, hq⟩ := B.field.get ht
        obtain ⟨hi, e1, e2, e3, e4⟩ := fields_ok hx2
        have hnext : ({ st with place := st.place + hw i } : Md03.Abs).next x.2 = ((st.next 51).drop (hw i)).take x.2 := by
          unfold Md03.Abs.next
          show (st.bits.drop (st.place + hw i)).take x.2 = (((st.bits.drop st.place).take 51).drop (hw i)).take x.2
          rw [List.drop_take, List.drop_drop, List.take_take]
          congr 1
          omega
        refine ⟨_, rfl, _, rfl, _, rfl, t, _, 1, _, rfl, rfl, hq _, rfl, ?_⟩
        refine ⟨s, L, _, x.2, rfl, S1, decide_eq_true ?_, fun H1 S2 k1 => ?_⟩
        · show st.place + hw i + x.2 ≤ st.bits.length
          omega
        · rw [hnext]
          have hv := value_lt (((st.next 51).drop (hw i)).take x.2)
          have hv2 : Md03.value (((st.next 51).drop (hw i)).take x.2) < 2 ^ 64 := by
            refine Nat.lt_of_lt_of_le hv (Nat.pow_le_pow_right (by decide) ?_)
            rw [List.length_take]
            omega
          refine ⟨_, rfl, t, _, 0, _, rfl, rfl, hq _, rfl, _, _, rfl, rfl, ⟨Int.natCast_nonneg _, by show (x.1 : Int) ≤ 1000000; omega, hv2⟩, _, _, rfl, rfl, ?_⟩
          refine ⟨some (V.ref t), ?_, ?_, fun c o e n1 n2 => k1 c o (kp c o e n1 n2) n1⟩
          · have e5 : (Md03.headFrom (Md03.fields.take i) (st.next 51) : Int) + (Md03.value (((st.next 51).drop (hw i)).take x.2) : Int) * 2 ^ ((x.1 : Int)).toNat = (Md03.headFrom (Md03.fields.take (i + 1)) (st.next 51) : Int) := by
              rw [take_more hx2, headFrom_snoc, Int.natCast_add, Int.natCast_mul, Int.toNat_natCast, pow_cast]
              rfl
            exact congrArg (fun z => [some (V.ref s), some (V.int z), some (V.ref t)]) e5
          · rw [e1, ← Nat.add_assoc]
            exact S2
      · rintro σ H' ⟨v, rfl, S1, kp⟩
        have e8 : (ts.map V.ref).length = 8 := by
          rw [List.length_map, B.field.len]
          rfl
        rw [e8] at S1 ⊢
        refine ⟨by decide, fun z hz => ⟨_, rfl, _, rfl, fun q hq => ?_⟩⟩
        have nzq : z ≠ q := fun e => by
          rw [← e, upd_same] at hq
          cases hq
        refine ⟨z, q, _, _, rfl, rfl, (by rw [upd_ne nzq]; exact upd_same), upd_same, ?_, fun p hp => ?_⟩
        · rw [cV_len, bytesOf_len]
          show 1 + 8 ≤ sizeLine
          decide
        · have s12 := (Same.new (o := .lst [V.int 0]) hz).trans (Same.new (o := .lst (cV (Md03.bytesOf 8 (Md03.mod 64 (Md03.headFrom (Md03.fields.take 8) (st.next 51) : Int))))) hq)
          refine k.new (S1.same s12) (kp.trans (Kp.of s12)) hp ?_
          rw [bytes_nat, cV_iV]
          rfl
end
end Pb

/-! ## PbW9 -/
namespace Pb
open PySem L2
/-! ### items and their numbers -/
/-- the numbers put, item by item -/
def nums : List Md03.Item → List Int → List Int
  | [], _ => []
  | x :: r, l => if Md03.takes x = true then (match l with
      | [] => []
      | n :: l => n :: nums r l) else 0 :: nums r l
theorem nums_cons (x : Md03.Item) (r : List Md03.Item) (l : List Int) : nums (x :: r) l = if Md03.takes x = true then (match l with
      | [] => []
      | n :: l => n :: nums r l) else 0 :: nums r l := by cases l <;> rfl
theorem packed_cons (x : Md03.Item) (r : List Md03.Item) (l : List Int) : Md03.packed (x :: r) l = if Md03.takes x = true then (match l with
      | [] => []
      | n :: l => Md03.bitsOf x.2 (Md03.mod x.2 n) ++ Md03.packed r l) else List.replicate x.2 false ++ Md03.packed r l := by cases l <;> rfl
theorem allFit_cons (x : Md03.Item) (r : List Md03.Item) (l : List Int) : Md03.allFit (x :: r) l = if Md03.takes x = true then (match l with
      | [] => true
      | n :: l => Md03.fits x n && Md03.allFit r l) else Md03.allFit r l := by cases l <;> rfl
/-- their bits -/
def pk : List Md03.Item → List Int → List Bool
  | x :: r, n :: l => Md03.bitsOf x.2 (Md03.mod x.2 n) ++ pk r l
  | _, _ => []
theorem pk_nums : ∀ (x : List Md03.Item) (l : List Int), (x.filter Md03.takes).length ≤ l.length → pk x (nums x l) = Md03.packed x l ∧ (nums x l).length = x.length
  | [], _, _ => ⟨rfl, rfl⟩
  | x :: r, l, h => by
    by_cases ht : Md03.takes x = true
    · rw [List.filter_cons_of_pos ht, List.length_cons] at h
      match l with
      | [] => simp at h
      | n :: l =>
        have ih := pk_nums r l (by simpa using h)
        have e1 : nums (x :: r) (n :: l) = n :: nums r l := by
          rw [nums_cons, if_pos ht]
        have e2 : Md03.packed (x :: r) (n :: l) = Md03.bitsOf x.2 (Md03.mod x.2 n) ++ Md03.packed r l := by
          rw [packed_cons, if_pos ht]
        rw [e1, e2, pk, ih.1, List.length_cons, List.length_cons, ih.2]
        exact ⟨rfl, rfl⟩
    · rw [List.filter_cons_of_neg ht] at h
      have ih := pk_nums r l h
      have e1 : nums (x :: r) l = 0 :: nums r l := by
        rw [nums_cons, if_neg ht]
      have e2 : Md03.packed (x :: r) l = List.replicate x.2 false ++ Md03.packed r l := by
        rw [packed_cons, if_neg ht]
      rw [e1, e2, pk, ih.1, mod_zero, bitsOf_zero, List.length_cons, List.length_cons, ih.2]
      exact ⟨rfl, rfl⟩
theorem pk_len : ∀ (x : List Md03.Item) (l : List Int), l.length = x.length → (pk x l).length = Md03.size x
  | [], [], _ => rfl
  | [], _ :: _, h => by simp at h
  | _ :: _, [], h => by simp at h
  | x :: r, n :: l, h => by
    rw [pk, List.length_append, bitsOf_len, pk_len r l (by simpa using h)]
    rfl
theorem pk_snoc : ∀ (a : List Md03.Item) (l : List Int) (x : Md03.Item) (n : Int), l.length = a.length → pk (a ++ [x]) (l ++ [n]) = pk a l ++ Md03.bitsOf x.2 (Md03.mod x.2 n)
  | [], [], x, n, _ => by
    show Md03.bitsOf x.2 (Md03.mod x.2 n) ++ [] = [] ++ _
    rw [List.append_nil, List.nil_append]
  | [], _ :: _, _, _, h => by simp at h
  | _ :: _, [], _, _, h => by simp at h
  | y :: a, m :: l, x, n, h => by
    show Md03.bitsOf y.2 (Md03.mod y.2 m) ++ pk (a ++ [x]) (l ++ [n]) = (Md03.bitsOf y.2 (Md03.mod y.2 m) ++ pk a l) ++ _
    rw [pk_snoc a l x n (by simpa using h), List.append_assoc]
theorem size_snoc (a : List Md03.Item) (x : Md03.Item) : Md03.size (a ++ [x]) = Md03.size a + x.2 := by
  unfold Md03.size
  rw [List.map_append, List.sum_append]
  simp
theorem size_take {l : List Md03.Item} {i : Nat} {x : Md03.Item} (h : l[i]? = some x) : Md03.size (l.take (i + 1)) = Md03.size (l.take i) + x.2 := by
  rw [take_more h, size_snoc]
theorem size_app (a b : List Md03.Item) : Md03.size (a ++ b) = Md03.size a + Md03.size b := by
  unfold Md03.size
  rw [List.map_append, List.sum_append]
theorem size_le {l : List Md03.Item} {i : Nat} {x : Md03.Item} (h : l[i]? = some x) : Md03.size (l.take i) + x.2 ≤ Md03.size l := by
  have e : Md03.size l = Md03.size (l.take (i + 1)) + Md03.size (l.drop (i + 1)) := by
    rw [← size_app, List.take_append_drop]
  rw [e, size_take h]
  omega
theorem drop_at {α : Type} {l : List α} {i : Nat} {x : α} (h : l[i]? = some x) : l.drop i = x :: l.drop (i + 1) := by
  obtain ⟨h1, h2⟩ := List.getElem?_eq_some_iff.mp h
  rw [List.drop_eq_getElem_cons h1, h2]
theorem items_good {t : Md03.Bytes} {l : List Md03.Item} (h : Md03.items t = some l) : (∀ x ∈ l, Md03.itemGood x = true) ∧ l.length ≤ 64 := by
  have hr : readFormat t = some l := (read_is t).trans h
  unfold readFormat at hr
  by_cases h1 : t.length < 1 ∨ t.length > 63
  · rw [if_pos h1] at hr
    cases hr
  rw [if_neg h1] at hr
  cases e : (Md03.split t).mapM readItem with
  | none =>
    rw [e] at hr
    cases hr
  | some l' =>
    rw [e] at hr
    have hr : (if (l'.filter Md03.takes).length > 6 then none else some l') = some l := hr
    have el : l' = l := by
      split at hr
      · cases hr
      · exact Option.some.inj hr
    subst el
    have a := mapM_some.mp e
    constructor
    · intro x hx
      obtain ⟨i, hi⟩ := List.getElem?_of_mem hx
      have hi2 : i < (Md03.split t).length := by
        rw [a.len]
        exact (List.getElem?_eq_some_iff.mp hi).1
      obtain ⟨y, hy1, hy2⟩ := a.get (List.getElem?_eq_getElem hi2)
      rw [hi] at hy1
      cases hy1
      exact ((item_iff _ _).mp hy2).2.1
    · rw [← a.len]
      have := split_len t
      omega
section
variable {P : Program} {w : World} {K : PySem.W.Frag} {mg : Str → Option Value} {base : Heap} {C CI : Addr}
/-- in_range -/
def spFits (CI : Addr) : Sp := fun vs H Q _ => ∃ (p : Addr) (x : Md03.Item) (n : Int), vs = [.ref p, .int n] ∧ ItemAt CI H p x ∧ Md03.itemGood x = true ∧ Md03.takes x = true ∧ Q (.bl (Md03.fits x n)) H
theorem sc_in_range : FnScope ["item", "argument"] ["item", "argument"] (defScope (top 31)) := ⟨rfl, rfl, rfl, by decide +kernel, rfl, by decide +kernel, by decide +kernel⟩
theorem ok_fits (D : Df K mg "in_range" (top 31)) (T : Txt K mg C CI) (h_in_signed_range : HasD P w K mg base "in_signed_range" 1 ["number", "width"] spRange) : HasD P w K mg base "in_range" 2 ["item", "argument"] (spFits CI) := by
  obtain ⟨f, fd, F, g⟩ := D.ex
  obtain ⟨f_in_signed_range, fd_in_signed_range, g_in_signed_range, k_in_signed_range, b_in_signed_range, G_in_signed_range⟩ := h_in_signed_range.ex
  refine ⟨f, fd, g, F.kp, F.binds (fun _ _ _ _ _ _ us hl => match us, hl with | [_, _], _ => rfl), F.ok sc_in_range (fun vs H Q E h => ?_) (fun cdv A outer s0 H vs Q E hr h => ?_)⟩
  · obtain ⟨p, x, n, rfl, _⟩ := h
    rfl
  · obtain ⟨p, x, n, rfl, ⟨dx, hp⟩, hgood, htk, k⟩ := h
    obtain ⟨g1, g2, g3⟩ := good_le hgood
    refine ⟨_, (pss_cons (ps_if (pt_cmpR op_eq (pe_fld (pv 0) rfl) pe_str (nomark _)) (pss_one (ps_ret (pe_cmpR op_lt (pe_op op_mod (pv 1) (pe_op op_shl pe_int pe_int)) (pe_op op_shl pe_int (pe_fld (pv 0) rfl)) (nomark _)))) pss_nil)
      (pss_one (ps_ret (pe_call G_in_signed_range (hr.mono (by decide)) (by rfl) g_in_signed_range k_in_signed_range b_in_signed_range .nil pass0 (pa_cons (pv 1) (pa_cons (pe_fld (pv 0) rfl) pa_nil)))))), ?_⟩
    unfold Md03.fits at k
    refine ⟨_, rfl, p, CI, dx, _, _, rfl, hp, T.clI, T.nL, itF_letter _, rfl, _, rfl, ?_⟩
    rw [letter_u]
    cases ek : x.1 with
    | u =>
      rw [ek] at k
      refine iteT ⟨_, rfl, _, _, rfl, rfl, ⟨by decide, by decide, by decide⟩, _, _, rfl, rfl, (by show (0 : Int) < 1 * 2 ^ (32 : Int).toNat; decide), _, rfl, p, CI, dx, _, _, rfl, hp, T.clI, T.nW, itF_width _, _, _, rfl, rfl, ⟨Int.natCast_nonneg _, by show (x.2 : Int) ≤ 1000000; omega, by decide⟩, _, _, rfl, rfl, ?_⟩
      have e : decide (n % (1 * 2 ^ (32 : Int).toNat) < 1 * 2 ^ ((x.2 : Int)).toNat) = decide (Md03.mod 32 n < 2 ^ x.2) := by
        rw [decide_eq_decide, Int.one_mul, Int.one_mul, Int.toNat_natCast, ← pow_cast]
        show n % 2 ^ 32 < _ ↔ _
        rw [← mod_castI]
        exact Int.ofNat_lt
      have q : Q (V.bl (decide (n % (1 * 2 ^ (32 : Int).toNat) < 1 * 2 ^ ((x.2 : Int)).toNat))) H := by
        rw [e]
        exact k
      exact q
    | i =>
      rw [ek] at k
      exact iteF ⟨_, rfl, _, rfl, p, CI, dx, _, _, rfl, hp, T.clI, T.nW, itF_width _, _, x.2, rfl, g1, by omega, k⟩
    | z =>
      unfold Md03.takes at htk
      rw [ek] at htk
      cases htk
/-- put -/
def spPutCall (K : PySem.W.Frag) (C : Addr) : Sp := fun vs H Q _ => ∃ (s L : Addr) (st : Md03.Abs) (ga ta : Addr) (given : List Int) (t : Md03.Bytes), vs = [.ref s, .ref ga, .ref ta] ∧ StoreAt C H s L st ∧ SqL K H ga (iV given) ∧ SqL K H ta (cV t) ∧ t.length ≤ 200 ∧
  (∀ x, Md03.items t = some x → given.length = (x.filter Md03.takes).length) ∧ Done C s L H (Md03.does st (.put t given)) Q
theorem sc_put : FnScope ["store", "given", "text", "items", "numbers", "used", "item", "place"] ["store", "given", "text"] (defScope (top 32)) := ⟨rfl, rfl, rfl, by decide +kernel, rfl, by decide +kernel, by decide +kernel⟩
theorem ok_putCall (D : Df K mg "put" (top 32)) (T : Txt K mg C CI) (h_read_format : HasD P w K mg base "read_format" 4 ["text"] (spFormat K CI)) (h_in_range : HasD P w K mg base "in_range" 2 ["item", "argument"] (spFits CI)) (h_has_room : HasD P w K mg base "has_room" 1 ["store", "width"] (spRoom C))
    (h_format_width : HasD P w K mg base "format_width" 1 ["items"] (spSize CI)) (h_put_bits : HasD P w K mg base "put_bits" 1 ["store", "number", "width"] (spPut C)) : HasD P w K mg base "put" 5 ["store", "given", "text"] (spPutCall K C) := by
  obtain ⟨f, fd, F, g⟩ := D.ex
  obtain ⟨f_read_format, fd_read_format, g_read_format, k_read_format, b_read_format, G_read_format⟩ := h_read_format.ex
  obtain ⟨f_in_range, fd_in_range, g_in_range, k_in_range, b_in_range, G_in_range⟩ := h_in_range.ex
  obtain ⟨f_has_room, fd_has_room, g_has_room, k_has_room, b_has_room, G_has_room⟩ := h_has_room.ex
  obtain ⟨f_format_width, fd_format_width, g_format_width, k_format_width, b_format_width, G_format_width⟩ := h_format_width.ex
  obtain ⟨f_put_bits, fd_put_bits, g_put_bits, k_put_bits, b_put_bits, G_put_bits⟩ := h_put_bits.ex
  refine ⟨f, fd, g, F.kp, F.binds (fun _ _ _ _ _ _ us hl => match us, hl with | [_, _, _], _ => rfl), F.ok sc_put (fun vs H Q E h => ?_) (fun cdv A outer s0 H vs Q E hr h => ?_)⟩
  · obtain ⟨s, L, st, ga, ta, given, t, rfl, _⟩ := h
    rfl
  · obtain ⟨s, L, st, ga, ta, given, t, rfl, S, hG, hT, hlen, hgiv, k⟩ := h
    refine ⟨_, (pss_cons (ps_set (i := 3) sc_put.nd rfl (Or.inl rfl) (pe_call G_read_format (hr.mono (by decide)) (by rfl) g_read_format k_read_format b_read_format .nil pass0 (pa_cons (pv 2) pa_nil)))
      (pss_cons (ps_if (pt_cmpR op_isN (pv 3) pe_non (nomark _)) (pss_one (ps_ret (pe_lst (pa_cons (pe_un un_neg pe_int) pa_nil)))) pss_nil)
      (pss_cons (ps_set (i := 4) sc_put.nd rfl (Or.inl rfl) (pe_lst pa_nil))
      (pss_cons (ps_set (i := 5) sc_put.nd rfl (Or.inl rfl) pe_int)
      (pss_cons (ps_for PassesOwn.never rfl (pi_list (pv 3)) (pg_name (i := 6) sc_put.nd rfl (Or.inl rfl)) (pss_one (ps_if (pt_cmpR op_eq (pe_fld (pv 6) rfl) pe_str (nomark _)) (pss_one (ps_expr (pe_bm PySem.F.plainAttrs_list PySem.F.slot_list_append PySem.F.type_list_append mt_append (pv 4) (pa_cons pe_int pa_nil)))) (pss_cons (ps_if (pt_not (pt_val (pe_call G_in_range (hr.mono (by decide)) (by rfl) g_in_range k_in_range b_in_range .nil pass0 (pa_cons (pv 6) (pa_cons (pe_ix ix_list (pv 1) (pv 5) (fun _ _ => rfl)) pa_nil))))) (pss_one (ps_ret (pe_lst (pa_cons (pe_un un_neg pe_int) pa_nil)))) pss_nil)
      (pss_cons (ps_expr (pe_bm PySem.F.plainAttrs_list PySem.F.slot_list_append PySem.F.type_list_append mt_append (pv 4) (pa_cons (pe_ix ix_list (pv 1) (pv 5) (fun _ _ => rfl)) pa_nil)))
      (pss_one (ps_set (i := 5) sc_put.nd rfl (Or.inl rfl) (pe_op op_add (pv 5) pe_int))))))))
      (pss_cons (ps_if (pt_not (pt_val (pe_call G_has_room (hr.mono (by decide)) (by rfl) g_has_room k_has_room b_has_room .nil pass0 (pa_cons (pv 0) (pa_cons (pe_call G_format_width (hr.mono (by decide)) (by rfl) g_format_width k_format_width b_format_width .nil pass0 (pa_cons (pv 3) pa_nil)) pa_nil))))) (pss_one (ps_ret (pe_lst (pa_cons (pe_un un_neg pe_int) pa_nil)))) pss_nil)
      (pss_cons (ps_for PassesOwn.never rfl (pi_range1 (by rfl) T.range (pa_cons (pe_callB call_len_seq (by rfl) T.len PySem.boot_len (pa_cons (pv 3) pa_nil)) pa_nil)) (pg_name (i := 7) sc_put.nd rfl (Or.inl rfl)) (pss_one (ps_expr (pe_call G_put_bits (hr.mono (by decide)) (by rfl) g_put_bits k_put_bits b_put_bits .nil pass0 (pa_cons (pv 0) (pa_cons (pe_ix ix_list (pv 4) (pv 7) (fun _ _ => rfl)) (pa_cons (pe_fld (pe_ix ix_list (pv 3) (pv 7) (fun _ _ => rfl)) rfl) pa_nil)))))))
      (pss_one (ps_ret (pe_lst (pa_cons pe_int pa_nil))))))))))), ?_⟩
    unfold Md03.does at k
    dsimp only at k
    refine ⟨_, rfl, ta, t, rfl, hT, hlen, fun H1 v s1 r1 => ?_⟩
    have S1 := S.same s1
    refine ⟨_, rfl, rfl, _, rfl, ?_⟩
    cases hi : Md03.items t with
    | none =>
      rw [hi] at r1 k
      have e : v = .non := r1
      subst e
      exact iteT ⟨_, rfl, by decide, fun p hp => k.new S1 (Kp.of s1) hp rfl⟩
    | some xs =>
      rw [hi] at r1 k
      dsimp only at k
      obtain ⟨ip, as, rfl, hip, hA, hip0⟩ := r1
      obtain ⟨hgood, hxlen⟩ := items_good hi
      have hgl := hgiv xs hi
      refine iteF ⟨Nat.zero_le _, fun np hnp => ?_⟩
      have s2 : Same H1 (upd H1 np (.lst [])) := Same.new hnp
      refine ⟨_, rfl, ip, rfl, ⟨_, SqL.of (s2 _ _ hip)⟩, for_list (K := K) (a := ip) (xs := as.map V.ref)
        (fun i σ H' => ∃ (v1 v2 : Option V) (ns : List Int), σ = [some (.ref s), some (.ref ga), some (.ref ta), some (.ref ip), some (.ref np), some (.int (((xs.take i).filter Md03.takes).length : Int)), v1, v2] ∧ H' = upd H1 np (.lst (iV ns)) ∧
          ns.length = i ∧ nums xs given = ns ++ nums (xs.drop i) (given.drop ((xs.take i).filter Md03.takes).length) ∧ Md03.allFit xs given = Md03.allFit (xs.drop i) (given.drop ((xs.take i).filter Md03.takes).length))
        ⟨none, none, [], rfl, rfl, rfl, rfl, rfl⟩ ?_ ?_ ?_⟩
      · rintro i σ H' _ ⟨v1, v2, ns, rfl, rfl, _⟩
        exact SqL.of (Same.new hnp _ _ hip)
      · rintro i x σ H' hx ⟨v1, v2, ns, rfl, rfl, hnl, hnums, hfit⟩
        obtain ⟨b, hb, rfl⟩ := refs_get hx
        obtain ⟨y, hy, dx, hby⟩ := hA.get hb
        have sn : Same H1 (upd H1 np (.lst (iV ns))) := Same.new hnp
        have hby' := sn _ _ hby
        have hilt : i < xs.length := (List.getElem?_eq_some_iff.mp hy).1
        rw [drop_at hy] at hnums hfit
        have enp : ∀ z : Int, upd (upd H1 np (.lst (iV ns))) np (.lst (iV ns ++ [V.int z])) = upd H1 np (.lst (iV (ns ++ [z]))) := fun z => by
          rw [upd_upd, iV_app]
          rfl
        have esz : ns.length < sizeLine := by
          rw [hnl]
          exact Nat.lt_of_lt_of_le hilt (Nat.le_trans hxlen (by decide))
        have etk : ((xs.take (i + 1)).filter Md03.takes).length = ((xs.take i).filter Md03.takes).length + (if Md03.takes y = true then 1 else 0) := by
          rw [take_more hy, takes_snoc]
        refine ⟨_, rfl, b, CI, dx, _, _, rfl, hby', T.clI, T.nL, itF_letter _, rfl, _, rfl, ?_⟩
        rw [letter_z]
        by_cases hz : Md03.takes y = true
        · have ez : (y.1 == Md03.Kind.z) = false := by
            unfold Md03.takes at hz
            simpa using hz
          rw [ez]
          rw [if_pos hz] at etk
          have hused : ((xs.take i).filter Md03.takes).length < given.length := by
            have e1 : (xs.filter Md03.takes).length = ((xs.take i).filter Md03.takes).length + ((xs.drop i).filter Md03.takes).length := by
              rw [← List.length_append, ← List.filter_append, List.take_append_drop]
            rw [drop_at hy, List.filter_cons_of_pos hz, List.length_cons] at e1
            omega
          have hgn := List.getElem?_eq_getElem hused
          rw [drop_at hgn, nums_cons, if_pos hz] at hnums
          rw [drop_at hgn, allFit_cons, if_pos hz] at hfit
          generalize given[((xs.take i).filter Md03.takes).length] = n at hgn hnums hfit
          dsimp only at hnums hfit
          have hG1 : SqL K (upd H1 np (.lst (iV ns))) ga (iV given) := (s1.trans sn).seq hG
          refine iteF ?_
          refine ⟨_, rfl, _, rfl, _, rfl, ga, _, _, _, rfl, rfl, hG1, atI_nat (iV_at hgn), b, y, n, rfl, ⟨dx, hby'⟩, hgood y (List.mem_of_getElem? hy), hz, _, rfl, ?_⟩
          cases hf : Md03.fits y n with
          | false =>
            rw [hf] at hfit
            rw [if_pos (show Md03.allFit xs given = false from hfit)] at k
            exact iteT ⟨_, rfl, by decide, fun p hp => k.new (S1.same sn) (Kp.of (s1.trans sn)) hp rfl⟩
          | true =>
            rw [hf] at hfit
            refine iteF ⟨_, rfl, .inl ⟨rfl, _, SqL.of upd_same⟩, _, rfl, _, rfl, ga, _, _, _, rfl, rfl, hG1, atI_nat (iV_at hgn), np, _, _, rfl, rfl, upd_same, (by rw [iV_len]; exact esz), ?_⟩
            rw [enp]
            refine ⟨_, rfl, _, _, rfl, rfl, ?_⟩
            refine ⟨some (.ref b), v2, ns ++ [n], ?_, rfl, (by rw [List.length_append, hnl]; rfl), ?_, ?_⟩
            · rw [etk]
              rfl
            · rw [etk, hnums, List.append_assoc]
              rfl
            · rw [etk, hfit]
              rfl
        · have ez : (y.1 == Md03.Kind.z) = true := by
            unfold Md03.takes at hz
            simpa using hz
          rw [ez]
          rw [if_neg hz] at etk
          rw [nums_cons, if_neg hz] at hnums
          rw [allFit_cons, if_neg hz] at hfit
          refine iteT ⟨_, rfl, .inl ⟨rfl, _, SqL.of upd_same⟩, np, _, _, rfl, rfl, upd_same, (by rw [iV_len]; exact esz), ?_⟩
          rw [enp]
          refine ⟨some (.ref b), v2, ns ++ [0], ?_, rfl, (by rw [List.length_append, hnl]; rfl), ?_, ?_⟩
          · rw [etk]
            rfl
          · rw [etk, hnums, List.append_assoc]
            rfl
          · rw [etk, hfit]
            rfl
      · rintro σ H' ⟨v1, v2, ns, rfl, rfl, hnl, hnums, hfit⟩
        have elen : (as.map V.ref).length = xs.length := by rw [List.length_map, hA.len]
        rw [elen] at hnl hnums hfit ⊢
        rw [List.drop_length] at hnums hfit
        have hns : nums xs given = ns := by
          rw [hnums]
          exact List.append_nil _
        have hfit1 : Md03.allFit xs given = true := hfit
        rw [if_neg (by rw [hfit1]; decide)] at k
        obtain ⟨hpk, hpl⟩ := pk_nums xs given (Nat.le_of_eq hgl.symm)
        rw [hns] at hpk
        have sn : Same H1 (upd H1 np (.lst (iV ns))) := Same.new hnp
        have plen : (Md03.packed xs given).length = Md03.size xs := by rw [← hpk, pk_len xs ns hnl]
        unfold Md03.adds Md03.MOST at k
        rw [plen] at k
        refine ⟨_, rfl, _, rfl, ip, as, xs, rfl, sn _ _ hip, hA.mono (fun q z _ hq => hq.same sn), by omega, fun H2 s3 => ?_⟩
        have S2 : StoreAt C H2 s L st := S1.same (sn.trans s3)
        have hnp2 : H2 np = some (.lst (iV ns)) := s3 _ _ upd_same
        have hip2 : H2 ip = some (.lst (as.map V.ref)) := s3 _ _ (sn _ _ hip)
        refine ⟨s, L, st, Md03.size xs, rfl, S2, _, rfl, ?_⟩
        by_cases hr : st.bits.length + Md03.size xs ≤ 32768
        · rw [decide_eq_true hr]
          rw [if_pos hr] at k
          refine iteF ?_
          have nLn : L ≠ np := fun e => by
            obtain ⟨_, q⟩ := id S1
            rw [e, hnp] at q
            cases q
          have nLi : L ≠ ip := ne_of_none S.lst hip0
          refine ⟨_, rfl, ip, _, rfl, .inl (SqL.of hip2), _, rfl, by omega, by omega, for_range (lo := 0) (n := (((as.map V.ref).length : Nat) : Int).toNat)
            (fun i σ H' => ∃ v1 v2 : Option V, σ = [some (.ref s), some (.ref ga), some (.ref ta), some (.ref ip), some (.ref np), some (.int ((xs.take xs.length).filter Md03.takes).length), v1, v2] ∧ H' = upd H2 L (.lst (bV (st.bits ++ pk (xs.take i) (ns.take i)))))
            ⟨v1, v2, rfl, ?_⟩ ?_ ?_⟩
          · show H2 = upd H2 L (.lst (bV (st.bits ++ [])))
            rw [List.append_nil]
            funext q
            by_cases hq : q = L
            · rw [hq, upd_same]
              exact S2.lst
            · rw [upd_ne hq]
          · rintro i σ H' hilt ⟨v1, v2, rfl, rfl⟩
            rw [Int.toNat_natCast, elen] at hilt
            have hy := List.getElem?_eq_getElem hilt
            have hiN : i < ns.length := by rw [hnl]; exact hilt
            have hn := List.getElem?_eq_getElem hiN
            generalize xs[i] = y at hy
            generalize ns[i] = n at hn
            obtain ⟨b, hb⟩ : ∃ b, as[i]? = some b := ⟨_, List.getElem?_eq_getElem (by rw [hA.len]; exact hilt)⟩
            obtain ⟨y', hy', dx, hby⟩ := hA.get hb
            rw [hy] at hy'
            cases hy'
            have hby2 : H2 b = some (.ins CI dx (itF y)) := s3 _ _ (sn _ _ hby)
            have nbL : b ≠ L := ne_of hby2 S2.lst (by intro q; cases q)
            have S3 := S2.put (st.bits ++ pk (xs.take i) (ns.take i))
            obtain ⟨g1, g2, _⟩ := good_le (hgood y (List.mem_of_getElem? hy))
            have ei : (0 : Int) + (i : Int) = (i : Int) := Int.zero_add _
            have lt1 : (ns.take i).length = (xs.take i).length := by
              rw [List.length_take, List.length_take, hnl]
            refine ⟨_, rfl, _, rfl, _, cg ei, np, _, _, _, rfl, rfl, SqL.of (by rw [upd_ne nLn.symm]; exact hnp2), atI_nat (iV_at hn), _, rfl, _, cg ei, ip, _, _, _, rfl, rfl, SqL.of (by rw [upd_ne nLi.symm]; exact hip2), atI_nat (j := i) (v := V.ref b) (by rw [List.getElem?_map, hb]; rfl),
              b, CI, dx, _, _, rfl, (by rw [upd_ne nbL]; exact hby2), T.clI, T.nW, itF_width _, ?_⟩
            refine ⟨s, L, _, n, y.2, rfl, S3, by omega, ?_, ?_⟩
            · show (st.bits ++ pk (xs.take i) (ns.take i)).length + y.2 ≤ 32768
              rw [List.length_append, pk_len _ _ lt1]
              have := size_le hy
              omega
            · refine ⟨v1, some (V.int ((0 : Int) + (i : Int))), rfl, ?_⟩
              rw [upd_upd]
              congr 3
              rw [take_more hy, take_more hn, pk_snoc _ _ _ _ lt1, List.append_assoc]
          · rintro σ H' ⟨v1, v2, rfl, rfl⟩
            rw [Int.toNat_natCast, elen, List.take_length, ← hnl, List.take_length, hpk]
            exact ⟨by decide, fun p hp => k.new (S2.put (st.bits ++ Md03.packed xs given)) ((Kp.of (s1.trans (sn.trans s3))).trans Kp.L) hp rfl⟩
        · rw [decide_eq_false hr]
          rw [if_neg hr] at k
          exact iteT ⟨_, rfl, by decide, fun p hp => k.new S2 (Kp.of (s1.trans (sn.trans s3))) hp rfl⟩
end
end Pb

/-! ## PbW10 -/
namespace Pb
open PySem L2
theorem unpacked_cons (x : Md03.Item) (r : List Md03.Item) (b : List Bool) : Md03.unpacked (x :: r) b = match x.1 with
    | .u => (Md03.unpacked r (b.drop x.2)).map fun l => Md03.int32 (Md03.value (b.take x.2)) :: l
    | .i => (Md03.unpacked r (b.drop x.2)).map fun l => Md03.withSign (b.take x.2) :: l
    | .z => if (b.take x.2).any id = true then none else Md03.unpacked r (b.drop x.2) := rfl
theorem map_more (o : Option (List Int)) (vals : List Int) (z : Int) : (o.map fun l => z :: l).map (vals ++ ·) = o.map ((vals ++ [z]) ++ ·) := by
  cases o with
  | none => rfl
  | some l =>
    show some (vals ++ z :: l) = some ((vals ++ [z]) ++ l)
    rw [List.append_assoc]
    rfl
section
variable {P : Program} {w : World} {K : PySem.W.Frag} {mg : Str → Option Value} {base : Heap} {C CI : Addr}
theorem StoreAt.nlst {H : Hp} {s L a : Addr} {st : Md03.Abs} {xs : List V} (S : StoreAt C H s L st) (h : H a = some (.lst xs)) : a ≠ s := by
  obtain ⟨⟨d, e⟩, _⟩ := S
  exact ne_of h e (by intro q; cases q)
theorem StoreAt.nitem {H : Hp} {s L a dy : Addr} {st : Md03.Abs} {y : Md03.Item} (S : StoreAt C H s L st) (h : H a = some (.ins CI dy (itF y))) : a ≠ s := by
  obtain ⟨⟨d, e⟩, _⟩ := S
  exact ne_of h e (by intro q; cases q)
/-- behind i items of a format that is read -/
structure RdInv (C : Addr) (H3 : Hp) (s L tp : Addr) (st : Md03.Abs) (xs : List Md03.Item) (i : Nat) (vals : List Int) (H' : Hp) : Prop where
  S : StoreAt C H' s L { st with place := st.place + Md03.size (xs.take i) }
  k : ∀ b o, H3 b = some o → b ≠ s → b ≠ tp → H' b = some o
  t : H' tp = some (.lst (iV (0 :: vals)))
  n : vals.length ≤ i
  u : Md03.unpacked xs (st.next (Md03.size xs)) = (Md03.unpacked (xs.drop i) ((st.next (Md03.size xs)).drop (Md03.size (xs.take i)))).map (vals ++ ·)
theorem RdInv.app {H3 H5 : Hp} {s L tp : Addr} {st : Md03.Abs} {xs : List Md03.Item} {i : Nat} {vals : List Int} {z : Int} (S5 : StoreAt C H5 s L { st with place := st.place + Md03.size (xs.take (i + 1)) }) (k5 : ∀ b o, H3 b = some o → b ≠ s → b ≠ tp → H5 b = some o)
    (hts : tp ≠ s) (htL : tp ≠ L) (hn : vals.length ≤ i)
    (hu : Md03.unpacked xs (st.next (Md03.size xs)) = ((Md03.unpacked (xs.drop (i + 1)) ((st.next (Md03.size xs)).drop (Md03.size (xs.take (i + 1))))).map fun l => z :: l).map (vals ++ ·)) :
    RdInv C H3 s L tp st xs (i + 1) (vals ++ [z]) (upd H5 tp (.lst (iV (0 :: vals) ++ [V.int z]))) := by
  have e : iV (0 :: vals) ++ [V.int z] = iV (0 :: (vals ++ [z])) := by
    rw [iV_cons, iV_cons, iV_app]
    rfl
  rw [e]
  obtain ⟨⟨d, q1⟩, q2⟩ := S5
  refine ⟨⟨⟨d, by rw [upd_ne hts.symm]; exact q1⟩, by rw [upd_ne htL.symm]; exact q2⟩, fun b o e n1 n2 => by rw [upd_ne n2]; exact k5 b o e n1 n2, upd_same, ?_, ?_⟩
  · rw [List.length_append]
    exact Nat.succ_le_succ hn
  · rw [hu, map_more]
/-- read -/
def spReadCall (K : PySem.W.Frag) (C : Addr) : Sp := fun vs H Q _ => ∃ (s L : Addr) (st : Md03.Abs) (ta : Addr) (t : Md03.Bytes), vs = [.ref s, .ref ta] ∧ StoreAt C H s L st ∧ SqL K H ta (cV t) ∧ t.length ≤ 200 ∧ Done C s L H (Md03.does st (.read t)) Q
theorem sc_read : FnScope ["store", "text", "items", "start", "told", "item", "number"] ["store", "text"] (defScope (top 33)) := ⟨rfl, rfl, rfl, by decide +kernel, rfl, by decide +kernel, by decide +kernel⟩
theorem ok_readCall (D : Df K mg "read" (top 33)) (T : Txt K mg C CI) (h_read_format : HasD P w K mg base "read_format" 4 ["text"] (spFormat K CI)) (h_has_left : HasD P w K mg base "has_left" 1 ["store", "width"] (spLeft C)) (h_format_width : HasD P w K mg base "format_width" 1 ["items"] (spSize CI))
    (h_read_bits : HasD P w K mg base "read_bits" 1 ["store", "width"] (spRead C)) (h_signed : HasD P w K mg base "signed" 1 ["number", "width"] spSigned) : HasD P w K mg base "read" 5 ["store", "text"] (spReadCall K C) := by
  obtain ⟨f, fd, F, g⟩ := D.ex
  obtain ⟨f_read_format, fd_read_format, g_read_format, k_read_format, b_read_format, G_read_format⟩ := h_read_format.ex
  obtain ⟨f_has_left, fd_has_left, g_has_left, k_has_left, b_has_left, G_has_left⟩ := h_has_left.ex
  obtain ⟨f_format_width, fd_format_width, g_format_width, k_format_width, b_format_width, G_format_width⟩ := h_format_width.ex
  obtain ⟨f_read_bits, fd_read_bits, g_read_bits, k_read_bits, b_read_bits, G_read_bits⟩ := h_read_bits.ex
  obtain ⟨f_signed, fd_signed, g_signed, k_signed, b_signed, G_signed⟩ := h_signed.ex
  refine ⟨f, fd, g, F.kp, F.binds (fun _ _ _ _ _ _ us hl => match us, hl with | [_, _], _ => rfl), F.ok sc_read (fun vs H Q E h => ?_) (fun cdv A outer s0 H vs Q E hr h => ?_)⟩
  · obtain ⟨s, L, st, ta, t, rfl, _⟩ := h
    rfl
  · obtain ⟨s, L, st, ta, t, rfl, S, hT, hlen, k⟩ := h
    refine ⟨_, (pss_cons (ps_set (i := 2) sc_read.nd rfl (Or.inl rfl) (pe_call G_read_format (hr.mono (by decide)) (by rfl) g_read_format k_read_format b_read_format .nil pass0 (pa_cons (pv 1) pa_nil)))
      (pss_cons (ps_if (pt_cmpR op_isN (pv 2) pe_non (nomark _)) (pss_one (ps_ret (pe_lst (pa_cons (pe_un un_neg pe_int) pa_nil)))) pss_nil)
      (pss_cons (ps_if (pt_not (pt_val (pe_call G_has_left (hr.mono (by decide)) (by rfl) g_has_left k_has_left b_has_left .nil pass0 (pa_cons (pv 0) (pa_cons (pe_call G_format_width (hr.mono (by decide)) (by rfl) g_format_width k_format_width b_format_width .nil pass0 (pa_cons (pv 2) pa_nil)) pa_nil))))) (pss_one (ps_ret (pe_lst (pa_cons (pe_un un_neg pe_int) pa_nil)))) pss_nil)
      (pss_cons (ps_set (i := 3) sc_read.nd rfl (Or.inl rfl) (pe_fld (pv 0) rfl))
      (pss_cons (ps_set (i := 4) sc_read.nd rfl (Or.inl rfl) (pe_lst (pa_cons pe_int pa_nil)))
      (pss_cons (ps_for PassesOwn.never rfl (pi_list (pv 2)) (pg_name (i := 5) sc_read.nd rfl (Or.inl rfl)) (pss_cons (ps_set (i := 6) sc_read.nd rfl (Or.inl rfl) (pe_call G_read_bits (hr.mono (by decide)) (by rfl) g_read_bits k_read_bits b_read_bits .nil pass0 (pa_cons (pv 0) (pa_cons (pe_fld (pv 5) rfl) pa_nil))))
      (pss_one (ps_if (pt_cmpR op_eq (pe_fld (pv 5) rfl) pe_str (nomark _)) (pss_one (ps_if (pt_cmpR op_ne (pv 6) pe_int (nomark _)) (pss_cons (ps_fld (pv 0) (pv 3) rfl)
      (pss_one (ps_ret (pe_lst (pa_cons (pe_un un_neg pe_int) pa_nil))))) pss_nil)) (pss_one (ps_if (PW.pt (pw_or (pt_cmpR op_eq (pe_fld (pv 5) rfl) pe_str (nomark _)) (pw_or1 (pt_cmpR op_eq (pe_fld (pv 5) rfl) pe_int (nomark _))))) (pss_one (ps_expr (pe_bm PySem.F.plainAttrs_list PySem.F.slot_list_append PySem.F.type_list_append mt_append (pv 4) (pa_cons (pe_call G_signed (hr.mono (by decide)) (by rfl) g_signed k_signed b_signed .nil pass0 (pa_cons (pv 6) (pa_cons (pe_fld (pv 5) rfl) pa_nil))) pa_nil)))) (pss_one (ps_expr (pe_bm PySem.F.plainAttrs_list PySem.F.slot_list_append PySem.F.type_list_append mt_append (pv 4) (pa_cons (pv 6) pa_nil))))))))))
      (pss_one (ps_ret (pv 4))))))))), ?_⟩
    unfold Md03.does at k
    dsimp only at k
    refine ⟨_, rfl, ta, t, rfl, hT, hlen, fun H1 v s1 r1 => ?_⟩
    have S1 := S.same s1
    refine ⟨_, rfl, rfl, _, rfl, ?_⟩
    cases hi : Md03.items t with
    | none =>
      rw [hi] at r1 k
      have e : v = .non := r1
      subst e
      exact iteT ⟨_, rfl, by decide, fun p hp => k.new S1 (Kp.of s1) hp rfl⟩
    | some xs =>
      rw [hi] at r1 k
      dsimp only at k
      obtain ⟨ip, as, rfl, hip, hA, hip0⟩ := r1
      obtain ⟨hgood, hxlen⟩ := items_good hi
      refine iteF ⟨_, rfl, _, rfl, ip, as, xs, rfl, hip, hA, by omega, fun H2 s2 => ?_⟩
      have S2 := S1.same s2
      have s12 := s1.trans s2
      refine ⟨s, L, st, Md03.size xs, rfl, S2, _, rfl, ?_⟩
      cases hh : st.has (Md03.size xs) with
      | false =>
        rw [if_pos hh] at k
        exact iteT ⟨_, rfl, by decide, fun p hp => k.new S2 (Kp.of s12) hp rfl⟩
      | true =>
        rw [if_neg (by rw [hh]; decide)] at k
        have hh' : st.place + Md03.size xs ≤ st.bits.length := of_decide_eq_true hh
        obtain ⟨⟨dx, h1⟩, h2⟩ := id S2
        refine iteF ⟨_, rfl, s, C, dx, _, _, rfl, h1, T.clS, T.nP, stF_place _ _, ?_⟩
        refine ⟨by decide, fun tp htp => ?_⟩
        have htp0 : H tp = none := s12.free htp
        have htL : tp ≠ L := (ne_of_none S.lst htp0).symm
        have hts : tp ≠ s := (ne_of_none h1 htp).symm
        have hti : tp ≠ ip := (ne_of_none (s2 _ _ hip) htp).symm
        have S3 : StoreAt C (upd H2 tp (.lst [V.int 0])) s L st := S2.same (Same.new htp)
        generalize hH3 : upd H2 tp (.lst [V.int 0]) = H3 at S3
        have htp3 : H3 tp = some (.lst (iV (0 :: []))) := by
          rw [← hH3]
          exact upd_same
        have s23 : Same H2 H3 := by
          rw [← hH3]
          exact Same.new htp
        have hip3 : H3 ip = some (.lst (as.map V.ref)) := s23 _ _ (s2 _ _ hip)
        have hsi : ip ≠ s := S3.nlst hip3
        refine ⟨_, rfl, ip, rfl, ⟨_, SqL.of hip3⟩, for_list (K := K) (a := ip) (xs := as.map V.ref)
          (fun i σ H' => ∃ (v5 v6 : Option V) (vals : List Int), σ = [some (.ref s), some (.ref ta), some (.ref ip), some (.int (st.place : Int)), some (.ref tp), v5, v6] ∧ RdInv C H3 s L tp st xs i vals H')
          ⟨none, none, [], rfl, S3, fun b o e _ _ => e, htp3, Nat.le_refl _, ?_⟩ ?_ ?_ ?_⟩
        · show _ = (Md03.unpacked xs ((st.next (Md03.size xs)).drop 0)).map ([] ++ ·)
          rw [List.drop_zero]
          cases Md03.unpacked xs (st.next (Md03.size xs)) <;> rfl
        · rintro i σ H' _ ⟨v5, v6, vals, rfl, R⟩
          exact SqL.of (R.k _ _ hip3 hsi hti.symm)
        · rintro i x σ H' hx ⟨v5, v6, vals, rfl, ⟨S4, k3, htp4, hvl, hun⟩⟩
          obtain ⟨b, hb, rfl⟩ := refs_get hx
          obtain ⟨y, hy, dy, hby⟩ := hA.get hb
          have hby3 : H3 b = some (.ins CI dy (itF y)) := s23 _ _ (s2 _ _ hby)
          have nbs : b ≠ s := S3.nitem hby3
          have nbt : b ≠ tp := ne_of hby3 htp3 (by intro q; cases q)
          have hby4 := k3 _ _ hby3 nbs nbt
          have hilt : i < xs.length := (List.getElem?_eq_some_iff.mp hy).1
          obtain ⟨g1, g2, g3⟩ := good_le (hgood y (List.mem_of_getElem? hy))
          have hsz := size_le hy
          have hnext : ({ st with place := st.place + Md03.size (xs.take i) } : Md03.Abs).next y.2 = ((st.next (Md03.size xs)).drop (Md03.size (xs.take i))).take y.2 := by
            unfold Md03.Abs.next
            show (st.bits.drop (st.place + Md03.size (xs.take i))).take y.2 = (((st.bits.drop st.place).take (Md03.size xs)).drop (Md03.size (xs.take i))).take y.2
            rw [List.drop_take, List.drop_drop, List.take_take]
            congr 1
            omega
          rw [drop_at hy, unpacked_cons] at hun
          have e4 : (st.next (Md03.size xs)).drop (Md03.size (xs.take (i + 1))) = ((st.next (Md03.size xs)).drop (Md03.size (xs.take i))).drop y.2 := by
            rw [List.drop_drop, size_take hy]
          have hhl : (((st.next (Md03.size xs)).drop (Md03.size (xs.take i))).take y.2).length = y.2 := by
            rw [List.length_take, List.length_drop, next_len hh]
            omega
          refine ⟨_, rfl, _, rfl, b, CI, dy, _, _, rfl, hby4, T.clI, T.nW, itF_width _, ?_⟩
          refine ⟨s, L, _, y.2, rfl, S4, decide_eq_true ?_, fun H5 S5 k5 => ?_⟩
          · show st.place + Md03.size (xs.take i) + y.2 ≤ st.bits.length
            omega
          rw [hnext]
          rw [← e4] at hun
          generalize hhd : ((st.next (Md03.size xs)).drop (Md03.size (xs.take i))).take y.2 = hd at hun hhl
          have hvlt := value_lt hd
          rw [hhl] at hvlt
          have S5' : StoreAt C H5 s L { st with place := st.place + Md03.size (xs.take (i + 1)) } := by
            rw [size_take hy, ← Nat.add_assoc]
            exact S5
          have k35 : ∀ b o, H3 b = some o → b ≠ s → b ≠ tp → H5 b = some o := fun c o e n1 n2 => k5 c o (k3 c o e n1 n2) n1
          have htp5 : H5 tp = some (.lst (iV (0 :: vals))) := k5 _ _ htp4 hts
          have hby5 := k35 _ _ hby3 nbs nbt
          have esz : (iV (0 :: vals)).length < sizeLine := by
            rw [iV_len, List.length_cons]
            exact Nat.lt_of_lt_of_le (show vals.length + 1 < 66 by omega) (by decide)
          refine ⟨_, rfl, b, CI, dy, _, _, rfl, hby5, T.clI, T.nL, itF_letter _, rfl, _, rfl, ?_⟩
          rw [letter_z]
          cases ek : y.1 with
          | z =>
            rw [ek] at hun
            dsimp only at hun
            refine iteT ⟨_, rfl, rfl, _, rfl, ?_⟩
            rw [show (!decide (V.int (Md03.value hd : Int) = V.int 0)) = !decide (Md03.value hd = 0) from congrArg not (nat_is _ 0)]
            by_cases hv0 : Md03.value hd = 0
            · rw [decide_eq_true hv0]
              rw [if_neg (fun q => value_pos.mp q hv0)] at hun
              exact iteF ⟨some (.ref b), some (.int (Md03.value hd : Int)), vals, rfl, ⟨S5', k35, htp5, Nat.le_succ_of_le hvl, hun⟩⟩
            · rw [decide_eq_false hv0]
              rw [if_pos (value_pos.mpr hv0)] at hun
              have hun : Md03.unpacked xs (st.next (Md03.size xs)) = none := hun
              rw [hun] at k
              obtain ⟨⟨d5, q1⟩, q2⟩ := id S5'
              refine iteT ⟨_, rfl, _, rfl, s, C, d5, _, rfl, q1, T.clS, T.nP, stF_len _ _, ?_⟩
              rw [stF_set]
              refine ⟨_, rfl, by decide, fun p hp => ?_⟩
              have S6 : StoreAt C (upd H5 s (.ins C d5 (stF L (st.place : Int)))) s L st := ⟨⟨d5, upd_same⟩, by rw [upd_ne S.ne.symm]; exact q2⟩
              refine k.new S6 (fun c o e n1 n2 => ?_) hp rfl
              rw [upd_ne n1]
              exact k35 c o (s23 c o (s12 c o e)) n1 (ne_of_none e htp0)
          | i =>
            rw [ek] at hun
            dsimp only at hun
            rw [withSign_sgn hhl g1] at hun
            refine iteF ⟨_, rfl, b, CI, dy, _, _, rfl, hby5, T.clI, T.nL, itF_letter _, rfl, _, rfl, ?_⟩
            rw [letter_i, ek]
            refine iteT ⟨_, rfl, .inl ⟨rfl, _, SqL.of htp5⟩, _, rfl, _, rfl, b, CI, dy, _, _, rfl, hby5, T.clI, T.nW, itF_width _, _, y.2, rfl, g1, by omega, tp, _, _, rfl, rfl, htp5, esz, ?_⟩
            exact ⟨some (.ref b), some (.int (Md03.value hd : Int)), vals ++ [sgn (Md03.value hd) y.2], rfl, RdInv.app S5' k35 hts htL hvl hun⟩
          | u =>
            rw [ek] at hun
            dsimp only at hun
            refine iteF ⟨_, rfl, b, CI, dy, _, _, rfl, hby5, T.clI, T.nL, itF_letter _, rfl, _, rfl, ?_⟩
            rw [letter_i, ek]
            refine iteF ⟨_, rfl, b, CI, dy, _, _, rfl, hby5, T.clI, T.nW, itF_width _, rfl, _, rfl, ?_⟩
            rw [show decide (V.int (y.2 : Int) = V.int 32) = decide (y.2 = 32) from nat_is y.2 32]
            by_cases h32 : y.2 = 32
            · rw [decide_eq_true h32]
              rw [int32_32, ← h32] at hun
              refine iteT ⟨_, rfl, .inl ⟨rfl, _, SqL.of htp5⟩, _, rfl, _, rfl, b, CI, dy, _, _, rfl, hby5, T.clI, T.nW, itF_width _, _, y.2, rfl, g1, by omega, tp, _, _, rfl, rfl, htp5, esz, ?_⟩
              exact ⟨some (.ref b), some (.int (Md03.value hd : Int)), vals ++ [sgn (Md03.value hd) y.2], rfl, RdInv.app S5' k35 hts htL hvl hun⟩
            · rw [decide_eq_false h32]
              rw [int32_lt hvlt (by omega)] at hun
              refine iteF ⟨_, rfl, .inl ⟨rfl, _, SqL.of htp5⟩, _, rfl, tp, _, _, rfl, rfl, htp5, esz, ?_⟩
              exact ⟨some (.ref b), some (.int (Md03.value hd : Int)), vals ++ [(Md03.value hd : Int)], rfl, RdInv.app S5' k35 hts htL hvl hun⟩
        · rintro σ H' ⟨v5, v6, vals, rfl, ⟨S4, k3, htp4, hvl, hun⟩⟩
          have elen : (as.map V.ref).length = xs.length := by rw [List.length_map, hA.len]
          rw [elen, List.take_length] at S4 hun
          rw [List.drop_length] at hun
          have hun : Md03.unpacked xs (st.next (Md03.size xs)) = some vals := by
            rw [hun]
            show some (vals ++ []) = _
            rw [List.append_nil]
          rw [hun] at k
          refine ⟨_, rfl, k _ tp L ?_ S4 (.inl rfl) htp0 htL ?_⟩
          · rw [htp4]
            show _ = some (HO.lst (iV (0 :: (vals ++ []))))
            rw [List.append_nil]
          · intro c o e n1 n2
            exact k3 c o (s23 c o (s12 c o e)) n1 (ne_of_none e htp0)
end
end Pb

/-! ## PbW11 -/
namespace Pb
open PySem L2
theorem tst {a b : Int} (h : a ≠ b) : V.bl (decide (V.int a = V.int b)) = V.bl false := by
  rw [int_is, decide_eq_false h]
theorem tsy {a b : Int} (h : a = b) : V.bl (decide (V.int a = V.int b)) = V.bl true := by
  rw [int_is, decide_eq_true h]
section
variable {P : Program} {w : World} {K : PySem.W.Frag} {mg : Str → Option Value} {base : Heap} {C CI : Addr}
theorem iV_by {l : List Int} (h : ∀ z ∈ l, 0 ≤ z ∧ z < 256) : iV l = cV (Md03Neutral.by_ l) := by
  rw [cV_iV, by_back h]
/-- call_answer: what the document's machine answers to the call, and leaves -/
def spCall (C : Addr) : Sp := fun vs H Q _ => ∃ (s L : Addr) (st : Md03.Abs) (p : Int) (wa ra : Addr) (xs : List Int) (rs : List Addr) (rows : List (List Int)), vs = [.ref s, .int p, .ref wa, .ref ra] ∧ StoreAt C H s L st ∧ st.bits.length ≤ 32768 ∧
  H wa = some (.lst (iV xs)) ∧ H ra = some (.lst (rs.map V.ref)) ∧ All2 (fun a r => H a = some (.lst (iV r))) rs rows ∧ Good ((p :: xs) :: rows) ∧
  ∀ q, Md03Neutral.callOf (PyMd03.whole ((p :: xs) :: rows)) = some q → Done C s L H (Md03.does st q) Q
theorem sc_call_answer : FnScope ["store", "number", "w", "rows"] ["store", "number", "w", "rows"] (defScope (top 41)) := ⟨rfl, rfl, rfl, by decide +kernel, rfl, by decide +kernel, by decide +kernel⟩
set_option maxHeartbeats 8000000 in
theorem ok_call (D : Df K mg "call_answer" (top 41)) (T : Txt K mg C CI) (h_init : HasD P w K mg base "init" 1 ["store"] (spInit C)) (h_put : HasD P w K mg base "put" 5 ["store", "given", "text"] (spPutCall K C)) (h_read : HasD P w K mg base "read" 5 ["store", "text"] (spReadCall K C)) (h_put_value : HasD P w K mg base "put_value" 3 ["store", "kind", "width", "eight"] (spPutValue K C))
    (h_read_value : HasD P w K mg base "read_value" 3 ["store", "kind", "width"] (spReadValue C)) (h_head : HasD P w K mg base "head" 2 ["store", "eight"] (spHead K C)) (h_read_head : HasD P w K mg base "read_head" 2 ["store"] (spReadHead C)) (h_seek : HasD P w K mg base "seek" 1 ["store", "bit"] (spSeek C)) (h_tell_bytes : HasD P w K mg base "tell_bytes" 1 ["store", "cap"] (spTell C)) :
    HasD P w K mg base "call_answer" 6 ["store", "number", "w", "rows"] (spCall C) := by
  obtain ⟨f, fd, F, g⟩ := D.ex
  obtain ⟨f_init, fd_init, g_init, k_init, b_init, G_init⟩ := h_init.ex
  obtain ⟨f_put, fd_put, g_put, k_put, b_put, G_put⟩ := h_put.ex
  obtain ⟨f_read, fd_read, g_read, k_read, b_read, G_read⟩ := h_read.ex
  obtain ⟨f_put_value, fd_put_value, g_put_value, k_put_value, b_put_value, G_put_value⟩ := h_put_value.ex
  obtain ⟨f_read_value, fd_read_value, g_read_value, k_read_value, b_read_value, G_read_value⟩ := h_read_value.ex
  obtain ⟨f_head, fd_head, g_head, k_head, b_head, G_head⟩ := h_head.ex
  obtain ⟨f_read_head, fd_read_head, g_read_head, k_read_head, b_read_head, G_read_head⟩ := h_read_head.ex
  obtain ⟨f_seek, fd_seek, g_seek, k_seek, b_seek, G_seek⟩ := h_seek.ex
  obtain ⟨f_tell_bytes, fd_tell_bytes, g_tell_bytes, k_tell_bytes, b_tell_bytes, G_tell_bytes⟩ := h_tell_bytes.ex
  refine ⟨f, fd, g, F.kp, F.binds (fun _ _ _ _ _ _ us hl => match us, hl with | [_, _, _, _], _ => rfl), F.ok sc_call_answer (fun vs H Q E h => ?_) (fun cdv A outer s0 H vs Q E hr h => ?_)⟩
  · obtain ⟨s, L, st, p, wa, ra, xs, rs, rows, rfl, _⟩ := h
    rfl
  · obtain ⟨s, L, st, p, wa, ra, xs, rs, rows, rfl, S, hlim, hw, hra, hA, ⟨⟨p', xs', rows', ec, hsh⟩, hask⟩, k⟩ := h
    obtain ⟨e1, e2⟩ := List.cons.inj ec
    obtain ⟨e3, e4⟩ := List.cons.inj e1
    subst e2 e3 e4
    refine ⟨_, (pss_cons (ps_if (pt_cmpR op_eq (pv 1) pe_int (nomark _)) (pss_one (ps_ret (pe_call G_init (hr.mono (by decide)) (by rfl) g_init k_init b_init .nil pass0 (pa_cons (pv 0) pa_nil)))) pss_nil)
      (pss_cons (ps_if (pt_cmpR op_eq (pv 1) pe_int (nomark _)) (pss_one (ps_ret (pe_call G_put (hr.mono (by decide)) (by rfl) g_put k_put b_put .nil pass0 (pa_cons (pv 0) (pa_cons (pe_ix ix_list (pv 3) pe_int (fun _ _ => rfl)) (pa_cons (pe_ix ix_list (pv 3) pe_int (fun _ _ => rfl)) pa_nil)))))) pss_nil)
      (pss_cons (ps_if (pt_cmpR op_eq (pv 1) pe_int (nomark _)) (pss_one (ps_ret (pe_call G_read (hr.mono (by decide)) (by rfl) g_read k_read b_read .nil pass0 (pa_cons (pv 0) (pa_cons (pe_ix ix_list (pv 3) pe_int (fun _ _ => rfl)) pa_nil))))) pss_nil)
      (pss_cons (ps_if (pt_cmpR op_eq (pv 1) pe_int (nomark _)) (pss_one (ps_ret (pe_call G_put_value (hr.mono (by decide)) (by rfl) g_put_value k_put_value b_put_value .nil pass0 (pa_cons (pv 0) (pa_cons (pe_ix ix_list (pv 2) pe_int (fun _ _ => rfl)) (pa_cons (pe_ix ix_list (pv 2) pe_int (fun _ _ => rfl)) (pa_cons (pe_ix ix_list (pv 3) pe_int (fun _ _ => rfl)) pa_nil))))))) pss_nil)
      (pss_cons (ps_if (pt_cmpR op_eq (pv 1) pe_int (nomark _)) (pss_one (ps_ret (pe_call G_read_value (hr.mono (by decide)) (by rfl) g_read_value k_read_value b_read_value .nil pass0 (pa_cons (pv 0) (pa_cons (pe_ix ix_list (pv 2) pe_int (fun _ _ => rfl)) (pa_cons (pe_ix ix_list (pv 2) pe_int (fun _ _ => rfl)) pa_nil)))))) pss_nil)
      (pss_cons (ps_if (pt_cmpR op_eq (pv 1) pe_int (nomark _)) (pss_one (ps_ret (pe_call G_head (hr.mono (by decide)) (by rfl) g_head k_head b_head .nil pass0 (pa_cons (pv 0) (pa_cons (pe_ix ix_list (pv 3) pe_int (fun _ _ => rfl)) pa_nil))))) pss_nil)
      (pss_cons (ps_if (pt_cmpR op_eq (pv 1) pe_int (nomark _)) (pss_one (ps_ret (pe_call G_read_head (hr.mono (by decide)) (by rfl) g_read_head k_read_head b_read_head .nil pass0 (pa_cons (pv 0) pa_nil)))) pss_nil)
      (pss_cons (ps_if (pt_cmpR op_eq (pv 1) pe_int (nomark _)) (pss_one (ps_ret (pe_call G_seek (hr.mono (by decide)) (by rfl) g_seek k_seek b_seek .nil pass0 (pa_cons (pv 0) (pa_cons (pe_ix ix_list (pv 2) pe_int (fun _ _ => rfl)) pa_nil))))) pss_nil)
      (pss_cons (ps_if (pt_cmpR op_eq (pv 1) pe_int (nomark _)) (pss_one (ps_ret (pe_lst (pa_cons (pe_callB call_len_seq (by rfl) T.len PySem.boot_len (pa_cons (pe_fld (pv 0) rfl) pa_nil)) pa_nil)))) pss_nil)
      (pss_one (ps_ret (pe_call G_tell_bytes (hr.mono (by decide)) (by rfl) g_tell_bytes k_tell_bytes b_tell_bytes .nil pass0 (pa_cons (pv 0) (pa_cons (pe_ix ix_list (pv 2) pe_int (fun _ _ => rfl)) pa_nil)))))))))))))), ?_⟩
    obtain ⟨⟨dx, h1⟩, h2⟩ := id S
    have row0 : ∀ {r : List Int} {t : List (List Int)}, rows = r :: t → ∃ a, rs[0]? = some a ∧ (rs.map V.ref)[0]? = some (V.ref a) ∧ H a = some (.lst (iV r)) := fun {r t} e => by
      rw [e] at hA
      cases hA with
      | cons h t => exact ⟨_, rfl, rfl, h⟩
    rcases shape_cases hsh with ⟨rfl, hn, hk⟩ | ⟨rfl, hn, hk⟩ | ⟨rfl, hn, hk⟩ | ⟨rfl, hn, hk⟩ | ⟨rfl, hn, hk⟩ | ⟨rfl, hn, hk⟩ | ⟨rfl, hn, hk⟩ | ⟨rfl, hn, hk⟩ | ⟨rfl, hn, hk⟩ | ⟨rfl, hn, hk⟩
    · match xs, hn, rows, hk with
      | [], _, [], _ => exact ⟨_, rfl, rfl, true, tsy rfl, iteT ⟨_, rfl, s, L, st, rfl, S, k _ rfl⟩⟩
    · match xs, hn, rows, hk with
      | [], _, [r0, r1], _ =>
        have hask : (decide ((0 : Int) ≤ (r0.length : Int)) && (decide ((r0.length : Int) ≤ 6) && (r0.all Md03Neutral.whole32 && ((r0.length : Int) == (r0.length : Int) && (Md03Neutral.format r1 && Md03Neutral.right (r0.length : Int) r1))))) = true := hask
        simp only [Bool.and_eq_true] at hask
        obtain ⟨_, _, _, _, hf, hr⟩ := hask
        obtain ⟨hb, hl⟩ := fmt_of hf
        cases hA with
        | cons a0 t =>
          cases t with
          | cons a1 t =>
            cases t
            refine ⟨_, rfl, rfl, false, tst (by decide), iteF ⟨_, rfl, rfl, true, tsy rfl, iteT ⟨_, rfl, _, rfl, ra, _, _, _, rfl, rfl, SqL.of hra, atI_nat (j := 0) rfl, _, rfl, ra, _, _, _, rfl, rfl, SqL.of hra, atI_nat (j := 1) rfl, ?_⟩⟩⟩
            refine ⟨s, L, st, _, _, r0, Md03Neutral.by_ r1, rfl, S, SqL.of a0, SqL.of (by rw [← iV_by hb]; exact a1), by rw [by_len]; exact hl, fun x hx => ?_, k _ rfl⟩
            unfold Md03Neutral.right at hr
            rw [hx] at hr
            have hr2 : ((r0.length : Int) == ((x.filter Md03.takes).length : Int)) = true := hr
            have hr3 := of_decide_eq_true hr2
            omega
    · match xs, hn, rows, hk with
      | [], _, [r0], _ =>
        obtain ⟨hb, hl⟩ := fmt_of (show Md03Neutral.format r0 = true from hask)
        obtain ⟨a0, _, z0, ha0⟩ := row0 rfl
        exact ⟨_, rfl, rfl, false, tst (by decide), iteF ⟨_, rfl, rfl, false, tst (by decide), iteF ⟨_, rfl, rfl, true, tsy rfl, iteT ⟨_, rfl, _, rfl, ra, _, _, _, rfl, rfl, SqL.of hra, atI_nat (j := 0) z0, s, L, st, a0, Md03Neutral.by_ r0, rfl, S, SqL.of (by rw [← iV_by hb]; exact ha0), by rw [by_len]; exact hl, k _ rfl⟩⟩⟩⟩
    · match xs, hn, rows, hk with
      | [x0, x1], _, [r0], _ =>
        have hask : (Md03Neutral.natural x0 32 && (Md03Neutral.whole32 x1 && Md03Neutral.eight r0)) = true := by
          have q : (Md03Neutral.natural x0 32 && Md03Neutral.whole32 x1 && Md03Neutral.eight r0) = true ∨ (Md03Neutral.natural x0 32 && (Md03Neutral.whole32 x1 && Md03Neutral.eight r0)) = true := by first | exact Or.inl hask | exact Or.inr hask
          simpa [Bool.and_assoc] using q
        simp only [Bool.and_eq_true] at hask
        obtain ⟨hx0, _, h8⟩ := hask
        obtain ⟨hb, hl⟩ := eight_ok h8
        obtain ⟨q0, q1⟩ := nat_of hx0
        obtain ⟨a0, _, z0, ha0⟩ := row0 rfl
        have ex : V.int x0 = V.int ((x0.toNat : Nat) : Int) := by rw [Int.toNat_of_nonneg q0]
        refine ⟨_, rfl, rfl, false, tst (by decide), iteF ⟨_, rfl, rfl, false, tst (by decide), iteF ⟨_, rfl, rfl, false, tst (by decide), iteF ⟨_, rfl, rfl, true, tsy rfl, iteT ⟨_, rfl, _, rfl, wa, _, _, _, rfl, rfl, SqL.of hw, atI_nat (j := 0) rfl, _, rfl, wa, _, _, _, rfl, rfl, SqL.of hw, atI_nat (j := 1) rfl, _, rfl, ra, _, _, _, rfl, rfl, SqL.of hra, atI_nat (j := 0) z0, ?_⟩⟩⟩⟩⟩
        exact ⟨s, L, st, x0.toNat, x1, a0, Md03Neutral.by_ r0, by rw [← ex]; rfl, S, SqL.of (by rw [← iV_by hb]; exact ha0), by rw [by_len]; exact hl, k _ rfl⟩
    · match xs, hn, rows, hk with
      | [x0, x1], _, [], _ =>
        have hask : (Md03Neutral.natural x0 32 && Md03Neutral.whole32 x1) = true := hask
        simp only [Bool.and_eq_true] at hask
        obtain ⟨q0, q1⟩ := nat_of hask.1
        have ex : V.int x0 = V.int ((x0.toNat : Nat) : Int) := by rw [Int.toNat_of_nonneg q0]
        refine ⟨_, rfl, rfl, false, tst (by decide), iteF ⟨_, rfl, rfl, false, tst (by decide), iteF ⟨_, rfl, rfl, false, tst (by decide), iteF ⟨_, rfl, rfl, false, tst (by decide), iteF ⟨_, rfl, rfl, true, tsy rfl, iteT ⟨_, rfl, _, rfl, wa, _, _, _, rfl, rfl, SqL.of hw, atI_nat (j := 0) rfl, _, rfl, wa, _, _, _, rfl, rfl, SqL.of hw, atI_nat (j := 1) rfl, ?_⟩⟩⟩⟩⟩⟩
        exact ⟨s, L, st, x0.toNat, x1, by rw [← ex]; rfl, S, k _ rfl⟩
    · match xs, hn, rows, hk with
      | [], _, [r0], _ =>
        obtain ⟨hb, hl⟩ := eight_ok (show Md03Neutral.eight r0 = true from hask)
        obtain ⟨a0, _, z0, ha0⟩ := row0 rfl
        exact ⟨_, rfl, rfl, false, tst (by decide), iteF ⟨_, rfl, rfl, false, tst (by decide), iteF ⟨_, rfl, rfl, false, tst (by decide), iteF ⟨_, rfl, rfl, false, tst (by decide), iteF ⟨_, rfl, rfl, false, tst (by decide), iteF ⟨_, rfl, rfl, true, tsy rfl, iteT ⟨_, rfl, _, rfl, ra, _, _, _, rfl, rfl, SqL.of hra, atI_nat (j := 0) z0, s, L, st, a0, Md03Neutral.by_ r0, rfl, S, SqL.of (by rw [← iV_by hb]; exact ha0), k _ rfl⟩⟩⟩⟩⟩⟩⟩
    · match xs, hn, rows, hk with
      | [], _, [], _ => exact ⟨_, rfl, rfl, false, tst (by decide), iteF ⟨_, rfl, rfl, false, tst (by decide), iteF ⟨_, rfl, rfl, false, tst (by decide), iteF ⟨_, rfl, rfl, false, tst (by decide), iteF ⟨_, rfl, rfl, false, tst (by decide), iteF ⟨_, rfl, rfl, false, tst (by decide), iteF ⟨_, rfl, rfl, true, tsy rfl, iteT ⟨_, rfl, s, L, st, rfl, S, k _ rfl⟩⟩⟩⟩⟩⟩⟩⟩
    · match xs, hn, rows, hk with
      | [x0], _, [], _ => exact ⟨_, rfl, rfl, false, tst (by decide), iteF ⟨_, rfl, rfl, false, tst (by decide), iteF ⟨_, rfl, rfl, false, tst (by decide), iteF ⟨_, rfl, rfl, false, tst (by decide), iteF ⟨_, rfl, rfl, false, tst (by decide), iteF ⟨_, rfl, rfl, false, tst (by decide), iteF ⟨_, rfl, rfl, false, tst (by decide), iteF ⟨_, rfl, rfl, true, tsy rfl, iteT ⟨_, rfl, _, rfl, wa, _, _, _, rfl, rfl, SqL.of hw, atI_nat (j := 0) rfl, s, L, st, x0, rfl, S, k _ rfl⟩⟩⟩⟩⟩⟩⟩⟩⟩
    · match xs, hn, rows, hk with
      | [], _, [], _ =>
        have k := k _ rfl
        refine ⟨_, rfl, rfl, false, tst (by decide), iteF ⟨_, rfl, rfl, false, tst (by decide), iteF ⟨_, rfl, rfl, false, tst (by decide), iteF ⟨_, rfl, rfl, false, tst (by decide), iteF ⟨_, rfl, rfl, false, tst (by decide), iteF ⟨_, rfl, rfl, false, tst (by decide), iteF ⟨_, rfl, rfl, false, tst (by decide), iteF ⟨_, rfl, rfl, false, tst (by decide), iteF ⟨_, rfl, rfl, true, tsy rfl, iteT ⟨_, rfl, s, C, dx, _, _, rfl, h1, T.clS, T.nB, stF_bits _ _, L, _, rfl, .inl (SqL.of h2), (by show 1 ≤ sizeLine; decide), fun p hp => ?_⟩⟩⟩⟩⟩⟩⟩⟩⟩⟩
        exact k.new S (Kp.refl s L H) hp (by rw [bV_len]; rfl)
    · match xs, hn, rows, hk with
      | [x0], _, [], _ =>
        obtain ⟨q0, q1⟩ := nat_of (show Md03Neutral.natural x0 64 = true from hask)
        have ex : V.int x0 = V.int ((x0.toNat : Nat) : Int) := by rw [Int.toNat_of_nonneg q0]
        refine ⟨_, rfl, rfl, false, tst (by decide), iteF ⟨_, rfl, rfl, false, tst (by decide), iteF ⟨_, rfl, rfl, false, tst (by decide), iteF ⟨_, rfl, rfl, false, tst (by decide), iteF ⟨_, rfl, rfl, false, tst (by decide), iteF ⟨_, rfl, rfl, false, tst (by decide), iteF ⟨_, rfl, rfl, false, tst (by decide), iteF ⟨_, rfl, rfl, false, tst (by decide), iteF ⟨_, rfl, rfl, false, tst (by decide), iteF ⟨_, rfl, _, rfl, wa, _, _, _, rfl, rfl, SqL.of hw, atI_nat (j := 0) rfl, ?_⟩⟩⟩⟩⟩⟩⟩⟩⟩⟩
        exact ⟨s, L, st, x0.toNat, by rw [← ex]; rfl, S, hlim, k _ rfl⟩
end
end Pb

/-! ## PbW12 -/
namespace Pb
open PySem L2
/-! ### the calls, one behind another -/
abbrev playedS := PyFlat.played Md03Neutral.step
theorem step_of {st : Md03.Abs} {c : Raw} {q : Md03.Call} (h : Md03Neutral.callOf (PyMd03.whole c) = some q) : Md03Neutral.step st (PyMd03.whole c) = ((Md03.does st q).2, ansInts (Md03.does st q).1) := by
  unfold Md03Neutral.step
  rw [h]
  rfl
theorem good_call {c : Raw} (h : Good c) : ∃ q, Md03Neutral.callOf (PyMd03.whole c) = some q := by
  obtain ⟨⟨p, xs, rows, rfl, hsh⟩, _⟩ := h
  rcases shape_cases hsh with ⟨rfl, hn, hk⟩ | ⟨rfl, hn, hk⟩ | ⟨rfl, hn, hk⟩ | ⟨rfl, hn, hk⟩ | ⟨rfl, hn, hk⟩ | ⟨rfl, hn, hk⟩ | ⟨rfl, hn, hk⟩ | ⟨rfl, hn, hk⟩ | ⟨rfl, hn, hk⟩ | ⟨rfl, hn, hk⟩
  · match xs, hn, rows, hk with
    | [], _, [], _ => exact ⟨_, rfl⟩
  · match xs, hn, rows, hk with
    | [], _, [r0, r1], _ => exact ⟨_, rfl⟩
  · match xs, hn, rows, hk with
    | [], _, [r0], _ => exact ⟨_, rfl⟩
  · match xs, hn, rows, hk with
    | [x0, x1], _, [r0], _ => exact ⟨_, rfl⟩
  · match xs, hn, rows, hk with
    | [x0, x1], _, [], _ => exact ⟨_, rfl⟩
  · match xs, hn, rows, hk with
    | [], _, [r0], _ => exact ⟨_, rfl⟩
  · match xs, hn, rows, hk with
    | [], _, [], _ => exact ⟨_, rfl⟩
  · match xs, hn, rows, hk with
    | [x0], _, [], _ => exact ⟨_, rfl⟩
  · match xs, hn, rows, hk with
    | [], _, [], _ => exact ⟨_, rfl⟩
  · match xs, hn, rows, hk with
    | [x0], _, [], _ => exact ⟨_, rfl⟩
theorem shape_tabs {p : Int} {n k : Nat} (h : PyMd03.shape p = some (n, k)) : atI (iV [0, 0, 0, 0, 2, 2, 0, 0, 1, 0, 1]) p = some (V.int (n : Int)) ∧ atI (iV [0, 0, 2, 1, 1, 0, 1, 0, 0, 0, 0]) p = some (V.int (k : Int)) := by
  rcases shape_cases h with ⟨rfl, rfl, rfl⟩ | ⟨rfl, rfl, rfl⟩ | ⟨rfl, rfl, rfl⟩ | ⟨rfl, rfl, rfl⟩ | ⟨rfl, rfl, rfl⟩ | ⟨rfl, rfl, rfl⟩ | ⟨rfl, rfl, rfl⟩ | ⟨rfl, rfl, rfl⟩ | ⟨rfl, rfl, rfl⟩ | ⟨rfl, rfl, rfl⟩
  · exact ⟨atI_nat (j := 1) rfl, atI_nat (j := 1) rfl⟩
  · exact ⟨atI_nat (j := 2) rfl, atI_nat (j := 2) rfl⟩
  · exact ⟨atI_nat (j := 3) rfl, atI_nat (j := 3) rfl⟩
  · exact ⟨atI_nat (j := 4) rfl, atI_nat (j := 4) rfl⟩
  · exact ⟨atI_nat (j := 5) rfl, atI_nat (j := 5) rfl⟩
  · exact ⟨atI_nat (j := 6) rfl, atI_nat (j := 6) rfl⟩
  · exact ⟨atI_nat (j := 7) rfl, atI_nat (j := 7) rfl⟩
  · exact ⟨atI_nat (j := 8) rfl, atI_nat (j := 8) rfl⟩
  · exact ⟨atI_nat (j := 9) rfl, atI_nat (j := 9) rfl⟩
  · exact ⟨atI_nat (j := 10) rfl, atI_nat (j := 10) rfl⟩
/-- a slice of the list of calls -/
theorem cut_part {ns a b : List Int} {i : Nat} (h : ns.drop i = a ++ b) (hi : i ≤ ns.length) : cutV (iV ns) (some (i : Int)) (some ((i : Int) + (a.length : Int))) = iV a := by
  have hl : i + a.length ≤ ns.length := by
    have e := congrArg List.length h
    rw [List.length_drop, List.length_append] at e
    omega
  rw [← Int.natCast_add, cut_nat (by rw [iV_len]; exact hl) (Nat.le_add_right _ _), show i + a.length - i = a.length by omega]
  unfold iV
  rw [← List.map_drop, h, ← List.map_take, List.take_left]
theorem at_part {ns b : List Int} {i : Nat} {x : Int} (h : ns.drop i = x :: b) : atI (iV ns) (i : Int) = some (V.int x) := by
  refine atI_nat (iV_at ?_)
  have e : (ns.drop i)[0]? = some x := by
    rw [h]
    rfl
  rw [List.getElem?_drop, Nat.add_zero] at e
  exact e
section
variable {P : Program} {w : World} {K : PySem.W.Frag} {mg : Str → Option Value} {base : Heap} {C CI aF aW aR : Addr} {ts : List Addr} {tk : Tok}
/-- Store.__init__ -/
def spStore (C : Addr) : Sp := fun vs H Q _ => ∃ (p dx : Addr), vs = [.ref p] ∧ H p = some (.ins C dx []) ∧ ∀ (H' : Hp) (L : Addr), StoreAt C H' p L Md03.init → H L = none → (∀ b o, H b = some o → b ≠ p → H' b = some o) → Q .non H'
theorem sc_init_Store : FnScope ["self"] ["self"] (defScope (inClass (top 8) 0)) := ⟨rfl, rfl, rfl, by decide +kernel, rfl, by decide +kernel, by decide +kernel⟩
theorem ok_store {f : Addr} {fd : FuncData} (F : Fun K "__init__" "Store.__init__" (inClass (top 8) 0) f fd) (T : Txt K mg C CI) : FnOk P w K mg base CX0 1 f fd ["self"] (spStore C) := by
  refine F.ok sc_init_Store (fun vs H Q E h => ?_) (fun cdv A outer s0 H vs Q E hr h => ?_)
  · obtain ⟨p, dx, rfl, _⟩ := h
    rfl
  · obtain ⟨p, dx, rfl, hp, k⟩ := h
    refine ⟨_, (pss_cons (ps_fld (pv 0) (pe_lst pa_nil) rfl)
      (pss_one (ps_fld (pv 0) pe_int rfl))), ?_⟩
    refine ⟨Nat.zero_le _, fun l hl => ?_⟩
    have npl : p ≠ l := ne_of_none hp hl
    refine ⟨_, rfl, p, C, dx, [], rfl, (by rw [upd_ne npl]; exact hp), T.clS, T.nB, (by show 0 < 1000; decide), _, rfl, p, C, dx, _, rfl, upd_same, T.clS, T.nP, (by show 1 < 1000; decide), ?_⟩
    rw [upd_upd, stF_make]
    refine k _ l ⟨⟨dx, upd_same⟩, ?_⟩ hl fun b o e hb => ?_
    · rw [upd_ne npl.symm, upd_same]
      rfl
    · rw [upd_ne hb, upd_ne (ne_of_none e hl)]
      exact e
/-- the loop over the calls: behind some of them; the rest is still to be played -/
structure Run (C : Addr) (ns : List Int) (a x tp : Addr) (H : Hp) (n : Nat) (cs : List Raw) (st : Md03.Abs) (L : Addr) (acc : List Int) (H' : Hp) : Prop where
  rest : ns.drop n = PyFlat.put cs
  inn : n ≤ ns.length
  good : ∀ c ∈ cs, Good c
  S : StoreAt C H' x L st
  lim : st.bits.length ≤ 32768
  told : H' tp = some (.lst (iV acc))
  ntx : tp ≠ x
  ntL : tp ≠ L
  same : Same H H'
  fx : H x = none
  fL : H L = none
  ft : H tp = none
  eq : PyMd03.answers ns = acc ++ PyFlat.told (playedS st (cs.map PyMd03.whole))
def spAns (K : PySem.W.Frag) : Sp := fun vs H Q _ => ∃ (a : Addr) (ns : List Int), vs = [.ref a] ∧ SqL K H a (iV ns) ∧ PyMd03.answers_asked ns = true ∧ ∀ (H' : Hp) (p : Addr), H' p = some (.lst (iV (PyMd03.answers ns))) → Q (.ref p) H'
theorem sc_answers : FnScope ["calls", "store", "told", "at", "number", "w", "rows", "row", "size", "answer"] ["calls"] (defScope (top 42)) := ⟨rfl, rfl, rfl, by decide +kernel, rfl, by decide +kernel, by decide +kernel⟩
theorem ok_answers {f : Addr} {fd : FuncData} (F : Fun K "answers" "answers" (top 42) f fd) (T : Txt K mg C CI) (B : Tab K mg aF aW aR ts tk) (h_call_answer : HasD P w K mg base "call_answer" 6 ["store", "number", "w", "rows"] (spCall C)) {f_i : Addr} {fd_i : FuncData} (M_Store : Mk K C f_i) (G_Store : FnOk P w K mg base CX0 1 f_i fd_i ["self"] (spStore C)) (b_Store : Binds K fd_i ["self"] []) :
    FnOk P w K mg base CX0 7 f fd ["calls"] (spAns K) := by
  obtain ⟨f_call_answer, fd_call_answer, g_call_answer, k_call_answer, b_call_answer, G_call_answer⟩ := h_call_answer.ex
  refine F.ok sc_answers (fun vs H Q E h => ?_) (fun cdv A outer s0 H vs Q E hr h => ?_)
  · obtain ⟨a, ns, rfl, _⟩ := h
    rfl
  · obtain ⟨a, ns, rfl, hS, hask, k⟩ := h
    obtain ⟨cs0, hput, hgood0, hans, hmost⟩ := asked_of hask
    refine ⟨_, (pss_cons (ps_set (i := 1) sc_answers.nd rfl (Or.inl rfl) (pe_make0 M_Store G_Store (hr.mono (by decide)) rfl T.gS b_Store .nil pass0))
      (pss_cons (ps_set (i := 2) sc_answers.nd rfl (Or.inl rfl) (pe_lst pa_nil))
      (pss_cons (ps_set (i := 3) sc_answers.nd rfl (Or.inl rfl) pe_int)
      (pss_cons (ps_while PassesOwn.never (pt_cmpR op_lt (pv 3) (pe_callB call_len_seq (by rfl) T.len PySem.boot_len (pa_cons (pv 0) pa_nil)) (nomark _)) (pss_cons (ps_set (i := 4) sc_answers.nd rfl (Or.inl rfl) (pe_ix ix_list (pv 0) (pv 3) (fun _ _ => rfl)))
      (pss_cons (ps_set (i := 3) sc_answers.nd rfl (Or.inl rfl) (pe_op op_add (pv 3) pe_int))
      (pss_cons (ps_set (i := 5) sc_answers.nd rfl (Or.inl rfl) (pe_slice sl_list (pv 0) (po_some (pv 3)) (po_some (pe_op op_add (pv 3) (pe_ix ix_tup (pe_glob (v := .ref aW) (by rfl) B.gWHOLE_NUMBERS rfl) (pv 4) (fun _ _ => rfl))))))
      (pss_cons (ps_set (i := 3) sc_answers.nd rfl (Or.inl rfl) (pe_op op_add (pv 3) (pe_ix ix_tup (pe_glob (v := .ref aW) (by rfl) B.gWHOLE_NUMBERS rfl) (pv 4) (fun _ _ => rfl))))
      (pss_cons (ps_set (i := 6) sc_answers.nd rfl (Or.inl rfl) (pe_lst pa_nil))
      (pss_cons (ps_for PassesOwn.never rfl (pi_range1 (by rfl) T.range (pa_cons (pe_ix ix_tup (pe_glob (v := .ref aR) (by rfl) B.gROWS rfl) (pv 4) (fun _ _ => rfl)) pa_nil)) (pg_name (i := 7) sc_answers.nd rfl (Or.inl rfl)) (pss_cons (ps_set (i := 8) sc_answers.nd rfl (Or.inl rfl) (pe_ix ix_list (pv 0) (pv 3) (fun _ _ => rfl)))
      (pss_cons (ps_expr (pe_bm PySem.F.plainAttrs_list PySem.F.slot_list_append PySem.F.type_list_append mt_append (pv 6) (pa_cons (pe_slice sl_list (pv 0) (po_some (pe_op op_add (pv 3) pe_int)) (po_some (pe_op op_add (pe_op op_add (pv 3) pe_int) (pv 8)))) pa_nil)))
      (pss_one (ps_set (i := 3) sc_answers.nd rfl (Or.inl rfl) (pe_op op_add (pe_op op_add (pv 3) pe_int) (pv 8)))))))
      (pss_cons (ps_set (i := 9) sc_answers.nd rfl (Or.inl rfl) (pe_call G_call_answer (hr.mono (by decide)) (by rfl) g_call_answer k_call_answer b_call_answer .nil pass0 (pa_cons (pv 1) (pa_cons (pv 4) (pa_cons (pv 5) (pa_cons (pv 6) pa_nil))))))
      (pss_cons (ps_expr (pe_bm PySem.F.plainAttrs_list PySem.F.slot_list_append PySem.F.type_list_append mt_append (pv 2) (pa_cons (pe_callB call_len_seq (by rfl) T.len PySem.boot_len (pa_cons (pv 9) pa_nil)) pa_nil)))
      (pss_one (ps_expr (pe_bm PySem.F.plainAttrs_list PySem.F.slot_list_extend PySem.F.type_list_extend mt_extend (pv 2) (pa_cons (pv 9) pa_nil)))))))))))))
      (pss_one (ps_ret (pv 2))))))), ?_⟩
    intro x dx hx hdx hne
    refine ⟨x, dx, rfl, upd_same, fun H1 L S1 hL k1 => ⟨rfl, ?_⟩⟩
    have s1 : Same H H1 := Same.made hx hdx k1
    have hxL : x ≠ L := S1.ne
    have hLH : H L = none := by
      have hLd : L ≠ dx := fun e => by
        rw [e, upd_ne hne, upd_same] at hL
        cases hL
      rw [upd_ne hxL.symm, upd_ne hLd] at hL
      exact hL
    refine ⟨Nat.zero_le _, fun tp htp => ?_⟩
    have htx : tp ≠ x := by
      obtain ⟨⟨d, e⟩, _⟩ := S1
      exact (ne_of_none e htp).symm
    have htL : tp ≠ L := (ne_of_none S1.lst htp).symm
    refine while_by (fun σ H' => ∃ (n : Nat) (cs : List Raw) (st : Md03.Abs) (L : Addr) (acc : List Int) (v4 v5 v6 v7 v8 v9 : Option V), σ = [some (.ref a), some (.ref x), some (.ref tp), some (.int (n : Int)), v4, v5, v6, v7, v8, v9] ∧ Run C ns a x tp H n cs st L acc H')
      (fun σ H' => match σ with
        | [_, _, _, some (.int n), _, _, _, _, _, _] => ns.length - n.toNat
        | _ => 0)
      ⟨0, cs0, Md03.init, L, [], none, none, none, none, none, none, rfl, ?_⟩ ?_ ?_
    · exact ⟨hput, Nat.zero_le _, hgood0, S1.same (Same.new htp), Nat.zero_le _, upd_same, htx, htL, s1.trans (Same.new htp), hx, hLH, s1.free htp, hans⟩
    · rintro σ H' ⟨n, cs, st, L, acc, v4, v5, v6, v7, v8, v9, rfl, R⟩
      have hS' := R.same.seq hS
      refine ⟨_, rfl, _, rfl, a, _, rfl, .inl hS', _, _, rfl, rfl, _, rfl, ?_⟩
      rw [iV_len]
      by_cases hlt : (n : Int) < (ns.length : Int)
      · rw [decide_eq_true hlt]
        refine iteT ?_
        obtain ⟨c, cs', rfl⟩ : ∃ c cs', cs = c :: cs' := by
          match cs with
          | [] =>
            have e := congrArg List.length R.rest
            rw [List.length_drop] at e
            have e0 : (PyFlat.put []).length = 0 := rfl
            omega
          | c :: cs' => exact ⟨c, cs', rfl⟩
        have hgc := R.good c List.mem_cons_self
        obtain ⟨q, hq⟩ := good_call hgc
        obtain ⟨⟨p, xs, rows, rfl, hsh⟩, _⟩ := id hgc
        obtain ⟨tabW, tabR⟩ := shape_tabs hsh
        have hd : ns.drop n = p :: (xs ++ (PyFlat.putRows rows ++ PyFlat.put cs')) := by
          rw [R.rest]
          show (p :: xs ++ PyFlat.putRows rows) ++ PyFlat.put cs' = _
          rw [List.append_assoc]
          rfl
        have hd1 : ns.drop (n + 1) = xs ++ (PyFlat.putRows rows ++ PyFlat.put cs') := by
          rw [← List.drop_drop, hd]
          rfl
        have hn1 : n + 1 ≤ ns.length := by omega
        obtain ⟨hd2, _⟩ := drop_app hd1
        have hn2 : n + 1 + xs.length ≤ ns.length := by
          have e := congrArg List.length hd1
          rw [List.length_drop, List.length_append] at e
          omega
        refine ⟨_, rfl, _, rfl, a, _, _, _, rfl, rfl, hS', at_part hd, ?_⟩
        refine ⟨_, rfl, _, _, rfl, rfl, ?_⟩
        refine ⟨_, rfl, _, rfl, _, rfl, _, rfl, _, rfl, aW, _, _, _, rfl, rfl, B.wholes _, tabW, _, _, rfl, rfl, _, rfl, a, _, rfl, hS', fun wa hwa => ?_⟩
        have ecut : cutV (iV ns) (some ((n : Int) + 1)) (some ((n : Int) + 1 + (xs.length : Int))) = iV xs := cut_part (i := n + 1) hd1 hn1
        rw [ecut]
        refine ⟨_, rfl, _, rfl, aW, _, _, _, rfl, rfl, B.wholes _, tabW, _, _, rfl, rfl, ?_⟩
        refine ⟨Nat.zero_le _, fun ra hra => ?_⟩
        have s2 : Same H' (upd H' wa (.lst (iV xs))) := Same.new hwa
        have s3 : Same H' (upd (upd H' wa (.lst (iV xs))) ra (.lst [])) := s2.trans (Same.new hra)
        have hwr : wa ≠ ra := fun e => by
          rw [← e, upd_same] at hra
          cases hra
        have hra0 : H' ra = none := s2.free hra
        generalize hHr : upd (upd H' wa (.lst (iV xs))) ra (.lst []) = Hr at s3
        have hraR : Hr ra = some (.lst (([] : List Addr).map V.ref)) := by
          rw [← hHr, upd_same]
          rfl
        have hwaR : Hr wa = some (.lst (iV xs)) := by
          rw [← hHr, upd_ne hwr, upd_same]
        refine ⟨_, rfl, aR, _, _, _, rfl, rfl, B.rows _, tabR, _, rfl, by omega, by
            have : rows.length ≤ 2 := by
              rcases shape_cases hsh with h | h | h | h | h | h | h | h | h | h <;> omega
            omega, for_range (lo := 0) (n := ((rows.length : Nat) : Int).toNat)
          (fun j σ H2 => ∃ (m : Nat) (rs : List Addr) (v7 v8 : Option V), σ = [some (.ref a), some (.ref x), some (.ref tp), some (.int (m : Int)), some (.int p), some (.ref wa), some (.ref ra), v7, v8, v9] ∧
            ns.drop m = PyFlat.putRows (rows.drop j) ++ PyFlat.put cs' ∧ m ≤ ns.length ∧ n < m ∧ H2 ra = some (.lst (rs.map V.ref)) ∧ All2 (fun b r => H2 b = some (.lst (iV r)) ∧ b ≠ ra) rs (rows.take j) ∧ (∀ b o, Hr b = some o → b ≠ ra → H2 b = some o))
          ⟨n + 1 + xs.length, [], v7, v8, rfl, hd2, hn2, by omega, hraR, .nil, fun b o e _ => e⟩ ?_ ?_⟩
        · rintro j σ H2 hj ⟨m, rs, w7, w8, rfl, hm, hml, hnm, hr2, hA2, k2⟩
          rw [Int.toNat_natCast] at hj
          have hrj := List.getElem?_eq_getElem hj
          generalize rows[j] = r at hrj
          rw [drop_at hrj] at hm
          have hm1 : ns.drop m = (r.length : Int) :: (r ++ (PyFlat.putRows (rows.drop (j + 1)) ++ PyFlat.put cs')) := by
            rw [hm]
            show ((r.length : Int) :: r ++ PyFlat.putRows (rows.drop (j + 1))) ++ PyFlat.put cs' = _
            rw [List.append_assoc]
            rfl
          have hm2 : ns.drop (m + 1) = r ++ (PyFlat.putRows (rows.drop (j + 1)) ++ PyFlat.put cs') := by
            rw [← List.drop_drop, hm1]
            rfl
          have hmlen : m + 1 + r.length ≤ ns.length := by
            have e := congrArg List.length hm1
            rw [List.length_drop, List.length_cons, List.length_append] at e
            omega
          have hS2 : SqL K H2 a (iV ns) := by
            rcases hS with (h | ⟨o, h⟩) | h
            · exact .inl (.inl (k2 _ _ (s3 _ _ (R.same _ _ h)) (ne_of_none (R.same _ _ h) hra0)))
            · exact .inl (.inr ⟨o, k2 _ _ (s3 _ _ (R.same _ _ h)) (ne_of_none (R.same _ _ h) hra0)⟩)
            · exact .inr h
          refine ⟨_, rfl, _, rfl, a, _, _, _, rfl, rfl, hS2, at_part hm1, ?_⟩
          refine ⟨_, rfl, .inl ⟨rfl, _, SqL.of hr2⟩, _, rfl, _, rfl, _, _, rfl, rfl, _, rfl, _, rfl, _, _, rfl, rfl, _, rfl, _, _, rfl, rfl, _, rfl, a, _, rfl, hS2, fun b hb => ?_⟩
          have ecut2 : cutV (iV ns) (some ((m : Int) + 1)) (some ((m : Int) + 1 + (r.length : Int))) = iV r := cut_part (i := m + 1) hm2 (by omega)
          rw [ecut2]
          have nbr : b ≠ ra := (ne_of_none hr2 hb).symm
          have rsl : rs.length ≤ 2 := by
            rw [hA2.len, List.length_take]
            rcases shape_cases hsh with h | h | h | h | h | h | h | h | h | h <;> omega
          refine ⟨ra, _, _, rfl, rfl, (by rw [upd_ne nbr.symm]; exact hr2), (by rw [List.length_map]; exact Nat.lt_of_le_of_lt rsl (by decide)), ?_⟩
          refine ⟨_, rfl, _, _, rfl, rfl, _, rfl, _, _, rfl, rfl, ?_⟩
          refine ⟨m + 1 + r.length, rs ++ [b], some (.int ((0 : Int) + (j : Int))), some (.int (r.length : Int)), rfl, (drop_app hm2).1, hmlen, by omega, ?_, ?_, ?_⟩
          · rw [upd_same, List.map_append]
            rfl
          · rw [take_more hrj]
            refine All2.snoc (hA2.mono fun y z _ ⟨e, e2⟩ => ⟨?_, e2⟩) ⟨?_, nbr⟩
            · rw [upd_ne e2, upd_ne (ne_of_none e hb)]
              exact e
            · rw [upd_ne nbr, upd_same]
          · intro y o e e2
            rw [upd_ne e2, upd_ne (ne_of_none (k2 y o e e2) hb)]
            exact k2 y o e e2
        · rintro σ H2 ⟨m, rs, w7, w8, rfl, hm, hml, hnm, hr2, hA2, k2⟩
          rw [Int.toNat_natCast] at hm hA2
          rw [List.drop_length] at hm
          rw [List.take_length] at hA2
          have hm : ns.drop m = PyFlat.put cs' := hm
          have s4 : Same H' H2 := fun b o e => k2 b o (s3 b o e) (ne_of_none e hra0)
          have S2 := R.S.same s4
          refine ⟨_, rfl, _, rfl, _, rfl, _, rfl, x, L, st, p, wa, ra, xs, rs, rows, rfl, S2, R.lim, k2 _ _ hwaR hwr, hr2, hA2.mono (fun y z _ e => e.1), hgc, fun q' hq' => ?_⟩
          rw [hq] at hq'
          cases hq'
          intro H3 pA L' h3 S3 hL' hpA hpL kp
          have ht2 : H2 tp = some (.lst (iV acc)) := s4 _ _ R.told
          have ht3 : H3 tp = some (.lst (iV acc)) := kp _ _ ht2 R.ntx R.ntL
          have npt : pA ≠ tp := (ne_of_none ht2 hpA).symm
          have hst := step_of (st := st) hq
          have elen : acc ++ PyFlat.told (playedS st ((((p :: xs) :: rows) :: cs').map PyMd03.whole)) = (acc ++ (((ansInts (Md03.does st q).1).length : Int) :: ansInts (Md03.does st q).1)) ++ PyFlat.told (playedS (Md03.does st q).2 (cs'.map PyMd03.whole)) := by
            show acc ++ PyFlat.told ((Md03Neutral.step st (PyMd03.whole ((p :: xs) :: rows))).2 :: playedS (Md03Neutral.step st (PyMd03.whole ((p :: xs) :: rows))).1 (cs'.map PyMd03.whole)) = _
            rw [hst]
            show acc ++ (((ansInts (Md03.does st q).1).length : Int) :: (ansInts (Md03.does st q).1 ++ PyFlat.told (playedS (Md03.does st q).2 (cs'.map PyMd03.whole)))) = _
            rw [List.append_assoc]
            rfl
          have eq' := R.eq.trans elen
          have tot : acc.length + 1 + (ansInts (Md03.does st q).1).length ≤ 10000000 := by
            rw [eq', List.length_append, List.length_append, List.length_cons] at hmost
            omega
          have slim : (10000000 : Nat) < sizeLine := by decide
          generalize ansInts (Md03.does st q).1 = ans at h3 eq' tot
          refine ⟨_, rfl, .inl ⟨rfl, _, SqL.of ht3⟩, _, rfl, pA, _, rfl, .inl (SqL.of h3), tp, _, _, rfl, rfl, ht3, (by rw [iV_len]; omega), ?_⟩
          refine ⟨_, rfl, .inl ⟨rfl, _, SqL.of upd_same⟩, _, rfl, tp, pA, _, _, rfl, rfl, upd_same, (by rw [upd_ne npt]; exact h3), ?_, ?_⟩
          · rw [List.length_append, iV_len, iV_len]
            show acc.length + 1 + ans.length ≤ sizeLine
            omega
          rw [upd_upd, iV_len]
          have e5 : iV acc ++ [V.int (ans.length : Int)] ++ iV ans = iV (acc ++ ((ans.length : Int) :: ans)) := by
            rw [iV_app, List.append_assoc]
            rfl
          rw [e5]
          have fL' : H L' = none := by
            rcases hL' with e | e
            · rw [e]
              exact R.fL
            · exact (R.same.trans s4).free e
          have ntL' : tp ≠ L' := by
            rcases hL' with e | e
            · rw [e]
              exact R.ntL
            · exact ne_of_none ht2 e
          refine ⟨⟨m, cs', (Md03.does st q).2, L', _, some (.int p), some (.ref wa), some (.ref ra), w7, w8, some (.ref pA), rfl, hm, hml, fun c hc => R.good c (List.mem_cons_of_mem _ hc), ?_, does_lim R.lim q, upd_same, R.ntx, ntL', ?_, R.fx, fL', R.ft, eq'⟩, ?_⟩
          · obtain ⟨⟨d, q1⟩, q2⟩ := S3
            exact ⟨⟨d, by rw [upd_ne R.ntx.symm]; exact q1⟩, by rw [upd_ne ntL'.symm]; exact q2⟩
          · intro b o e
            rw [upd_ne (ne_of_none e R.ft)]
            exact kp b o (s4 _ _ (R.same _ _ e)) (ne_of_none e R.fx) (ne_of_none e R.fL)
          · show ns.length - ((m : Int)).toNat < ns.length - ((n : Int)).toNat
            rw [Int.toNat_natCast, Int.toNat_natCast]
            omega
      · rw [decide_eq_false hlt]
        refine iteF ⟨_, rfl, k _ tp ?_⟩
        have e0 : cs = [] := by
          match cs, R with
          | [], _ => rfl
          | c :: cs', R =>
            obtain ⟨⟨p, xs, rows, rfl, hsh⟩, _⟩ := R.good c List.mem_cons_self
            have e := congrArg List.length R.rest
            rw [List.length_drop] at e
            have e1 : (PyFlat.put (((p :: xs) :: rows) :: cs')).length = ((xs ++ PyFlat.putRows rows) ++ PyFlat.put cs').length + 1 := rfl
            omega
        subst e0
        rw [R.told, R.eq]
        show _ = some (HO.lst (iV (acc ++ [])))
        rw [List.append_nil]
    · rintro σ H' Q1 Q2 hq ⟨v, e, v2, e2, p, ys, e3, e4, i, j, e5, e6, b, e7, q⟩
      exact ⟨v, e, v2, e2, p, ys, e3, e4, i, j, e5, e6, b, e7, hq _ _ q⟩
end
end Pb

/-! ## PbMk -/
namespace Pb
open PySem L2
/-! ### the end -/
section
variable {P : Program} {w : World} {K : PySem.W.Frag} {mg : Str → Option Value} {h : Heap}
theorem df_mk {x : Str} {st : Stmt} {f : Addr} {od an : Option Addr} {sl : Array (Option Value)} {oc kV dc pm cd ct : Value} (X : K.In h) (G : h.Ns mainGlobals mg) (a : PySem.W.nsIn K mainGlobals x = some (some (.ref f)))
    (l : K.lookup f = some ⟨oc, od, .func (PySem.W.fnOf x x (defArgs st) (defBody st) (defScope st) .none kV dc pm an cd ct), sl⟩) (c : PySem.W.codeIn K cd x = true) (k : PySem.W.keepIn K (.ref f) = true) : Df K mg x st :=
  ⟨f, _, fun_mk l c k, PySem.W.mg_of X G a⟩
theorem tup_at {a : Addr} {xs : List V} {c : Value} {od : Option Addr} {its : Array Value} {n : Nat} {sl : Array (Option Value)} (l : K.lookup a = some ⟨c, od, .seq its n, sl⟩) (hc : c = .type "tuple") (hz : its.size ≤ 100) (hv : Vals xs its.toList) : ∀ H : Hp, SqT K H a xs :=
  fun _ => .inr ⟨_, its, n, l, hc, rfl, Nat.le_trans hz (by decide), hv⟩
theorem all_ok {base : Heap} {C CI aF aW aR : Addr} {ts : List Addr} {tk : Tok} {f fi fs : Addr} {fd fdi fds : FuncData} (T : Txt K mg C CI) (B : Tab K mg aF aW aR ts tk)
    (FI : Fun K "__init__" "Item.__init__" (inClass (top 1) 0) fi fdi) (MI : Mk K CI fi) (FS : Fun K "__init__" "Store.__init__" (inClass (top 8) 0) fs fds) (MS : Mk K C fs)
    (d_split_blanks : Df K mg "split_blanks" (top 2))
    (d_read_width : Df K mg "read_width" (top 3))
    (d_read_item : Df K mg "read_item" (top 4))
    (d_read_format : Df K mg "read_format" (top 5))
    (d_format_width : Df K mg "format_width" (top 6))
    (d_has_room : Df K mg "has_room" (top 9))
    (d_has_left : Df K mg "has_left" (top 10))
    (d_put_bits : Df K mg "put_bits" (top 11))
    (d_read_bits : Df K mg "read_bits" (top 12))
    (d_signed : Df K mg "signed" (top 13))
    (d_number_of : Df K mg "number_of" (top 14))
    (d_eight_of : Df K mg "eight_of" (top 15))
    (d_single_of : Df K mg "single_of" (top 17))
    (d_double_of : Df K mg "double_of" (top 18))
    (d_may_be : Df K mg "may_be" (top 20))
    (d_in_signed_range : Df K mg "in_signed_range" (top 21))
    (d_bytes_number : Df K mg "bytes_number" (top 22))
    (d_field_of : Df K mg "field_of" (top 23))
    (d_put_value : Df K mg "put_value" (top 24))
    (d_value_bytes : Df K mg "value_bytes" (top 25))
    (d_read_value : Df K mg "read_value" (top 26))
    (d_init : Df K mg "init" (top 30))
    (d_in_range : Df K mg "in_range" (top 31))
    (d_put : Df K mg "put" (top 32))
    (d_read : Df K mg "read" (top 33))
    (d_head : Df K mg "head" (top 34))
    (d_read_head : Df K mg "read_head" (top 35))
    (d_seek : Df K mg "seek" (top 36))
    (d_tell_bytes : Df K mg "tell_bytes" (top 37))
    (d_call_answer : Df K mg "call_answer" (top 41))
    (FA : Fun K "answers" "answers" (top 42) f fd) : FnOk P w K mg base CX0 7 f fd ["calls"] (spAns K) := by
  have bI : Binds K fdi ["self", "letter", "width"] [] := FI.binds fun _ _ _ _ _ _ us hl => match us, hl with | [_, _, _], _ => rfl
  have bS : Binds K fds ["self"] [] := FS.binds fun _ _ _ _ _ _ us hl => match us, hl with | [_], _ => rfl
  have h_split_blanks : HasD P w K mg base "split_blanks" 1 ["text"] (spSplit K) := ok_split d_split_blanks T
  have h_read_width : HasD P w K mg base "read_width" 1 ["digits"] (spWidth K) := ok_width d_read_width T
  have h_read_item : HasD P w K mg base "read_item" 3 ["piece"] (spReadItem K CI) := ok_readItem d_read_item T h_read_width MI (ok_item FI T) bI
  have h_read_format : HasD P w K mg base "read_format" 4 ["text"] (spFormat K CI) := ok_format d_read_format T h_split_blanks h_read_item
  have h_format_width : HasD P w K mg base "format_width" 1 ["items"] (spSize CI) := ok_size d_format_width T
  have h_has_room : HasD P w K mg base "has_room" 1 ["store", "width"] (spRoom C) := ok_room d_has_room T
  have h_has_left : HasD P w K mg base "has_left" 1 ["store", "width"] (spLeft C) := ok_left d_has_left T
  have h_put_bits : HasD P w K mg base "put_bits" 1 ["store", "number", "width"] (spPut C) := ok_put d_put_bits T
  have h_read_bits : HasD P w K mg base "read_bits" 1 ["store", "width"] (spRead C) := ok_read d_read_bits T
  have h_signed : HasD P w K mg base "signed" 1 ["number", "width"] spSigned := ok_signed d_signed
  have h_number_of : HasD P w K mg base "number_of" 1 ["eight"] (spNum K) := ok_num d_number_of T
  have h_eight_of : HasD P w K mg base "eight_of" 1 ["number"] spEight := ok_eight d_eight_of T
  have h_single_of : HasD P w K mg base "single_of" 1 ["double"] spSingle := ok_single d_single_of
  have h_double_of : HasD P w K mg base "double_of" 1 ["single"] spDouble := ok_double d_double_of
  have h_may_be : HasD P w K mg base "may_be" 1 ["kind", "width"] spMay := ok_may d_may_be
  have h_in_signed_range : HasD P w K mg base "in_signed_range" 1 ["number", "width"] spRange := ok_range d_in_signed_range
  have h_bytes_number : HasD P w K mg base "bytes_number" 1 ["letters"] (spBig K) := ok_big d_bytes_number
  have h_field_of : HasD P w K mg base "field_of" 2 ["kind", "width", "eight"] (spField K) := ok_field d_field_of T h_number_of h_in_signed_range h_signed h_single_of h_bytes_number
  have h_put_value : HasD P w K mg base "put_value" 3 ["store", "kind", "width", "eight"] (spPutValue K C) := ok_putValue d_put_value T h_may_be h_field_of h_has_room h_put_bits
  have h_value_bytes : HasD P w K mg base "value_bytes" 2 ["kind", "width", "field"] spBytes := ok_bytes d_value_bytes T h_eight_of h_signed h_double_of
  have h_read_value : HasD P w K mg base "read_value" 3 ["store", "kind", "width"] (spReadValue C) := ok_readValue d_read_value T h_may_be h_has_left h_read_bits h_value_bytes
  have h_init : HasD P w K mg base "init" 1 ["store"] (spInit C) := ok_init d_init T
  have h_in_range : HasD P w K mg base "in_range" 2 ["item", "argument"] (spFits CI) := ok_fits d_in_range T h_in_signed_range
  have h_put : HasD P w K mg base "put" 5 ["store", "given", "text"] (spPutCall K C) := ok_putCall d_put T h_read_format h_in_range h_has_room h_format_width h_put_bits
  have h_read : HasD P w K mg base "read" 5 ["store", "text"] (spReadCall K C) := ok_readCall d_read T h_read_format h_has_left h_format_width h_read_bits h_signed
  have h_head : HasD P w K mg base "head" 2 ["store", "eight"] (spHead K C) := ok_head d_head T B h_has_room h_number_of h_put_bits
  have h_read_head : HasD P w K mg base "read_head" 2 ["store"] (spReadHead C) := ok_readHead d_read_head T B h_has_left h_read_bits h_eight_of
  have h_seek : HasD P w K mg base "seek" 1 ["store", "bit"] (spSeek C) := ok_seek d_seek T
  have h_tell_bytes : HasD P w K mg base "tell_bytes" 1 ["store", "cap"] (spTell C) := ok_tell d_tell_bytes T
  have h_call_answer : HasD P w K mg base "call_answer" 6 ["store", "number", "w", "rows"] (spCall C) := ok_call d_call_answer T h_init h_put h_read h_put_value h_read_value h_head h_read_head h_seek h_tell_bytes
  exact ok_answers FA T B h_call_answer MS (ok_store FS T) bS
theorem all_mk {fa f fs fi C CI aF aW aR tf0 tf1 tf2 tf3 tf4 tf5 tf6 tf7 : Addr} {tk ta0 tb0 ta1 tb1 ta2 tb2 ta3 tb3 ta4 tb4 ta5 tb5 ta6 tb6 ta7 tb7 tw0 tr0 tw1 tr1 tw2 tr2 tw3 tr3 tw4 tr4 tw5 tr5 tw6 tr6 tw7 tr7 tw8 tr8 tw9 tr9 tw10 tr10 : Tok}
    {od an ods ans odi ani odF odW odR odf0 odf1 odf2 odf3 odf4 odf5 odf6 odf7 : Option Addr} {sl sls sli slF slW slR slf0 slf1 slf2 slf3 slf4 slf5 slf6 slf7 : Array (Option Value)} {nF nW_ nR_ nf0 nf1 nf2 nf3 nf4 nf5 nf6 nf7 : Nat}
    {oc kV dc pm cd ct ocs kVs dcs pms cds cts oci kVi dci pmi cdi cti : Value} (X : K.In h) (G : h.Ns mainGlobals mg) (hfa : mg "answers" = some (.ref fa))
    (a : PySem.W.nsIn K mainGlobals "answers" = some (some (.ref f)))
    (l : K.lookup f = some ⟨oc, od, .func (PySem.W.fnOf "answers" "answers" (defArgs (top 42)) (defBody (top 42)) (defScope (top 42)) .none kV dc pm an cd ct), sl⟩)
    (c : PySem.W.codeIn K cd "answers" = true)
    (k : PySem.W.keepIn K (.ref f) = true)
    (gs : PySem.W.nsIn K mainGlobals "Store" = some (some (.ref C)))
    (ms : PySem.W.findIn K (.ref C) "__init__" = some (some (.ref fs)))
    (is : PySem.W.isFn K (.ref fs) = true)
    (ls : K.lookup fs = some ⟨ocs, ods, .func (PySem.W.fnOf "__init__" "Store.__init__" (defArgs (inClass (top 8) 0)) (defBody (inClass (top 8) 0)) (defScope (inClass (top 8) 0)) .none kVs dcs pms ans cds cts), sls⟩)
    (cs : PySem.W.codeIn K cds "Store.__init__" = true)
    (ks : PySem.W.keepIn K (.ref fs) = true)
    (pgs : PySem.W.plainGet K C Str.empty = true)
    (hds : PySem.W.hasDictIn K C = true)
    (pos : PySem.W.plainOver K C = true)
    (sas : PySem.W.findIn K (.ref C) "__setattr__" = some (some (.builtin "object.__setattr__")))
    (mks : PySem.W.makesIn K C = true)
    (kcs : PySem.W.keepIn K (.ref C) = true)
    (gi : PySem.W.nsIn K mainGlobals "Item" = some (some (.ref CI)))
    (mi : PySem.W.findIn K (.ref CI) "__init__" = some (some (.ref fi)))
    (ii : PySem.W.isFn K (.ref fi) = true)
    (li : K.lookup fi = some ⟨oci, odi, .func (PySem.W.fnOf "__init__" "Item.__init__" (defArgs (inClass (top 1) 0)) (defBody (inClass (top 1) 0)) (defScope (inClass (top 1) 0)) .none kVi dci pmi ani cdi cti), sli⟩)
    (ci : PySem.W.codeIn K cdi "Item.__init__" = true)
    (ki : PySem.W.keepIn K (.ref fi) = true)
    (pgi : PySem.W.plainGet K CI Str.empty = true)
    (hdi : PySem.W.hasDictIn K CI = true)
    (poi : PySem.W.plainOver K CI = true)
    (sai : PySem.W.findIn K (.ref CI) "__setattr__" = some (some (.builtin "object.__setattr__")))
    (mki : PySem.W.makesIn K CI = true)
    (kci : PySem.W.keepIn K (.ref CI) = true)
    (nB : PySem.W.findIn K (.ref C) "bits" = some none)
    (nP : PySem.W.findIn K (.ref C) "place" = some none)
    (nL : PySem.W.findIn K (.ref CI) "letter" = some none)
    (nW : PySem.W.findIn K (.ref CI) "width" = some none)
    (z_len : PySem.W.nsIn K mainGlobals "len" = some none)
    (z_range : PySem.W.nsIn K mainGlobals "range" = some none)
    (z_reversed : PySem.W.nsIn K mainGlobals "reversed" = some none)
    (z_sum : PySem.W.nsIn K mainGlobals "sum" = some none)
    (z_ord : PySem.W.nsIn K mainGlobals "ord" = some none)
    (z_list : PySem.W.nsIn K mainGlobals "list" = some none)
    (gF : PySem.W.nsIn K mainGlobals "FIELDS" = some (some (.ref aF)))
    (gH : PySem.W.nsIn K mainGlobals "HEAD_WIDTH" = some (some (.int 51 tk)))
    (gW : PySem.W.nsIn K mainGlobals "WHOLE_NUMBERS" = some (some (.ref aW)))
    (gR : PySem.W.nsIn K mainGlobals "ROWS" = some (some (.ref aR)))
    (lF : K.lookup aF = some ⟨.type "tuple", odF, .seq #[.ref tf0, .ref tf1, .ref tf2, .ref tf3, .ref tf4, .ref tf5, .ref tf6, .ref tf7] nF, slF⟩)
    (lf0 : K.lookup tf0 = some ⟨.type "tuple", odf0, .seq #[.int 0 ta0, .int 3 tb0] nf0, slf0⟩)
    (lf1 : K.lookup tf1 = some ⟨.type "tuple", odf1, .seq #[.int 3 ta1, .int 5 tb1] nf1, slf1⟩)
    (lf2 : K.lookup tf2 = some ⟨.type "tuple", odf2, .seq #[.int 8 ta2, .int 1 tb2] nf2, slf2⟩)
    (lf3 : K.lookup tf3 = some ⟨.type "tuple", odf3, .seq #[.int 9 ta3, .int 7 tb3] nf3, slf3⟩)
    (lf4 : K.lookup tf4 = some ⟨.type "tuple", odf4, .seq #[.int 16 ta4, .int 12 tb4] nf4, slf4⟩)
    (lf5 : K.lookup tf5 = some ⟨.type "tuple", odf5, .seq #[.int 32 ta5, .int 16 tb5] nf5, slf5⟩)
    (lf6 : K.lookup tf6 = some ⟨.type "tuple", odf6, .seq #[.int 48 ta6, .int 5 tb6] nf6, slf6⟩)
    (lf7 : K.lookup tf7 = some ⟨.type "tuple", odf7, .seq #[.int 53 ta7, .int 2 tb7] nf7, slf7⟩)
    (lW : K.lookup aW = some ⟨.type "tuple", odW, .seq #[.int 0 tw0, .int 0 tw1, .int 0 tw2, .int 0 tw3, .int 2 tw4, .int 2 tw5, .int 0 tw6, .int 0 tw7, .int 1 tw8, .int 0 tw9, .int 1 tw10] nW_, slW⟩)
    (lR : K.lookup aR = some ⟨.type "tuple", odR, .seq #[.int 0 tr0, .int 0 tr1, .int 2 tr2, .int 1 tr3, .int 1 tr4, .int 0 tr5, .int 1 tr6, .int 0 tr7, .int 0 tr8, .int 0 tr9, .int 0 tr10] nR_, slR⟩)
    (d_split_blanks : Df K mg "split_blanks" (top 2))
    (d_read_width : Df K mg "read_width" (top 3))
    (d_read_item : Df K mg "read_item" (top 4))
    (d_read_format : Df K mg "read_format" (top 5))
    (d_format_width : Df K mg "format_width" (top 6))
    (d_has_room : Df K mg "has_room" (top 9))
    (d_has_left : Df K mg "has_left" (top 10))
    (d_put_bits : Df K mg "put_bits" (top 11))
    (d_read_bits : Df K mg "read_bits" (top 12))
    (d_signed : Df K mg "signed" (top 13))
    (d_number_of : Df K mg "number_of" (top 14))
    (d_eight_of : Df K mg "eight_of" (top 15))
    (d_single_of : Df K mg "single_of" (top 17))
    (d_double_of : Df K mg "double_of" (top 18))
    (d_may_be : Df K mg "may_be" (top 20))
    (d_in_signed_range : Df K mg "in_signed_range" (top 21))
    (d_bytes_number : Df K mg "bytes_number" (top 22))
    (d_field_of : Df K mg "field_of" (top 23))
    (d_put_value : Df K mg "put_value" (top 24))
    (d_value_bytes : Df K mg "value_bytes" (top 25))
    (d_read_value : Df K mg "read_value" (top 26))
    (d_init : Df K mg "init" (top 30))
    (d_in_range : Df K mg "in_range" (top 31))
    (d_put : Df K mg "put" (top 32))
    (d_read : Df K mg "read" (top 33))
    (d_head : Df K mg "head" (top 34))
    (d_read_head : Df K mg "read_head" (top 35))
    (d_seek : Df K mg "seek" (top 36))
    (d_tell_bytes : Df K mg "tell_bytes" (top 37))
    (d_call_answer : Df K mg "call_answer" (top 41))
    : ∃ fd : FuncData, (∀ (s : Shared) (us : List Value), us.length = (["calls"] : List Str).length → BindsTo s fd ⟨us, []⟩ ((["calls"] : List Str).zip us)) ∧ ∀ base : Heap, K.In base → base.Ns mainGlobals mg → FnOk P w K mg base CX0 7 fa fd ["calls"] (spAns K) := by
  have e := hfa.symm.trans (PySem.W.mg_of X G a)
  cases e
  have T : Txt K mg C CI := ⟨⟨pgs, hds, pos, sas⟩, nB, nP, ⟨pgi, hdi, poi, sai⟩, nL, nW, PySem.W.mg_of X G gs, PySem.W.mg_of X G gi, PySem.W.mg_none_of X G z_len, PySem.W.mg_none_of X G z_range, PySem.W.mg_none_of X G z_reversed, PySem.W.mg_none_of X G z_sum, PySem.W.mg_none_of X G z_ord, PySem.W.mg_none_of X G z_list⟩
  have two : ∀ {u v : Int} {t1 t2 : Tok}, Vals [V.int u, V.int v] (#[Value.int u t1, Value.int v t2] : Array Value).toList := fun {u v t1 t2} => .cons ⟨_, rfl⟩ (.cons ⟨_, rfl⟩ .nil)
  have B : Tab K mg aF aW aR [tf0, tf1, tf2, tf3, tf4, tf5, tf6, tf7] tk := by
    refine ⟨PySem.W.mg_of X G gF, PySem.W.mg_of X G gH, PySem.W.mg_of X G gW, PySem.W.mg_of X G gR, ?_, ?_, ?_, ?_⟩
    · exact tup_at lF rfl (by show 8 ≤ 100; decide) (.cons rfl (.cons rfl (.cons rfl (.cons rfl (.cons rfl (.cons rfl (.cons rfl (.cons rfl (.nil)))))))))
    · exact .cons (tup_at lf0 rfl (by show 2 ≤ 100; decide) two) (.cons (tup_at lf1 rfl (by show 2 ≤ 100; decide) two) (.cons (tup_at lf2 rfl (by show 2 ≤ 100; decide) two) (.cons (tup_at lf3 rfl (by show 2 ≤ 100; decide) two) (.cons (tup_at lf4 rfl (by show 2 ≤ 100; decide) two) (.cons (tup_at lf5 rfl (by show 2 ≤ 100; decide) two) (.cons (tup_at lf6 rfl (by show 2 ≤ 100; decide) two) (.cons (tup_at lf7 rfl (by show 2 ≤ 100; decide) two) (.nil))))))))
    · exact tup_at lW rfl (by show 11 ≤ 100; decide) (.cons ⟨_, rfl⟩ (.cons ⟨_, rfl⟩ (.cons ⟨_, rfl⟩ (.cons ⟨_, rfl⟩ (.cons ⟨_, rfl⟩ (.cons ⟨_, rfl⟩ (.cons ⟨_, rfl⟩ (.cons ⟨_, rfl⟩ (.cons ⟨_, rfl⟩ (.cons ⟨_, rfl⟩ (.cons ⟨_, rfl⟩ (.nil))))))))))))
    · exact tup_at lR rfl (by show 11 ≤ 100; decide) (.cons ⟨_, rfl⟩ (.cons ⟨_, rfl⟩ (.cons ⟨_, rfl⟩ (.cons ⟨_, rfl⟩ (.cons ⟨_, rfl⟩ (.cons ⟨_, rfl⟩ (.cons ⟨_, rfl⟩ (.cons ⟨_, rfl⟩ (.cons ⟨_, rfl⟩ (.cons ⟨_, rfl⟩ (.cons ⟨_, rfl⟩ (.nil))))))))))))
  exact ⟨_, fun s us hu => match us, hu with | [_], _ => .of_eq rfl, fun base _ _ => all_ok T B (fun_mk li ci ki) ⟨mki, mi, ii, kci⟩ (fun_mk ls cs ks) ⟨mks, ms, is, kcs⟩ d_split_blanks d_read_width d_read_item d_read_format d_format_width d_has_room d_has_left d_put_bits d_read_bits d_signed d_number_of d_eight_of d_single_of d_double_of d_may_be d_in_signed_range d_bytes_number d_field_of d_put_value d_value_bytes d_read_value d_init d_in_range d_put d_read d_head d_read_head d_seek d_tell_bytes d_call_answer (fun_mk l c k)⟩
end
end Pb

/-! ## PbEnd -/
open PySem PySem.W PyProof.Rows
set_option maxRecDepth 100000 in
set_option maxHeartbeats 0 in
theorem PySem.Challenge.cw_packedbits_s01_answers_holds : PySem.Challenge.rw_packedbits_s01_answers.Holds := by
  w_on; k_headS; (case hw => exact ⟨[.list [.int 1]], by decide +kernel, by decide +kernel⟩)
  k_fillS
  refine L2.walk_specK (r := PySem.Challenge.rw_packedbits_s01_answers) (k := 7) (CX := L2.CX0) (ps := ["calls"]) (sp := Pb.spAns) (by decide +kernel) rfl rfl ⟨rfl, by decide, by decide⟩ (fun w h Y => PySem.W.kIn_of Y) ?F ?S (fun _ _ _ _ z => z)
  case F =>
    intro w mg fa h Y KX G hmg
    refine' Pb.all_mk KX G hmg ?a ?l ?c ?k ?gs ?ms ?is ?ls ?cs ?ks ?pgs ?hds ?pos ?sas ?mks ?kcs ?gi ?mi ?ii ?li ?ci ?ki ?pgi ?hdi ?poi ?sai ?mki ?kci ?nB ?nP ?nL ?nW ?z_len ?z_range ?z_reversed ?z_sum ?z_ord ?z_list ?gF ?gH ?gW ?gR ?lF ?lf0 ?lf1 ?lf2 ?lf3 ?lf4 ?lf5 ?lf6 ?lf7 ?lW ?lR ?d_split_blanks ?d_read_width ?d_read_item ?d_read_format ?d_format_width ?d_has_room ?d_has_left ?d_put_bits ?d_read_bits ?d_signed ?d_number_of ?d_eight_of ?d_single_of ?d_double_of ?d_may_be ?d_in_signed_range ?d_bytes_number ?d_field_of ?d_put_value ?d_value_bytes ?d_read_value ?d_init ?d_in_range ?d_put ?d_read ?d_head ?d_read_head ?d_seek ?d_tell_bytes ?d_call_answer
    (case a => k_is)
    (case l => k_is)
    (case c => k_is)
    (case k => k_is)
    (case gs => k_is)
    (case ms => k_is)
    (case is => k_is)
    (case ls => k_is)
    (case cs => k_is)
    (case ks => k_is)
    (case pgs => k_is)
    (case hds => k_is)
    (case pos => k_is)
    (case sas => k_is)
    (case mks => k_is)
    (case kcs => k_is)
    (case gi => k_is)
    (case mi => k_is)
    (case ii => k_is)
    (case li => k_is)
    (case ci => k_is)
    (case ki => k_is)
    (case pgi => k_is)
    (case hdi => k_is)
    (case poi => k_is)
    (case sai => k_is)
    (case mki => k_is)
    (case kci => k_is)
    (case nB => k_is)
    (case nP => k_is)
    (case nL => k_is)
    (case nW => k_is)
    (case z_len => k_is)
    (case z_range => k_is)
    (case z_reversed => k_is)
    (case z_sum => k_is)
    (case z_ord => k_is)
    (case z_list => k_is)
    (case gF => k_is)
    (case gH => k_is)
    (case gW => k_is)
    (case gR => k_is)
    (case lF => k_is)
    (case lf0 => k_is)
    (case lf1 => k_is)
    (case lf2 => k_is)
    (case lf3 => k_is)
    (case lf4 => k_is)
    (case lf5 => k_is)
    (case lf6 => k_is)
    (case lf7 => k_is)
    (case lW => k_is)
    (case lR => k_is)
    (case d_split_blanks => refine' Pb.df_mk KX G ?a ?l ?c ?k; (case a => k_is); (case l => k_is); (case c => k_is); (case k => k_is))
    (case d_read_width => refine' Pb.df_mk KX G ?a ?l ?c ?k; (case a => k_is); (case l => k_is); (case c => k_is); (case k => k_is))
    (case d_read_item => refine' Pb.df_mk KX G ?a ?l ?c ?k; (case a => k_is); (case l => k_is); (case c => k_is); (case k => k_is))
    (case d_read_format => refine' Pb.df_mk KX G ?a ?l ?c ?k; (case a => k_is); (case l => k_is); (case c => k_is); (case k => k_is))
    (case d_format_width => refine' Pb.df_mk KX G ?a ?l ?c ?k; (case a => k_is); (case l => k_is); (case c => k_is); (case k => k_is))
    (case d_has_room => refine' Pb.df_mk KX G ?a ?l ?c ?k; (case a => k_is); (case l => k_is); (case c => k_is); (case k => k_is))
    (case d_has_left => refine' Pb.df_mk KX G ?a ?l ?c ?k; (case a => k_is); (case l => k_is); (case c => k_is); (case k => k_is))
    (case d_put_bits => refine' Pb.df_mk KX G ?a ?l ?c ?k; (case a => k_is); (case l => k_is); (case c => k_is); (case k => k_is))
    (case d_read_bits => refine' Pb.df_mk KX G ?a ?l ?c ?k; (case a => k_is); (case l => k_is); (case c => k_is); (case k => k_is))
    (case d_signed => refine' Pb.df_mk KX G ?a ?l ?c ?k; (case a => k_is); (case l => k_is); (case c => k_is); (case k => k_is))
    (case d_number_of => refine' Pb.df_mk KX G ?a ?l ?c ?k; (case a => k_is); (case l => k_is); (case c => k_is); (case k => k_is))
    (case d_eight_of => refine' Pb.df_mk KX G ?a ?l ?c ?k; (case a => k_is); (case l => k_is); (case c => k_is); (case k => k_is))
    (case d_single_of => refine' Pb.df_mk KX G ?a ?l ?c ?k; (case a => k_is); (case l => k_is); (case c => k_is); (case k => k_is))
    (case d_double_of => refine' Pb.df_mk KX G ?a ?l ?c ?k; (case a => k_is); (case l => k_is); (case c => k_is); (case k => k_is))
    (case d_may_be => refine' Pb.df_mk KX G ?a ?l ?c ?k; (case a => k_is); (case l => k_is); (case c => k_is); (case k => k_is))
    (case d_in_signed_range => refine' Pb.df_mk KX G ?a ?l ?c ?k; (case a => k_is); (case l => k_is); (case c => k_is); (case k => k_is))
    (case d_bytes_number => refine' Pb.df_mk KX G ?a ?l ?c ?k; (case a => k_is); (case l => k_is); (case c => k_is); (case k => k_is))
    (case d_field_of => refine' Pb.df_mk KX G ?a ?l ?c ?k; (case a => k_is); (case l => k_is); (case c => k_is); (case k => k_is))
    (case d_put_value => refine' Pb.df_mk KX G ?a ?l ?c ?k; (case a => k_is); (case l => k_is); (case c => k_is); (case k => k_is))
    (case d_value_bytes => refine' Pb.df_mk KX G ?a ?l ?c ?k; (case a => k_is); (case l => k_is); (case c => k_is); (case k => k_is))
    (case d_read_value => refine' Pb.df_mk KX G ?a ?l ?c ?k; (case a => k_is); (case l => k_is); (case c => k_is); (case k => k_is))
    (case d_init => refine' Pb.df_mk KX G ?a ?l ?c ?k; (case a => k_is); (case l => k_is); (case c => k_is); (case k => k_is))
    (case d_in_range => refine' Pb.df_mk KX G ?a ?l ?c ?k; (case a => k_is); (case l => k_is); (case c => k_is); (case k => k_is))
    (case d_put => refine' Pb.df_mk KX G ?a ?l ?c ?k; (case a => k_is); (case l => k_is); (case c => k_is); (case k => k_is))
    (case d_read => refine' Pb.df_mk KX G ?a ?l ?c ?k; (case a => k_is); (case l => k_is); (case c => k_is); (case k => k_is))
    (case d_head => refine' Pb.df_mk KX G ?a ?l ?c ?k; (case a => k_is); (case l => k_is); (case c => k_is); (case k => k_is))
    (case d_read_head => refine' Pb.df_mk KX G ?a ?l ?c ?k; (case a => k_is); (case l => k_is); (case c => k_is); (case k => k_is))
    (case d_seek => refine' Pb.df_mk KX G ?a ?l ?c ?k; (case a => k_is); (case l => k_is); (case c => k_is); (case k => k_is))
    (case d_tell_bytes => refine' Pb.df_mk KX G ?a ?l ?c ?k; (case a => k_is); (case l => k_is); (case c => k_is); (case k => k_is))
    (case d_call_answer => refine' Pb.df_mk KX G ?a ?l ?c ?k; (case a => k_is); (case l => k_is); (case c => k_is); (case k => k_is))
  case S =>
    intro K H xs a hO hwi hask hx
    cases hx with
    | cons h1 h2 =>
      cases h2
      cases h1 with
      | lst hs ha =>
        have e := L2.ints_dw a.1 _ ha
        subst e
        exact ⟨_, a.1, rfl, hs, hask, fun H' p hp => .lst (L2.SqL.of hp) (L2.dw_ints _)⟩
#print axioms PySem.Challenge.cw_packedbits_s01_answers_holds
