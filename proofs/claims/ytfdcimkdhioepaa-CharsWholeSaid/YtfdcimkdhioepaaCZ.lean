/-
  SMALL WORDS for the laws by bytes of chapter 1.
-/
import Derived.Test.YtfdcimkdhioepaaCY
namespace Go.Proofs.Ytfdcimkdhioepaa
open Go.RowKit Go.Shelf Mist
theorem ofL_beq (x y : Bs) : (ofL x == ofL y) = decide (x = y) := by
  rw [Bool.eq_iff_iff]
  constructor
  · intro h
    rw [beq_toListBytes] at h
    rw [ofL_bytes, ofL_bytes] at h
    simpa using h
  · intro h
    have h : x = y := by simpa using h
    rw [h, beq_toListBytes]
    simp
theorem ofL_bne (x y : Bs) : (ofL x != ofL y) = !decide (x = y) := by rw [bne, ofL_beq]
theorem one_at (s : Bs) (n : Nat) (h : n < s.length) : List.drop n (List.take (n + 1) s) = [gt s n] := by
  rw [take_gt s n h, List.drop_append_of_le_length (by simp; omega), List.drop_of_length_le (by simp; omega), List.nil_append]
theorem byte_is {b : UInt8} {k : Nat} (h : b.toNat = k) (hk : k < 256) : b = UInt8.ofNat k := by
  apply UInt8.toNat_inj.1
  rw [h, UInt8.toNat_ofNat', Nat.mod_eq_of_lt (by omega)]
theorem eqI {a b : Int} (h : a = b) : (a == b) = true := by rw [h]; simp
theorem neI {a b : Int} (h : a ≠ b) : (a == b) = false := by rw [beq_eq_false_iff_ne]; exact h
theorem neI' {a b : Int} (h : a ≠ b) : (a != b) = true := by simp [bne, h]
theorem eqI' {a b : Int} (h : a = b) : (a != b) = false := by simp [bne, h]
theorem byte_neN {b : UInt8} {k : Nat} (h : b ≠ UInt8.ofNat k) (hk : k < 256) : (b.toNat : Int) ≠ (k : Int) := fun e => h (byte_is (by omega) hk)
end Go.Proofs.Ytfdcimkdhioepaa
