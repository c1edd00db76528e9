/- Parts of the proofs about chapter 5 (pool), joined by program. -/
import Derived.Test.YtelpepbpdojikaaGreatDoorKe4
import Derived.Test.YtelpepbpdojikaaGreatDoorKe13
import Derived.Test.YtelpepbpdojikaaGreatDoorKe14
set_option linter.unusedVariables false
set_option linter.unusedSimpArgs false
namespace Go.Proofs.YtelpepbpdojikaaGreatDoor
open Go.RowKit
theorem ba_app (a b : List UInt8) : (ByteArray.mk a.toArray) ++ (ByteArray.mk b.toArray) = ⟨(a ++ b).toArray⟩ := by
  apply ByteArray.ext
  rw [ByteArray.data_append]
  simp
theorem ba_kind (k : ByteArray) : k = ⟨k.toList.toArray⟩ := by rw [ByteArray.toList_eq]
def prL (x : M.Shot) : List UInt8 := if x.player = 1 then [98, 32] else [97, 32]
def pr0 (x : M.Shot) : List UInt8 := prL x ++ x.kind.toList
def pr1 (x : M.Shot) : List UInt8 := pr0 x ++ if x.ball ≠ 0 then [32, 99] ++ M.dec x.ball ++ [47] ++ M.dec x.pocket else []
def pr2 (x : M.Shot) : List UInt8 := pr1 x ++ if x.first ≠ 0 then [32, 102] ++ M.dec x.first else []
def pr3 (x : M.Shot) : List UInt8 := pr2 x ++ if x.cushion = true then [32, 43] else []
def prPot (p : M.Pot) : List UInt8 := [32, 112] ++ M.dec p.ball ++ [47] ++ M.dec p.pocket
def prK (x : M.Shot) (k : Nat) : List UInt8 := pr3 x ++ (x.pots.take k).flatMap prPot
theorem prK_print (x : M.Shot) : prK x x.pots.length = M.print x := by
  unfold prK M.print M.pieces M.join pr3 pr2 pr1 pr0 prL
  simp only
  rw [List.take_length, List.flatMap_cons, M.tail_assoc, List.flatMap_append, List.flatMap_append, List.flatMap_append]
  have e1 : (if x.player = 1 then [98, 32] else [97, 32]) ++ x.kind.toList = M.letter x.player ++ (32 :: x.kind.toList) := by unfold M.letter; split <;> simp
  have e2 : (if x.ball ≠ 0 then [32, 99] ++ M.dec x.ball ++ [47] ++ M.dec x.pocket else []) = (if x.ball ≠ 0 then [M.pairText 99 x.ball x.pocket] else []).flatMap fun b => (32 : UInt8) :: b := by split <;> simp [M.pairText]
  have e3 : (if x.first ≠ 0 then [32, 102] ++ M.dec x.first else []) = (if x.first ≠ 0 then [(102 : UInt8) :: M.dec x.first] else []).flatMap fun b => (32 : UInt8) :: b := by split <;> simp
  have e4 : (if x.cushion = true then [(32 : UInt8), 43] else []) = (if x.cushion = true then [[(43 : UInt8)]] else []).flatMap fun b => (32 : UInt8) :: b := by split <;> simp
  have e5 : x.pots.flatMap prPot = (x.pots.map fun p => M.pairText 112 p.ball p.pocket).flatMap fun b => (32 : UInt8) :: b := by
    rw [List.flatMap_map]
    congr 1
    funext p
    simp [prPot, M.pairText]
  rw [e1, e2, e3, e4, e5]
  simp only [List.append_assoc]
theorem prPot_len (p : M.Pot) : (prPot p).length ≤ 7 := by
  have h1 := M.dec_length p.ball
  have h2 := M.dec_length p.pocket
  simp only [prPot, List.length_append, List.length_cons, List.length_nil]
  omega
theorem prPots_len (l : List M.Pot) : (l.flatMap prPot).length ≤ 7 * l.length := by
  induction l with
  | nil => simp
  | cons p l ih =>
    have := prPot_len p
    rw [List.flatMap_cons, List.length_append, List.length_cons]
    omega
theorem pr_len {x : M.Shot} (hx : M.ShotOk x) : (prL x).length ≤ 2 ∧ (pr0 x).length ≤ 9 ∧ (pr1 x).length ≤ 16 ∧ (pr2 x).length ≤ 20 ∧ (pr3 x).length ≤ 22 ∧ x.kind.size ≤ 7 := by
  have hk := (M.kind_plain hx.kind).2.2
  have hks : x.kind.size = x.kind.toList.length := by rw [ByteArray.toList_eq]; exact Array.length_toList.symm
  have h0 : (prL x).length ≤ 2 := by unfold prL; split <;> simp
  have h1 : (pr0 x).length ≤ 9 := by unfold pr0; rw [List.length_append]; omega
  have h2 : (pr1 x).length ≤ 16 := by
    have a := M.dec_length x.ball
    have b := M.dec_length x.pocket
    unfold pr1
    rw [List.length_append]
    split
    · simp only [List.length_append, List.length_cons, List.length_nil]; omega
    · simp only [List.length_nil]; omega
  have h3 : (pr2 x).length ≤ 20 := by
    have a := M.dec_length x.first
    unfold pr2
    rw [List.length_append]
    split
    · simp only [List.length_append, List.length_cons, List.length_nil]; omega
    · simp only [List.length_nil]; omega
  have h4 : (pr3 x).length ≤ 22 := by
    unfold pr3
    rw [List.length_append]
    split <;> simp <;> omega
  exact ⟨h0, h1, h2, h3, h4, by omega⟩
theorem prK_len {x : M.Shot} (hx : M.ShotOk x) (k : Nat) : (prK x k).length ≤ 140 := by
  have h := (pr_len hx).2.2.2.2.1
  have h2 := prPots_len (x.pots.take k)
  have h3 := hx.few
  have h4 : (x.pots.take k).length ≤ x.pots.length := List.length_take_le' _ _
  unfold prK
  rw [List.length_append]
  omega
end Go.Proofs.YtelpepbpdojikaaGreatDoor
