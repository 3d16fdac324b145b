/- Functional texts of the functions: printed by a program of ours (gen.py). -/
import Derived.Test.YtaphdnpjpmnaeaaDenJ
set_option linter.unusedVariables false
namespace Go.Proofs.Ytaphdnpjpmnaeaa
open Go.Am
abbrev Y3 : Lay Int := Lay.one (SV.int .i64)
abbrev Y23 : Lay (List Int) := Lay.sl Y3
abbrev Y54 : Lay (List Bool) := Lay.arr 10 SV.bool
abbrev Y37 : Lay (List Int) := Lay.arr 6 (SV.int .i64)
abbrev Y75 : Lay Int := Lay.one (SV.int .u64)

def F23_l0 (F : Nat) (t0 : List Int) (s6 : Int × (List Bool)) : Option (Stp (Int × (List Bool)) (Unit ⊕ Int)) :=
  if (decide (s6.1 < (t0.length : Int))) then
  ((at? t0 s6.1).bind fun x14 =>
  (if ((decide (x14 < 0)) || (decide (x14 ≥ (t0.length : Int)))) then some true else 
  ((at? s6.2 x14).bind fun x17 =>
  some x17)
  ).bind fun y20 =>
  if y20 then
  (some (.stop ((.inr 3))))
  else
  (ck s6.2 x14).bind fun u23 =>
  some (.more (((wrapA .i64 (s6.1 + 1)), (s6.2.set ((Int.toNat x14)) true)))))
  else
  some (.stop ((.inl ())))
def F23 (F : Nat) (t0 : List Int) : Option Int :=
  if (decide ((t0.length : Int) > 10)) then
  (some 2)
  else
  (iter (F23_l0 F t0) F (0, (List.replicate 10 false))).bind fun b27 =>
  match b27 with
  | .inl b29 => (some 0)
  | .inr b29 => (some b29)

def F8_l0 (F : Nat) (t0 : Int) (t1 : List (List Int)) (s4 : Int) : Option (Stp (Int) (Unit ⊕ Int)) :=
  if (decide (s4 < (t1.length : Int))) then
  ((at? t1 s4).bind fun L12 =>
  (F23 F L12).bind fun r16 =>
  if ((r16 != 0) || ((L12.length : Int) != t0)) then
  (some (.stop ((.inr 3))))
  else
  some (.more ((wrapA .i64 (s4 + 1)))))
  else
  some (.stop ((.inl ())))
def F8 (F : Nat) (t0 : Int) (t1 : List (List Int)) : Option Int :=
  if ((decide (t0 < 0)) || (decide (t0 > 6))) then
  (some 1)
  else
  if (decide ((t1.length : Int) > 6)) then
  (some 2)
  else
  (iter (F8_l0 F t0 t1) F 0).bind fun b22 =>
  match b22 with
  | .inl b24 => (some 0)
  | .inr b24 => (some b24)

def F14 (F : Nat) (t0 : List Int) : Option ((List Int)) :=
  some (((cpy ((List.replicate 6 0)) t0)))

def F15_l0 (F : Nat) (t0 : List Int) (t1 : List Int) (s18 : Int × (List Int)) : Option (Stp (Int × (List Int)) ((List Int))) :=
  if (decide (s18.1 < (t1.length : Int))) then
  ((at? t1 s18.1).bind fun x24 =>
  (at? t0 x24).bind fun x26 =>
  (ck s18.2 s18.1).bind fun u28 =>
  some (.more (((wrapA .i64 (s18.1 + 1)), (s18.2.set ((Int.toNat s18.1)) x26)))))
  else
  some (.stop s18.2)
def F15 (F : Nat) (t0 : List Int) (t1 : List Int) : Option ((List Int) × Int) :=
  (F23 F t0).bind fun r1 =>
  if (r1 != 0) then
  (some (([], r1)))
  else
  (F23 F t1).bind fun r6 =>
  if (r6 != 0) then
  (some (([], r6)))
  else
  if ((t0.length : Int) != (t1.length : Int)) then
  (some (([], 1)))
  else
  (mk? (t0.length : Int) (0 : Int)).bind fun L12 =>
  (iter (F15_l0 F t0 t1) F (0, L12)).bind fun b32 =>
  some ((b32, 0))

def F45 (F : Nat) (t0 : Int) : Option Int :=
  (show Option (Int × Int) from (if (decide (t0 ≥ 65536)) then
  ((shr? .u32 t0 16).bind fun x2 =>
  some ((x2, 16)))
  else
  some ((t0, 0)))).bind fun b4 =>
  if (decide (b4.1 ≥ 256)) then
  ((shr? .u32 b4.1 8).bind fun x10 =>
  (at? ([0, 1, 2, 2, 3, 3, 3, 3, 4, 4, 4, 4, 4, 4, 4, 4, 5, 5, 5, 5, 5, 5, 5, 5, 5, 5, 5, 5, 5, 5, 5, 5, 6, 6, 6, 6, 6, 6, 6, 6, 6, 6, 6, 6, 6, 6, 6, 6, 6, 6, 6, 6, 6, 6, 6, 6, 6, 6, 6, 6, 6, 6, 6, 6, 7, 7, 7, 7, 7, 7, 7, 7, 7, 7, 7, 7, 7, 7, 7, 7, 7, 7, 7, 7, 7, 7, 7, 7, 7, 7, 7, 7, 7, 7, 7, 7, 7, 7, 7, 7, 7, 7, 7, 7, 7, 7, 7, 7, 7, 7, 7, 7, 7, 7, 7, 7, 7, 7, 7, 7, 7, 7, 7, 7, 7, 7, 7, 7, 8, 8, 8, 8, 8, 8, 8, 8, 8, 8, 8, 8, 8, 8, 8, 8, 8, 8, 8, 8, 8, 8, 8, 8, 8, 8, 8, 8, 8, 8, 8, 8, 8, 8, 8, 8, 8, 8, 8, 8, 8, 8, 8, 8, 8, 8, 8, 8, 8, 8, 8, 8, 8, 8, 8, 8, 8, 8, 8, 8, 8, 8, 8, 8, 8, 8, 8, 8, 8, 8, 8, 8, 8, 8, 8, 8, 8, 8, 8, 8, 8, 8, 8, 8, 8, 8, 8, 8, 8, 8, 8, 8, 8, 8, 8, 8, 8, 8, 8, 8, 8, 8, 8, 8, 8, 8, 8, 8, 8, 8, 8, 8, 8, 8, 8, 8, 8, 8, 8, 8, 8, 8, 8, 8, 8, 8, 8, 8] : List UInt8) (wrapA .u8 x10)).bind fun x12 =>
  some ((wrapA .i64 ((wrapA .i64 (b4.2 + 8)) + (wrapA .i64 (x12.toNat : Int))))))
  else
  (at? ([0, 1, 2, 2, 3, 3, 3, 3, 4, 4, 4, 4, 4, 4, 4, 4, 5, 5, 5, 5, 5, 5, 5, 5, 5, 5, 5, 5, 5, 5, 5, 5, 6, 6, 6, 6, 6, 6, 6, 6, 6, 6, 6, 6, 6, 6, 6, 6, 6, 6, 6, 6, 6, 6, 6, 6, 6, 6, 6, 6, 6, 6, 6, 6, 7, 7, 7, 7, 7, 7, 7, 7, 7, 7, 7, 7, 7, 7, 7, 7, 7, 7, 7, 7, 7, 7, 7, 7, 7, 7, 7, 7, 7, 7, 7, 7, 7, 7, 7, 7, 7, 7, 7, 7, 7, 7, 7, 7, 7, 7, 7, 7, 7, 7, 7, 7, 7, 7, 7, 7, 7, 7, 7, 7, 7, 7, 7, 7, 8, 8, 8, 8, 8, 8, 8, 8, 8, 8, 8, 8, 8, 8, 8, 8, 8, 8, 8, 8, 8, 8, 8, 8, 8, 8, 8, 8, 8, 8, 8, 8, 8, 8, 8, 8, 8, 8, 8, 8, 8, 8, 8, 8, 8, 8, 8, 8, 8, 8, 8, 8, 8, 8, 8, 8, 8, 8, 8, 8, 8, 8, 8, 8, 8, 8, 8, 8, 8, 8, 8, 8, 8, 8, 8, 8, 8, 8, 8, 8, 8, 8, 8, 8, 8, 8, 8, 8, 8, 8, 8, 8, 8, 8, 8, 8, 8, 8, 8, 8, 8, 8, 8, 8, 8, 8, 8, 8, 8, 8, 8, 8, 8, 8, 8, 8, 8, 8, 8, 8, 8, 8, 8, 8, 8, 8, 8, 8] : List UInt8) (wrapA .u8 b4.1)).bind fun x14 =>
  some ((wrapA .i64 (b4.2 + (wrapA .i64 (x14.toNat : Int)))))

def F46 (F : Nat) (t0 : Int) : Option Int :=
  (show Option (Int × Int) from (if (decide (t0 ≥ 4294967296)) then
  ((shr? .u64 t0 32).bind fun x2 =>
  some ((x2, 32)))
  else
  some ((t0, 0)))).bind fun b4 =>
  (show Option (Int × Int) from (if (decide (b4.1 ≥ 65536)) then
  ((shr? .u64 b4.1 16).bind fun x10 =>
  some ((x10, (wrapA .i64 (b4.2 + 16)))))
  else
  some ((b4.1, b4.2)))).bind fun b12 =>
  if (decide (b12.1 ≥ 256)) then
  ((shr? .u64 b12.1 8).bind fun x18 =>
  (at? ([0, 1, 2, 2, 3, 3, 3, 3, 4, 4, 4, 4, 4, 4, 4, 4, 5, 5, 5, 5, 5, 5, 5, 5, 5, 5, 5, 5, 5, 5, 5, 5, 6, 6, 6, 6, 6, 6, 6, 6, 6, 6, 6, 6, 6, 6, 6, 6, 6, 6, 6, 6, 6, 6, 6, 6, 6, 6, 6, 6, 6, 6, 6, 6, 7, 7, 7, 7, 7, 7, 7, 7, 7, 7, 7, 7, 7, 7, 7, 7, 7, 7, 7, 7, 7, 7, 7, 7, 7, 7, 7, 7, 7, 7, 7, 7, 7, 7, 7, 7, 7, 7, 7, 7, 7, 7, 7, 7, 7, 7, 7, 7, 7, 7, 7, 7, 7, 7, 7, 7, 7, 7, 7, 7, 7, 7, 7, 7, 8, 8, 8, 8, 8, 8, 8, 8, 8, 8, 8, 8, 8, 8, 8, 8, 8, 8, 8, 8, 8, 8, 8, 8, 8, 8, 8, 8, 8, 8, 8, 8, 8, 8, 8, 8, 8, 8, 8, 8, 8, 8, 8, 8, 8, 8, 8, 8, 8, 8, 8, 8, 8, 8, 8, 8, 8, 8, 8, 8, 8, 8, 8, 8, 8, 8, 8, 8, 8, 8, 8, 8, 8, 8, 8, 8, 8, 8, 8, 8, 8, 8, 8, 8, 8, 8, 8, 8, 8, 8, 8, 8, 8, 8, 8, 8, 8, 8, 8, 8, 8, 8, 8, 8, 8, 8, 8, 8, 8, 8, 8, 8, 8, 8, 8, 8, 8, 8, 8, 8, 8, 8, 8, 8, 8, 8, 8, 8] : List UInt8) (wrapA .u8 x18)).bind fun x20 =>
  some ((wrapA .i64 ((wrapA .i64 (b12.2 + 8)) + (wrapA .i64 (x20.toNat : Int))))))
  else
  (at? ([0, 1, 2, 2, 3, 3, 3, 3, 4, 4, 4, 4, 4, 4, 4, 4, 5, 5, 5, 5, 5, 5, 5, 5, 5, 5, 5, 5, 5, 5, 5, 5, 6, 6, 6, 6, 6, 6, 6, 6, 6, 6, 6, 6, 6, 6, 6, 6, 6, 6, 6, 6, 6, 6, 6, 6, 6, 6, 6, 6, 6, 6, 6, 6, 7, 7, 7, 7, 7, 7, 7, 7, 7, 7, 7, 7, 7, 7, 7, 7, 7, 7, 7, 7, 7, 7, 7, 7, 7, 7, 7, 7, 7, 7, 7, 7, 7, 7, 7, 7, 7, 7, 7, 7, 7, 7, 7, 7, 7, 7, 7, 7, 7, 7, 7, 7, 7, 7, 7, 7, 7, 7, 7, 7, 7, 7, 7, 7, 8, 8, 8, 8, 8, 8, 8, 8, 8, 8, 8, 8, 8, 8, 8, 8, 8, 8, 8, 8, 8, 8, 8, 8, 8, 8, 8, 8, 8, 8, 8, 8, 8, 8, 8, 8, 8, 8, 8, 8, 8, 8, 8, 8, 8, 8, 8, 8, 8, 8, 8, 8, 8, 8, 8, 8, 8, 8, 8, 8, 8, 8, 8, 8, 8, 8, 8, 8, 8, 8, 8, 8, 8, 8, 8, 8, 8, 8, 8, 8, 8, 8, 8, 8, 8, 8, 8, 8, 8, 8, 8, 8, 8, 8, 8, 8, 8, 8, 8, 8, 8, 8, 8, 8, 8, 8, 8, 8, 8, 8, 8, 8, 8, 8, 8, 8, 8, 8, 8, 8, 8, 8, 8, 8, 8, 8, 8, 8] : List UInt8) (wrapA .u8 b12.1)).bind fun x22 =>
  some ((wrapA .i64 (b12.2 + (wrapA .i64 (x22.toNat : Int)))))

def F29 (F : Nat) (t0 : Int) : Option Int :=
  if false then
  ((F45 F ((wrapA .u32 t0))).bind fun r2 =>
  some r2)
  else
  (F46 F t0).bind fun r6 =>
  some r6

def F47 (F : Nat) (t0 : Int) : Option Bool :=
  some ((t0 != t0))

def F30 (F : Nat) (t0 : Int) (t1 : Int) : Option Int :=
  (F47 F t0).bind fun r1 =>
  (F47 F t1).bind fun r5 =>
  if r1 then
  (if r5 then
  (some 0)
  else
  some ((-1)))
  else
  if r5 then
  (some 1)
  else
  if (decide (t0 < t1)) then
  (some ((-1)))
  else
  if (decide (t0 > t1)) then
  (some 1)
  else
  some 0

def F17_l0 (F : Nat) (t0 : List Int) (t1 : List Int) (s1 : Int) : Option (Stp (Int) (Unit ⊕ Int)) :=
  if (decide (s1 < (t0.length : Int))) then
  ((at? t0 s1).bind fun x9 =>
  if (decide (s1 ≥ (t1.length : Int))) then
  (some (.stop ((.inr 1))))
  else
  (at? t1 s1).bind fun x12 =>
  (F30 F x9 x12).bind fun r14 =>
  if (r14 != 0) then
  (some (.stop ((.inr r14))))
  else
  some (.more ((wrapA .i64 (s1 + 1)))))
  else
  some (.stop ((.inl ())))
def F17 (F : Nat) (t0 : List Int) (t1 : List Int) : Option Int :=
  (iter (F17_l0 F t0 t1) F 0).bind fun b19 =>
  match b19 with
  | .inl b21 => (if (decide ((t0.length : Int) < (t1.length : Int))) then
  (some ((-1)))
  else
  some 0)
  | .inr b21 => (some b21)

def F37_17_l0 (F : Nat) (t1 : Int) (s7 : Int × (List (List Int))) : Option (Stp (Int × (List (List Int))) ((List (List Int)))) :=
  (if (decide (s7.1 > t1)) then 
  ((at? s7.2 s7.1).bind fun L12 =>
  (at? s7.2 (wrapA .i64 (s7.1 - 1))).bind fun L16 =>
  (F17 F L12 L16).bind fun r20 =>
  some (decide (r20 < 0)))
   else some false).bind fun y25 =>
  if y25 then
  ((at? s7.2 (wrapA .i64 (s7.1 - 1))).bind fun L30 =>
  (at? s7.2 s7.1).bind fun L34 =>
  (ck s7.2 s7.1).bind fun u38 =>
  (ck ((s7.2.set ((Int.toNat s7.1)) L30)) (wrapA .i64 (s7.1 - 1))).bind fun u42 =>
  some (.more (((wrapA .i64 (s7.1 - 1)), (((s7.2.set ((Int.toNat s7.1)) L30)).set ((Int.toNat (wrapA .i64 (s7.1 - 1)))) L34)))))
  else
  some (.stop s7.2)
def F37_17_l1 (F : Nat) (t1 : Int) (t2 : Int) (s1 : Int × (List (List Int))) : Option (Stp (Int × (List (List Int))) ((List (List Int)))) :=
  if (decide (s1.1 < t2)) then
  ((iter (F37_17_l0 F t1) F (s1.1, s1.2)).bind fun b46 =>
  some (.more (((wrapA .i64 (s1.1 + 1)), b46))))
  else
  some (.stop s1.2)
def F37_17 (F : Nat) (t0 : List (List Int)) (t1 : Int) (t2 : Int) : Option ((List (List Int))) :=
  (iter (F37_17_l1 F t1 t2) F ((wrapA .i64 (t1 + 1)), t0)).bind fun b50 =>
  some b50

def F51_17_l0 (F : Nat) (t2 : Int) (t3 : Int) (s1 : Int × (List (List Int))) : Option (Stp (Int × (List (List Int))) ((List (List Int)) ⊕ (List (List Int)))) :=
  if (decide ((wrapA .i64 ((wrapA .i64 (2 * s1.1)) + 1)) ≥ t2)) then
  (some (.stop ((.inl s1.2))))
  else
  (if (decide ((wrapA .i64 ((wrapA .i64 ((wrapA .i64 (2 * s1.1)) + 1)) + 1)) < t2)) then 
  ((at? s1.2 (wrapA .i64 (t3 + (wrapA .i64 ((wrapA .i64 (2 * s1.1)) + 1))))).bind fun L9 =>
  (at? s1.2 (wrapA .i64 ((wrapA .i64 (t3 + (wrapA .i64 ((wrapA .i64 (2 * s1.1)) + 1)))) + 1))).bind fun L13 =>
  (F17 F L9 L13).bind fun r17 =>
  some (decide (r17 < 0)))
   else some false).bind fun y22 =>
  (show Option (Int) from (if y22 then
  (some ((wrapA .i64 ((wrapA .i64 ((wrapA .i64 (2 * s1.1)) + 1)) + 1))))
  else
  some ((wrapA .i64 ((wrapA .i64 (2 * s1.1)) + 1))))).bind fun b27 =>
  (at? s1.2 (wrapA .i64 (t3 + s1.1))).bind fun L32 =>
  (at? s1.2 (wrapA .i64 (t3 + b27))).bind fun L36 =>
  (F17 F L32 L36).bind fun r40 =>
  if (!(decide (r40 < 0))) then
  (some (.stop ((.inr s1.2))))
  else
  (at? s1.2 (wrapA .i64 (t3 + b27))).bind fun L45 =>
  (at? s1.2 (wrapA .i64 (t3 + s1.1))).bind fun L49 =>
  (ck s1.2 (wrapA .i64 (t3 + s1.1))).bind fun u53 =>
  (ck ((s1.2.set ((Int.toNat (wrapA .i64 (t3 + s1.1)))) L45)) (wrapA .i64 (t3 + b27))).bind fun u57 =>
  some (.more ((b27, (((s1.2.set ((Int.toNat (wrapA .i64 (t3 + s1.1)))) L45)).set ((Int.toNat (wrapA .i64 (t3 + b27)))) L49))))
def F51_17 (F : Nat) (t0 : List (List Int)) (t1 : Int) (t2 : Int) (t3 : Int) : Option ((List (List Int))) :=
  (iter (F51_17_l0 F t2 t3) F (t1, t0)).bind fun b61 =>
  match b61 with
  | .inl b63 => (some b63)
  | .inr b63 => (some b63)

def F38_17_l0 (F : Nat) (t1 : Int) (t2 : Int) (s1 : Int × (List (List Int))) : Option (Stp (Int × (List (List Int))) ((List (List Int)))) :=
  if (decide (s1.1 ≥ 0)) then
  ((F51_17 F s1.2 s1.1 ((wrapA .i64 (t2 - t1))) t1).bind fun r7 =>
  some (.more (((wrapA .i64 (s1.1 - 1)), r7))))
  else
  some (.stop s1.2)
def F38_17_l1 (F : Nat) (t1 : Int) (s16 : Int × (List (List Int))) : Option (Stp (Int × (List (List Int))) ((List (List Int)))) :=
  if (decide (s16.1 ≥ 0)) then
  ((at? s16.2 (wrapA .i64 (t1 + s16.1))).bind fun L22 =>
  (at? s16.2 t1).bind fun L26 =>
  (ck s16.2 t1).bind fun u30 =>
  (ck ((s16.2.set ((Int.toNat t1)) L22)) (wrapA .i64 (t1 + s16.1))).bind fun u34 =>
  (F51_17 F ((((s16.2.set ((Int.toNat t1)) L22)).set ((Int.toNat (wrapA .i64 (t1 + s16.1)))) L26)) 0 s16.1 t1).bind fun r38 =>
  some (.more (((wrapA .i64 (s16.1 - 1)), r38))))
  else
  some (.stop s16.2)
def F38_17 (F : Nat) (t0 : List (List Int)) (t1 : Int) (t2 : Int) : Option ((List (List Int))) :=
  (iter (F38_17_l0 F t1 t2) F ((wrapA .i64 (Int.tdiv (wrapA .i64 ((wrapA .i64 (t2 - t1)) - 1)) 2)), t0)).bind fun b12 =>
  (iter (F38_17_l1 F t1) F ((wrapA .i64 ((wrapA .i64 (t2 - t1)) - 1)), b12)).bind fun b43 =>
  some b43

def F52 (F : Nat) (t0 : Int) : Option Int :=
  (F29 F ((wrapA .u64 t0))).bind fun r1 =>
  (shl? .u64 1 r1).bind fun x5 =>
  some x5

def F53 (F : Nat) (t0 : Int) : Option (Int × Int) :=
  (shl? .u64 t0 13).bind fun x1 =>
  (shr? .u64 ((bit .xor .u64 t0 x1)) 7).bind fun x5 =>
  (shl? .u64 ((bit .xor .u64 ((bit .xor .u64 t0 x1)) x5)) 17).bind fun x9 =>
  some ((((bit .xor .u64 ((bit .xor .u64 ((bit .xor .u64 t0 x1)) x5)) x9)), (bit .xor .u64 ((bit .xor .u64 ((bit .xor .u64 t0 x1)) x5)) x9)))

def F39_17_l0 (F : Nat) (t1 : Int) (t2 : Int) (r8 : Int) (s12 : Int × (List (List Int)) × Int) : Option (Stp (Int × (List (List Int)) × Int) ((List (List Int)))) :=
  if (decide (s12.1 ≤ (wrapA .i64 ((wrapA .i64 (t1 + (wrapA .i64 ((wrapA .i64 (Int.tdiv (wrapA .i64 (t2 - t1)) 4)) * 2)))) + 1)))) then
  ((F53 F s12.2.2).bind fun r19 =>
  (show Option (Int) from (if (decide ((wrapA .i64 (bit .and .u64 r19.1 (wrapA .u64 (r8 - 1)))) ≥ (wrapA .i64 (t2 - t1)))) then
  (some ((wrapA .i64 ((wrapA .i64 (bit .and .u64 r19.1 (wrapA .u64 (r8 - 1)))) - (wrapA .i64 (t2 - t1))))))
  else
  some ((wrapA .i64 (bit .and .u64 r19.1 (wrapA .u64 (r8 - 1))))))).bind fun b25 =>
  (at? s12.2.1 (wrapA .i64 (t1 + b25))).bind fun L30 =>
  (at? s12.2.1 s12.1).bind fun L34 =>
  (ck s12.2.1 s12.1).bind fun u38 =>
  (ck ((s12.2.1.set ((Int.toNat s12.1)) L30)) (wrapA .i64 (t1 + b25))).bind fun u42 =>
  some (.more (((wrapA .i64 (s12.1 + 1)), (((s12.2.1.set ((Int.toNat s12.1)) L30)).set ((Int.toNat (wrapA .i64 (t1 + b25)))) L34), r19.2))))
  else
  some (.stop s12.2.1)
def F39_17 (F : Nat) (t0 : List (List Int)) (t1 : Int) (t2 : Int) : Option ((List (List Int))) :=
  if (decide ((wrapA .i64 (t2 - t1)) ≥ 8)) then
  ((F52 F ((wrapA .i64 (t2 - t1)))).bind fun r8 =>
  (iter (F39_17_l0 F t1 t2 r8) F ((wrapA .i64 ((wrapA .i64 (t1 + (wrapA .i64 ((wrapA .i64 (Int.tdiv (wrapA .i64 (t2 - t1)) 4)) * 2)))) - 1)), t0, (wrapA .u64 (wrapA .i64 (t2 - t1))))).bind fun b46 =>
  some b46)
  else
  some t0

def F73_17 (F : Nat) (t0 : List (List Int)) (t1 : Int) (t2 : Int) (t3 : Int) : Option (Int × Int × Int) :=
  (at? t0 t2).bind fun L1 =>
  (at? t0 t1).bind fun L5 =>
  (F17 F L1 L5).bind fun r9 =>
  if (decide (r9 < 0)) then
  (some ((t2, t1, (wrapA .i64 (t3 + 1)))))
  else
  some ((t1, t2, t3))

def F55_17 (F : Nat) (t0 : List (List Int)) (t1 : Int) (t2 : Int) (t3 : Int) (t4 : Int) : Option (Int × Int) :=
  (F73_17 F t0 t1 t2 t4).bind fun r1 =>
  (F73_17 F t0 r1.2.1 t3 r1.2.2).bind fun r6 =>
  (F73_17 F t0 r1.1 r6.1 r6.2.2).bind fun r11 =>
  some ((r11.2.1, r11.2.2))

def F54_17 (F : Nat) (t0 : List (List Int)) (t1 : Int) (t2 : Int) : Option (Int × Int) :=
  (F55_17 F t0 ((wrapA .i64 (t1 - 1))) t1 ((wrapA .i64 (t1 + 1))) t2).bind fun r1 =>
  some ((r1.1, r1.2))

def F40_17 (F : Nat) (t0 : List (List Int)) (t1 : Int) (t2 : Int) : Option (Int × Int) :=
  (show Option (Int × Int) from (if (decide ((wrapA .i64 (t2 - t1)) ≥ 8)) then
  (if (decide ((wrapA .i64 (t2 - t1)) ≥ 50)) then
  ((F54_17 F t0 ((wrapA .i64 (t1 + (wrapA .i64 ((wrapA .i64 (Int.tdiv (wrapA .i64 (t2 - t1)) 4)) * 1))))) 0).bind fun r8 =>
  (F54_17 F t0 ((wrapA .i64 (t1 + (wrapA .i64 ((wrapA .i64 (Int.tdiv (wrapA .i64 (t2 - t1)) 4)) * 2))))) r8.2).bind fun r13 =>
  (F54_17 F t0 ((wrapA .i64 (t1 + (wrapA .i64 ((wrapA .i64 (Int.tdiv (wrapA .i64 (t2 - t1)) 4)) * 3))))) r13.2).bind fun r18 =>
  (F55_17 F t0 r8.1 r13.1 r18.1 r18.2).bind fun r23 =>
  some ((r23.1, r23.2)))
  else
  (F55_17 F t0 ((wrapA .i64 (t1 + (wrapA .i64 ((wrapA .i64 (Int.tdiv (wrapA .i64 (t2 - t1)) 4)) * 1))))) ((wrapA .i64 (t1 + (wrapA .i64 ((wrapA .i64 (Int.tdiv (wrapA .i64 (t2 - t1)) 4)) * 2))))) ((wrapA .i64 (t1 + (wrapA .i64 ((wrapA .i64 (Int.tdiv (wrapA .i64 (t2 - t1)) 4)) * 3))))) 0).bind fun r29 =>
  some ((r29.1, r29.2)))
  else
  some (((wrapA .i64 (t1 + (wrapA .i64 ((wrapA .i64 (Int.tdiv (wrapA .i64 (t2 - t1)) 4)) * 2)))), 0)))).bind fun b34 =>
  if (b34.2 == 0) then
  (some ((b34.1, 1)))
  else
  if (b34.2 == 12) then
  (some ((b34.1, 2)))
  else
  some ((b34.1, 0))

def F41_17_l0 (F : Nat)  (s1 : Int × Int × (List (List Int))) : Option (Stp (Int × Int × (List (List Int))) ((List (List Int)))) :=
  if (decide (s1.1 < s1.2.1)) then
  ((at? s1.2.2 s1.2.1).bind fun L7 =>
  (at? s1.2.2 s1.1).bind fun L11 =>
  (ck s1.2.2 s1.1).bind fun u15 =>
  (ck ((s1.2.2.set ((Int.toNat s1.1)) L7)) s1.2.1).bind fun u19 =>
  some (.more (((wrapA .i64 (s1.1 + 1)), (wrapA .i64 (s1.2.1 - 1)), (((s1.2.2.set ((Int.toNat s1.1)) L7)).set ((Int.toNat s1.2.1)) L11)))))
  else
  some (.stop s1.2.2)
def F41_17 (F : Nat) (t0 : List (List Int)) (t1 : Int) (t2 : Int) : Option ((List (List Int))) :=
  (iter (F41_17_l0 F) F (t1, (wrapA .i64 (t2 - 1)), t0)).bind fun b23 =>
  some b23

def F42_17_l0 (F : Nat) (t2 : Int) (s1 : Int × Int × (List (List Int))) (s9 : Int) : Option (Stp (Int) (Int)) :=
  (if (decide (s9 < t2)) then 
  ((at? s1.2.2 s9).bind fun L14 =>
  (at? s1.2.2 (wrapA .i64 (s9 - 1))).bind fun L18 =>
  (F17 F L14 L18).bind fun r22 =>
  some (!(decide (r22 < 0))))
   else some false).bind fun y27 =>
  if y27 then
  (some (.more ((wrapA .i64 (s9 + 1)))))
  else
  some (.stop s9)
def F42_17_l1 (F : Nat)  (s55 : Int × (List (List Int))) : Option (Stp (Int × (List (List Int))) ((List (List Int)))) :=
  if (decide (s55.1 ≥ 1)) then
  ((at? s55.2 s55.1).bind fun L61 =>
  (at? s55.2 (wrapA .i64 (s55.1 - 1))).bind fun L65 =>
  (F17 F L61 L65).bind fun r69 =>
  if (!(decide (r69 < 0))) then
  (some (.stop s55.2))
  else
  (at? s55.2 (wrapA .i64 (s55.1 - 1))).bind fun L74 =>
  (at? s55.2 s55.1).bind fun L78 =>
  (ck s55.2 s55.1).bind fun u82 =>
  (ck ((s55.2.set ((Int.toNat s55.1)) L74)) (wrapA .i64 (s55.1 - 1))).bind fun u86 =>
  some (.more (((wrapA .i64 (s55.1 - 1)), (((s55.2.set ((Int.toNat s55.1)) L74)).set ((Int.toNat (wrapA .i64 (s55.1 - 1)))) L78)))))
  else
  some (.stop s55.2)
def F42_17_l2 (F : Nat) (t2 : Int) (s100 : Int × (List (List Int))) : Option (Stp (Int × (List (List Int))) ((List (List Int)))) :=
  if (decide (s100.1 < t2)) then
  ((at? s100.2 s100.1).bind fun L106 =>
  (at? s100.2 (wrapA .i64 (s100.1 - 1))).bind fun L110 =>
  (F17 F L106 L110).bind fun r114 =>
  if (!(decide (r114 < 0))) then
  (some (.stop s100.2))
  else
  (at? s100.2 (wrapA .i64 (s100.1 - 1))).bind fun L119 =>
  (at? s100.2 s100.1).bind fun L123 =>
  (ck s100.2 s100.1).bind fun u127 =>
  (ck ((s100.2.set ((Int.toNat s100.1)) L119)) (wrapA .i64 (s100.1 - 1))).bind fun u131 =>
  some (.more (((wrapA .i64 (s100.1 + 1)), (((s100.2.set ((Int.toNat s100.1)) L119)).set ((Int.toNat (wrapA .i64 (s100.1 - 1)))) L123)))))
  else
  some (.stop s100.2)
def F42_17_l3 (F : Nat) (t1 : Int) (t2 : Int) (s1 : Int × Int × (List (List Int))) : Option (Stp (Int × Int × (List (List Int))) ((List (List Int)) ⊕ (Bool × (List (List Int))))) :=
  if (decide (s1.2.1 < 5)) then
  ((iter (F42_17_l0 F t2 s1) F s1.1).bind fun b32 =>
  if (b32 == t2) then
  (some (.stop ((.inr (true, s1.2.2)))))
  else
  if (decide ((wrapA .i64 (t2 - t1)) < 50)) then
  (some (.stop ((.inr (false, s1.2.2)))))
  else
  (at? s1.2.2 (wrapA .i64 (b32 - 1))).bind fun L38 =>
  (at? s1.2.2 b32).bind fun L42 =>
  (ck s1.2.2 b32).bind fun u46 =>
  (ck ((s1.2.2.set ((Int.toNat b32)) L38)) (wrapA .i64 (b32 - 1))).bind fun u50 =>
  (show Option ((List (List Int))) from (if (decide ((wrapA .i64 (b32 - t1)) ≥ 2)) then
  ((iter (F42_17_l1 F) F ((wrapA .i64 (b32 - 1)), (((s1.2.2.set ((Int.toNat b32)) L38)).set ((Int.toNat (wrapA .i64 (b32 - 1)))) L42))).bind fun b90 =>
  some b90)
  else
  some ((((s1.2.2.set ((Int.toNat b32)) L38)).set ((Int.toNat (wrapA .i64 (b32 - 1)))) L42)))).bind fun b94 =>
  if (decide ((wrapA .i64 (t2 - b32)) ≥ 2)) then
  ((iter (F42_17_l2 F t2) F ((wrapA .i64 (b32 + 1)), b94)).bind fun b135 =>
  some (.more ((b32, (wrapA .i64 (s1.2.1 + 1)), b135))))
  else
  some (.more ((b32, (wrapA .i64 (s1.2.1 + 1)), b94))))
  else
  some (.stop ((.inl s1.2.2)))
def F42_17 (F : Nat) (t0 : List (List Int)) (t1 : Int) (t2 : Int) : Option (Bool × (List (List Int))) :=
  (iter (F42_17_l3 F t1 t2) F ((wrapA .i64 (t1 + 1)), 0, t0)).bind fun b139 =>
  match b139 with
  | .inl b141 => (some ((false, b141)))
  | .inr b141 => (some ((b141.1, b141.2)))

def F43_17_l0 (F : Nat) (t1 : Int) (s17 : Int × Int × (List (List Int))) (s22 : Int) : Option (Stp (Int) (Int)) :=
  (if (decide (s22 ≤ s17.2.1)) then 
  ((at? s17.2.2 t1).bind fun L27 =>
  (at? s17.2.2 s22).bind fun L31 =>
  (F17 F L27 L31).bind fun r35 =>
  some (!(decide (r35 < 0))))
   else some false).bind fun y40 =>
  if y40 then
  (some (.more ((wrapA .i64 (s22 + 1)))))
  else
  some (.stop s22)
def F43_17_l1 (F : Nat) (t1 : Int) (s17 : Int × Int × (List (List Int))) (b45 : Int) (s49 : Int) : Option (Stp (Int) (Int)) :=
  (if (decide (b45 ≤ s49)) then 
  ((at? s17.2.2 t1).bind fun L54 =>
  (at? s17.2.2 s49).bind fun L58 =>
  (F17 F L54 L58).bind fun r62 =>
  some (decide (r62 < 0)))
   else some false).bind fun y67 =>
  if y67 then
  (some (.more ((wrapA .i64 (s49 - 1)))))
  else
  some (.stop s49)
def F43_17_l2 (F : Nat) (t1 : Int) (s17 : Int × Int × (List (List Int))) : Option (Stp (Int × Int × (List (List Int))) (Int × (List (List Int)))) :=
  (iter (F43_17_l0 F t1 s17) F s17.1).bind fun b45 =>
  (iter (F43_17_l1 F t1 s17 b45) F s17.2.1).bind fun b72 =>
  if (decide (b45 > b72)) then
  (some (.stop ((b45, s17.2.2))))
  else
  (at? s17.2.2 b72).bind fun L77 =>
  (at? s17.2.2 b45).bind fun L81 =>
  (ck s17.2.2 b45).bind fun u85 =>
  (ck ((s17.2.2.set ((Int.toNat b45)) L77)) b72).bind fun u89 =>
  some (.more (((wrapA .i64 (b45 + 1)), (wrapA .i64 (b72 - 1)), (((s17.2.2.set ((Int.toNat b45)) L77)).set ((Int.toNat b72)) L81))))
def F43_17 (F : Nat) (t0 : List (List Int)) (t1 : Int) (t2 : Int) (t3 : Int) : Option (Int × (List (List Int))) :=
  (at? t0 t3).bind fun L1 =>
  (at? t0 t1).bind fun L5 =>
  (ck t0 t1).bind fun u9 =>
  (ck ((t0.set ((Int.toNat t1)) L1)) t3).bind fun u13 =>
  (iter (F43_17_l2 F t1) F ((wrapA .i64 (t1 + 1)), (wrapA .i64 (t2 - 1)), (((t0.set ((Int.toNat t1)) L1)).set ((Int.toNat t3)) L5))).bind fun b93 =>
  some ((b93.1, b93.2))

def F44_17_l0 (F : Nat) (t0 : List (List Int)) (t1 : Int) (t2 : Int) (t3 : Int) (L1 : List Int) (L5 : List Int) (s17 : Int) : Option (Stp (Int) (Int)) :=
  (if (decide (s17 ≤ (wrapA .i64 (t2 - 1)))) then 
  ((at? ((((t0.set ((Int.toNat t1)) L1)).set ((Int.toNat t3)) L5)) s17).bind fun L22 =>
  (at? ((((t0.set ((Int.toNat t1)) L1)).set ((Int.toNat t3)) L5)) t1).bind fun L26 =>
  (F17 F L22 L26).bind fun r30 =>
  some (decide (r30 < 0)))
   else some false).bind fun y35 =>
  if y35 then
  (some (.more ((wrapA .i64 (s17 + 1)))))
  else
  some (.stop s17)
def F44_17_l1 (F : Nat) (t0 : List (List Int)) (t1 : Int) (t3 : Int) (L1 : List Int) (L5 : List Int) (b40 : Int) (s44 : Int) : Option (Stp (Int) (Int)) :=
  (if (decide (b40 ≤ s44)) then 
  ((at? ((((t0.set ((Int.toNat t1)) L1)).set ((Int.toNat t3)) L5)) s44).bind fun L49 =>
  (at? ((((t0.set ((Int.toNat t1)) L1)).set ((Int.toNat t3)) L5)) t1).bind fun L53 =>
  (F17 F L49 L53).bind fun r57 =>
  some (!(decide (r57 < 0))))
   else some false).bind fun y62 =>
  if y62 then
  (some (.more ((wrapA .i64 (s44 - 1)))))
  else
  some (.stop s44)
def F44_17_l2 (F : Nat) (t1 : Int) (s104 : Int × Int × (List (List Int))) (s109 : Int) : Option (Stp (Int) (Int)) :=
  (if (decide (s109 ≤ s104.2.1)) then 
  ((at? s104.2.2 s109).bind fun L114 =>
  (at? s104.2.2 t1).bind fun L118 =>
  (F17 F L114 L118).bind fun r122 =>
  some (decide (r122 < 0)))
   else some false).bind fun y127 =>
  if y127 then
  (some (.more ((wrapA .i64 (s109 + 1)))))
  else
  some (.stop s109)
def F44_17_l3 (F : Nat) (t1 : Int) (s104 : Int × Int × (List (List Int))) (b132 : Int) (s136 : Int) : Option (Stp (Int) (Int)) :=
  (if (decide (b132 ≤ s136)) then 
  ((at? s104.2.2 s136).bind fun L141 =>
  (at? s104.2.2 t1).bind fun L145 =>
  (F17 F L141 L145).bind fun r149 =>
  some (!(decide (r149 < 0))))
   else some false).bind fun y154 =>
  if y154 then
  (some (.more ((wrapA .i64 (s136 - 1)))))
  else
  some (.stop s136)
def F44_17_l4 (F : Nat) (t1 : Int) (s104 : Int × Int × (List (List Int))) : Option (Stp (Int × Int × (List (List Int))) (Int × (List (List Int)))) :=
  (iter (F44_17_l2 F t1 s104) F s104.1).bind fun b132 =>
  (iter (F44_17_l3 F t1 s104 b132) F s104.2.1).bind fun b159 =>
  if (decide (b132 > b159)) then
  (some (.stop ((b159, s104.2.2))))
  else
  (at? s104.2.2 b159).bind fun L164 =>
  (at? s104.2.2 b132).bind fun L168 =>
  (ck s104.2.2 b132).bind fun u172 =>
  (ck ((s104.2.2.set ((Int.toNat b132)) L164)) b159).bind fun u176 =>
  some (.more (((wrapA .i64 (b132 + 1)), (wrapA .i64 (b159 - 1)), (((s104.2.2.set ((Int.toNat b132)) L164)).set ((Int.toNat b159)) L168))))
def F44_17 (F : Nat) (t0 : List (List Int)) (t1 : Int) (t2 : Int) (t3 : Int) : Option (Int × Bool × (List (List Int))) :=
  (at? t0 t3).bind fun L1 =>
  (at? t0 t1).bind fun L5 =>
  (ck t0 t1).bind fun u9 =>
  (ck ((t0.set ((Int.toNat t1)) L1)) t3).bind fun u13 =>
  (iter (F44_17_l0 F t0 t1 t2 t3 L1 L5) F (wrapA .i64 (t1 + 1))).bind fun b40 =>
  (iter (F44_17_l1 F t0 t1 t3 L1 L5 b40) F (wrapA .i64 (t2 - 1))).bind fun b67 =>
  if (decide (b40 > b67)) then
  ((at? ((((t0.set ((Int.toNat t1)) L1)).set ((Int.toNat t3)) L5)) t1).bind fun L72 =>
  (at? ((((t0.set ((Int.toNat t1)) L1)).set ((Int.toNat t3)) L5)) b67).bind fun L76 =>
  (ck ((((t0.set ((Int.toNat t1)) L1)).set ((Int.toNat t3)) L5)) b67).bind fun u80 =>
  (ck ((((((t0.set ((Int.toNat t1)) L1)).set ((Int.toNat t3)) L5)).set ((Int.toNat b67)) L72)) t1).bind fun u84 =>
  some ((b67, true, (((((((t0.set ((Int.toNat t1)) L1)).set ((Int.toNat t3)) L5)).set ((Int.toNat b67)) L72)).set ((Int.toNat t1)) L76))))
  else
  (at? ((((t0.set ((Int.toNat t1)) L1)).set ((Int.toNat t3)) L5)) b67).bind fun L88 =>
  (at? ((((t0.set ((Int.toNat t1)) L1)).set ((Int.toNat t3)) L5)) b40).bind fun L92 =>
  (ck ((((t0.set ((Int.toNat t1)) L1)).set ((Int.toNat t3)) L5)) b40).bind fun u96 =>
  (ck ((((((t0.set ((Int.toNat t1)) L1)).set ((Int.toNat t3)) L5)).set ((Int.toNat b40)) L88)) b67).bind fun u100 =>
  (iter (F44_17_l4 F t1) F ((wrapA .i64 (b40 + 1)), (wrapA .i64 (b67 - 1)), (((((((t0.set ((Int.toNat t1)) L1)).set ((Int.toNat t3)) L5)).set ((Int.toNat b40)) L88)).set ((Int.toNat b67)) L92))).bind fun b180 =>
  (at? b180.2 t1).bind fun L184 =>
  (at? b180.2 b180.1).bind fun L188 =>
  (ck b180.2 b180.1).bind fun u192 =>
  (ck ((b180.2.set ((Int.toNat b180.1)) L184)) t1).bind fun u196 =>
  some ((b180.1, false, (((b180.2.set ((Int.toNat b180.1)) L184)).set ((Int.toNat t1)) L188)))

def F28_17_l0 (F : Nat) (frec : (List (List Int)) → Int → Int → Int → Option ((List (List Int)))) (s1 : Int × Int × Int × Bool × Bool × (List (List Int))) : Option (Stp (Int × Int × Int × Bool × Bool × (List (List Int))) ((List (List Int)))) :=
  if (decide ((wrapA .i64 (s1.2.1 - s1.1)) ≤ 12)) then
  ((F37_17 F s1.2.2.2.2.2 s1.1 s1.2.1).bind fun r7 =>
  some (.stop r7))
  else
  if (s1.2.2.1 == 0) then
  ((F38_17 F s1.2.2.2.2.2 s1.1 s1.2.1).bind fun r13 =>
  some (.stop r13))
  else
  (show Option (Int × (List (List Int))) from (if (!s1.2.2.2.1) then
  ((F39_17 F s1.2.2.2.2.2 s1.1 s1.2.1).bind fun r19 =>
  some (((wrapA .i64 (s1.2.2.1 - 1)), r19)))
  else
  some ((s1.2.2.1, s1.2.2.2.2.2)))).bind fun b24 =>
  (F40_17 F b24.2 s1.1 s1.2.1).bind fun r29 =>
  (show Option (Int × Int × (List (List Int))) from (if (r29.2 == 2) then
  ((F41_17 F b24.2 s1.1 s1.2.1).bind fun r34 =>
  some (((wrapA .i64 ((wrapA .i64 (s1.2.1 - 1)) - (wrapA .i64 (r29.1 - s1.1)))), 1, r34)))
  else
  some ((r29.1, r29.2, b24.2)))).bind fun b39 =>
  (show Option ((List (List Int)) ⊕ (List (List Int))) from (if ((s1.2.2.2.1 && s1.2.2.2.2.1) && (b39.2.1 == 1)) then
  ((F42_17 F b39.2.2 s1.1 s1.2.1).bind fun r47 =>
  if r47.1 then
  (some ((.inr r47.2)))
  else
  some ((.inl r47.2)))
  else
  some ((.inl b39.2.2)))).bind fun b53 =>
  match b53 with
  | .inl b58 => ((if (decide (s1.1 > 0)) then 
  ((at? b58 (wrapA .i64 (s1.1 - 1))).bind fun L61 =>
  (at? b58 b39.1).bind fun L65 =>
  (F17 F L61 L65).bind fun r69 =>
  some (!(decide (r69 < 0))))
   else some false).bind fun y74 =>
  if y74 then
  ((F43_17 F b58 s1.1 s1.2.1 b39.1).bind fun r79 =>
  some (.more ((r79.1, s1.2.1, b24.1, s1.2.2.2.1, s1.2.2.2.2.1, r79.2))))
  else
  (F44_17 F b58 s1.1 s1.2.1 b39.1).bind fun r84 =>
  if (decide ((wrapA .i64 (r84.1 - s1.1)) < (wrapA .i64 (s1.2.1 - r84.1)))) then
  ((frec r84.2.2 s1.1 r84.1 b24.1).bind fun r90 =>
  some (.more (((wrapA .i64 (r84.1 + 1)), s1.2.1, b24.1, (decide ((wrapA .i64 (r84.1 - s1.1)) ≥ (wrapA .i64 (Int.tdiv (wrapA .i64 (s1.2.1 - s1.1)) 8)))), r84.2.1, r90))))
  else
  (frec r84.2.2 ((wrapA .i64 (r84.1 + 1))) s1.2.1 b24.1).bind fun r95 =>
  some (.more ((s1.1, r84.1, b24.1, (decide ((wrapA .i64 (s1.2.1 - r84.1)) ≥ (wrapA .i64 (Int.tdiv (wrapA .i64 (s1.2.1 - s1.1)) 8)))), r84.2.1, r95))))
  | .inr b58 => (some (.stop b58))
def F28_17 : Nat → (List (List Int)) → Int → Int → Int → Option ((List (List Int)))
  | 0, _, _, _, _ => none
  | F + 1, t0, t1, t2, t3 =>
  let frec := F28_17 F
  (iter (F28_17_l0 F frec) F (t1, t2, t3, true, true, t0)).bind fun b102 =>
  some b102

def F16_17 (F : Nat) (t0 : List (List Int)) : Option ((List (List Int))) :=
  (F29 F ((wrapA .u64 (t0.length : Int)))).bind fun r1 =>
  (F28_17 F t0 0 ((t0.length : Int)) r1).bind fun r5 =>
  some r5

def F4_l0 (F : Nat) (L6 : List Int) (s12 : Int × (List Int)) : Option (Stp (Int × (List Int)) ((List Int))) :=
  if (decide (s12.1 < (L6.length : Int))) then
  ((ck s12.2 s12.1).bind fun u18 =>
  some (.more (((wrapA .i64 (s12.1 + 1)), (s12.2.set ((Int.toNat s12.1)) s12.1)))))
  else
  some (.stop s12.2)
def F4_l1 (F : Nat) (t1 : List (List Int)) (s42 : (List (List Int)) × Int × (List ((List Int) × Int))) (s52 : (List (List Int)) × Int × (List ((List Int) × Int))) : Option (Stp ((List (List Int)) × Int × (List ((List Int) × Int))) ((List (List Int)) × (List ((List Int) × Int)))) :=
  if (decide (s52.2.1 < (t1.length : Int))) then
  ((at? t1 s52.2.1).bind fun L62 =>
  (at? s52.1 s42.2.1).bind fun L66 =>
  (F15 F L62 L66).bind fun r70 =>
  (F14 F r70.1).bind fun r76 =>
  (keyI? 6 r76).bind fun u80 =>
  if (((mget s52.2.2 r76).getD 0) == 0) then
  ((F14 F r70.1).bind fun r83 =>
  (keyI? 6 r83).bind fun u87 =>
  (app? s52.1 ([r70.1])).bind fun L95 =>
  some (.more ((L95, (wrapA .i64 (s52.2.1 + 1)), (mput s52.2.2 r83 1)))))
  else
  some (.more ((s52.1, (wrapA .i64 (s52.2.1 + 1)), s52.2.2))))
  else
  some (.stop ((s52.1, s52.2.2)))
def F4_l2 (F : Nat) (t1 : List (List Int)) (s42 : (List (List Int)) × Int × (List ((List Int) × Int))) : Option (Stp ((List (List Int)) × Int × (List ((List Int) × Int))) ((List (List Int)))) :=
  if (decide (s42.2.1 < (s42.1.length : Int))) then
  ((iter (F4_l1 F t1 s42) F (s42.1, 0, s42.2.2)).bind fun b101 =>
  some (.more ((b101.1, (wrapA .i64 (s42.2.1 + 1)), b101.2))))
  else
  some (.stop s42.1)
def F4 (F : Nat) (t0 : Int) (t1 : List (List Int)) : Option ((List (List Int)) × Int) :=
  (F8 F t0 t1).bind fun r1 =>
  if (r1 != 0) then
  (some (([], r1)))
  else
  (mk? t0 (0 : Int)).bind fun L6 =>
  (iter (F4_l0 F L6) F (0, L6)).bind fun b22 =>
  (F14 F b22).bind fun r30 =>
  (keyI? 6 r30).bind fun u34 =>
  (iter (F4_l2 F t1) F ([b22], 0, (mput (([] : List ((List Int) × Int))) r30 1))).bind fun b106 =>
  (F16_17 F b106).bind fun r111 =>
  some ((r111, 0))

def F32 (F : Nat) (t0 : Int) (t1 : Int) : Option Int :=
  some ((wrapA .i64 (t1 - t0)))

def F56_32_l0 (F : Nat) (t1 : Int) (s7 : Int × (List Int)) : Option (Stp (Int × (List Int)) ((List Int))) :=
  (if (decide (s7.1 > t1)) then 
  ((at? s7.2 s7.1).bind fun x12 =>
  (at? s7.2 (wrapA .i64 (s7.1 - 1))).bind fun x14 =>
  (F32 F x12 x14).bind fun r16 =>
  some (decide (r16 < 0)))
   else some false).bind fun y21 =>
  if y21 then
  ((at? s7.2 (wrapA .i64 (s7.1 - 1))).bind fun x26 =>
  (at? s7.2 s7.1).bind fun x28 =>
  (ck s7.2 s7.1).bind fun u30 =>
  (ck ((s7.2.set ((Int.toNat s7.1)) x26)) (wrapA .i64 (s7.1 - 1))).bind fun u34 =>
  some (.more (((wrapA .i64 (s7.1 - 1)), (((s7.2.set ((Int.toNat s7.1)) x26)).set ((Int.toNat (wrapA .i64 (s7.1 - 1)))) x28)))))
  else
  some (.stop s7.2)
def F56_32_l1 (F : Nat) (t1 : Int) (t2 : Int) (s1 : Int × (List Int)) : Option (Stp (Int × (List Int)) ((List Int))) :=
  if (decide (s1.1 < t2)) then
  ((iter (F56_32_l0 F t1) F (s1.1, s1.2)).bind fun b38 =>
  some (.more (((wrapA .i64 (s1.1 + 1)), b38))))
  else
  some (.stop s1.2)
def F56_32 (F : Nat) (t0 : List Int) (t1 : Int) (t2 : Int) : Option ((List Int)) :=
  (iter (F56_32_l1 F t1 t2) F ((wrapA .i64 (t1 + 1)), t0)).bind fun b42 =>
  some b42

def F48_32_l0 (F : Nat)  (s1 : Int × Int × Int × Bool × Bool × (List Int)) : Option (Stp (Int × Int × Int × Bool × Bool × (List Int)) ((List Int))) :=
  if (decide ((wrapA .i64 (s1.2.1 - s1.1)) ≤ 12)) then
  ((F56_32 F s1.2.2.2.2.2 s1.1 s1.2.1).bind fun r7 =>
  some (.stop r7))
  else
  if (s1.2.2.1 == 0) then
  (none)
  else
  (show Option (Int × (List Int)) from (if (!s1.2.2.2.1) then
  (none)
  else
  some ((s1.2.2.1, s1.2.2.2.2.2)))).bind fun b13 =>
  none
def F48_32 (F : Nat) (t0 : List Int) (t1 : Int) (t2 : Int) (t3 : Int) : Option ((List Int)) :=
  (iter (F48_32_l0 F) F (t1, t2, t3, true, true, t0)).bind fun b18 =>
  some b18

def F31_32 (F : Nat) (t0 : List Int) : Option ((List Int)) :=
  (F29 F ((wrapA .u64 (t0.length : Int)))).bind fun r1 =>
  (F48_32 F t0 0 ((t0.length : Int)) r1).bind fun r5 =>
  some r5

def F18_l0 (F : Nat) (t0 : List Int) (s20 : Int × Int × (List Bool)) : Option (Stp (Int × Int × (List Bool)) (Int × (List Bool))) :=
  (at? s20.2.2 s20.2.1).bind fun x25 =>
  if (!x25) then
  ((ck s20.2.2 s20.2.1).bind fun u28 =>
  (at? t0 s20.2.1).bind fun x32 =>
  some (.more (((wrapA .i64 (s20.1 + 1)), x32, (s20.2.2.set ((Int.toNat s20.2.1)) true)))))
  else
  some (.stop ((s20.1, s20.2.2)))
def F18_l1 (F : Nat) (t0 : List Int) (s10 : (List Int) × Int × (List Bool)) : Option (Stp ((List Int) × Int × (List Bool)) ((List Int))) :=
  if (decide (s10.2.1 < (t0.length : Int))) then
  ((iter (F18_l0 F t0) F (0, s10.2.1, s10.2.2)).bind fun b34 =>
  if (decide (b34.1 > 0)) then
  ((app? s10.1 ([b34.1])).bind fun L43 =>
  some (.more ((L43, (wrapA .i64 (s10.2.1 + 1)), b34.2))))
  else
  some (.more ((s10.1, (wrapA .i64 (s10.2.1 + 1)), b34.2))))
  else
  some (.stop s10.1)
def F18 (F : Nat) (t0 : List Int) : Option ((List Int) × Int) :=
  (F23 F t0).bind fun r1 =>
  if (r1 != 0) then
  (some (([], r1)))
  else
  (iter (F18_l1 F t0) F ([], 0, (List.replicate 10 false))).bind fun b49 =>
  (F31_32 F b49).bind fun r54 =>
  some ((r54, 0))

def F5_l0 (F : Nat) (t2 : Int) (r21 : (List Int) × Int) (s27 : Int × Int) : Option (Stp (Int × Int) (Int)) :=
  if (decide (s27.2 < (r21.1.length : Int))) then
  (some (.more (((wrapA .i64 (s27.1 * t2)), (wrapA .i64 (s27.2 + 1))))))
  else
  some (.stop s27.1)
def F5_l1 (F : Nat) (t2 : Int) (r1 : (List (List Int)) × Int) (s11 : Int × Int) : Option (Stp (Int × Int) (Int)) :=
  if (decide (s11.2 < (r1.1.length : Int))) then
  ((at? r1.1 s11.2).bind fun L17 =>
  (F18 F L17).bind fun r21 =>
  (iter (F5_l0 F t2 r21) F (1, 0)).bind fun b33 =>
  some (.more (((wrapA .i64 (s11.1 + b33)), (wrapA .i64 (s11.2 + 1))))))
  else
  some (.stop s11.1)
def F5 (F : Nat) (t0 : Int) (t1 : List (List Int)) (t2 : Int) : Option (Int × Int) :=
  (F4 F t0 t1).bind fun r1 =>
  if (r1.2 != 0) then
  (some ((0, r1.2)))
  else
  if ((decide (t2 < 0)) || (decide (t2 > 10))) then
  (some ((0, 1)))
  else
  (iter (F5_l1 F t2 r1) F (0, 0)).bind fun b37 =>
  (quo? .i64 b37 (r1.1.length : Int)).bind fun x41 =>
  some ((x41, 0))

def F19 (F : Nat) (t0 : (List Int)) : Option ((List Int)) := if t0.length ≤ 17592186044416 then some t0 else none

def F6_l0 (F : Nat) (t2 : List Int) (L26 : List Int) (s36 : Int × (List Int)) : Option (Stp (Int × (List Int)) ((List Int))) :=
  if (decide (s36.1 < (L26.length : Int))) then
  ((at? L26 s36.1).bind fun x42 =>
  (at? t2 s36.1).bind fun x44 =>
  (ck s36.2 x42).bind fun u46 =>
  some (.more (((wrapA .i64 (s36.1 + 1)), (s36.2.set ((Int.toNat x42)) x44)))))
  else
  some (.stop s36.2)
def F6_l1 (F : Nat) (t0 : Int) (t2 : List Int) (r1 : (List (List Int)) × Int) (s16 : (List Int) × Int) : Option (Stp ((List Int) × Int) ((List Int))) :=
  if (decide (s16.2 < (r1.1.length : Int))) then
  ((at? r1.1 s16.2).bind fun L26 =>
  (mk? t0 (0 : Int)).bind fun L30 =>
  (iter (F6_l0 F t2 L26) F (0, L30)).bind fun b50 =>
  (F17 F b50 s16.1).bind fun r54 =>
  if (decide (r54 < 0)) then
  (some (.more ((b50, (wrapA .i64 (s16.2 + 1))))))
  else
  some (.more ((s16.1, (wrapA .i64 (s16.2 + 1))))))
  else
  some (.stop s16.1)
def F6 (F : Nat) (t0 : Int) (t1 : List (List Int)) (t2 : List Int) : Option ((List Int) × Int) :=
  (F4 F t0 t1).bind fun r1 =>
  if (r1.2 != 0) then
  (some (([], r1.2)))
  else
  if ((t2.length : Int) != t0) then
  (some (([], 3)))
  else
  (F19 F t2).bind fun r10 =>
  (iter (F6_l1 F t0 t2 r1) F (r10, 0)).bind fun b59 =>
  some ((b59, 0))

def F49_l0 (F : Nat) (t0 : List Int) (t1 : Int) (s1 : Int) : Option (Stp (Int) (Unit ⊕ Int)) :=
  if (decide (s1 < (t0.length : Int))) then
  ((at? t0 s1).bind fun x9 =>
  if (t1 == x9) then
  (some (.stop ((.inr s1))))
  else
  some (.more ((wrapA .i64 (s1 + 1)))))
  else
  some (.stop ((.inl ())))
def F49 (F : Nat) (t0 : List Int) (t1 : Int) : Option Int :=
  (iter (F49_l0 F t0 t1) F 0).bind fun b12 =>
  match b12 with
  | .inl b14 => (some ((-1)))
  | .inr b14 => (some b14)

def F34 (F : Nat) (t0 : List Int) (t1 : Int) : Option Bool :=
  (F49 F t0 t1).bind fun r1 =>
  some ((decide (r1 ≥ 0)))

def F22_l0 (F : Nat) (t0 : List Int) (s2 : Int) : Option (Stp (Int) (Unit ⊕ Int)) :=
  if (decide (s2 < (t0.length : Int))) then
  ((F34 F t0 s2).bind fun r10 =>
  if (!r10) then
  (some (.stop ((.inr 3))))
  else
  some (.more ((wrapA .i64 (s2 + 1)))))
  else
  some (.stop ((.inl ())))
def F22 (F : Nat) (t0 : List Int) : Option Int :=
  if (decide ((t0.length : Int) > 10)) then
  (some 2)
  else
  (iter (F22_l0 F t0) F 0).bind fun b15 =>
  match b15 with
  | .inl b17 => (some 0)
  | .inr b17 => (some b17)

def F21 (F : Nat) (t0 : List Int) (c0 : Int) : Option Bool :=
  (if ((t0.length : Int) != c0) then some true else 
  ((F22 F t0).bind fun r1 =>
  some (r1 != 0))
  ).bind fun y6 =>
  some y6

def F33_21_l0 (F : Nat) (t0 : List (List Int)) (t1c0 : Int) (s1 : Int) : Option (Stp (Int) (Unit ⊕ Int)) :=
  if (decide (s1 < (t0.length : Int))) then
  ((at? t0 s1).bind fun L9 =>
  (F21 F L9 t1c0).bind fun r13 =>
  if r13 then
  (some (.stop ((.inr s1))))
  else
  some (.more ((wrapA .i64 (s1 + 1)))))
  else
  some (.stop ((.inl ())))
def F33_21 (F : Nat) (t0 : List (List Int)) (t1c0 : Int) : Option Int :=
  (iter (F33_21_l0 F t0 t1c0) F 0).bind fun b18 =>
  match b18 with
  | .inl b20 => (some ((-1)))
  | .inr b20 => (some b20)

def F20_21 (F : Nat) (t0 : List (List Int)) (t1c0 : Int) : Option Bool :=
  (F33_21 F t0 t1c0).bind fun r1 =>
  some ((decide (r1 ≥ 0)))

def F7 (F : Nat) (t0 : Int) (t1 : List (List Int)) : Option Int :=
  if ((decide (t0 < 0)) || (decide (t0 > 6))) then
  (some 1)
  else
  if (decide ((t1.length : Int) > 6)) then
  (some 2)
  else
  (F20_21 F t1 t0).bind fun r9 =>
  if r9 then
  (some 3)
  else
  some 0

def F24_l0 (F : Nat) (t0 : List Int) (t1 : List Int) (s1 : (List Int) × Int) : Option (Stp ((List Int) × Int) ((List Int))) :=
  if (decide (s1.2 < (t1.length : Int))) then
  ((at? t1 s1.2).bind fun x11 =>
  (at? t0 x11).bind fun x13 =>
  (app? s1.1 ([x13])).bind fun L19 =>
  some (.more ((L19, (wrapA .i64 (s1.2 + 1))))))
  else
  some (.stop s1.1)
def F24 (F : Nat) (t0 : List Int) (t1 : List Int) : Option ((List Int)) :=
  (iter (F24_l0 F t0 t1) F ([], 0)).bind fun b25 =>
  some b25

def F10_l0 (F : Nat) (t0 : List Int) (t1 : List Int) (s2 : Int) : Option (Stp (Int) (Unit ⊕ Bool)) :=
  if (decide (s2 < (t0.length : Int))) then
  ((at? t0 s2).bind fun x10 =>
  (at? t1 s2).bind fun x12 =>
  if (x10 != x12) then
  (some (.stop ((.inr false))))
  else
  some (.more ((wrapA .i64 (s2 + 1)))))
  else
  some (.stop ((.inl ())))
def F10 (F : Nat) (t0 : List Int) (t1 : List Int) : Option Bool :=
  if ((t0.length : Int) != (t1.length : Int)) then
  (some false)
  else
  (iter (F10_l0 F t0 t1) F 0).bind fun b15 =>
  match b15 with
  | .inl b17 => (some true)
  | .inr b17 => (some b17)

def F25_10 (F : Nat) (t0 : (List (List Int))) : Option ((List (List Int))) := if t0.length ≤ 1152921504606846976 then compF? (fun x p => F10 F x p) t0 else none

def F9_l0 (F : Nat) (t0 : Int) (s5 : (List Int) × Int) : Option (Stp ((List Int) × Int) ((List Int))) :=
  if (decide (s5.2 < t0)) then
  ((app? s5.1 ([s5.2])).bind fun L19 =>
  some (.more ((L19, (wrapA .i64 (s5.2 + 1))))))
  else
  some (.stop s5.1)
def F9_l1 (F : Nat) (t1 : List (List Int)) (L53 : List Int) (s57 : (List (List Int)) × Int) : Option (Stp ((List (List Int)) × Int) ((List (List Int)))) :=
  if (decide (s57.2 < (t1.length : Int))) then
  ((at? t1 s57.2).bind fun L67 =>
  (F24 F L53 L67).bind fun r71 =>
  (app? s57.1 ([r71])).bind fun L81 =>
  some (.more ((L81, (wrapA .i64 (s57.2 + 1))))))
  else
  some (.stop s57.1)
def F9_l2 (F : Nat) (t1 : List (List Int)) (s34 : (List (List Int))) (s43 : (List (List Int)) × Int) : Option (Stp ((List (List Int)) × Int) ((List (List Int)))) :=
  if (decide (s43.2 < (s34.length : Int))) then
  ((at? s34 s43.2).bind fun L53 =>
  (iter (F9_l1 F t1 L53) F (s43.1, 0)).bind fun b87 =>
  some (.more ((b87, (wrapA .i64 (s43.2 + 1))))))
  else
  some (.stop s43.1)
def F9_l3 (F : Nat) (t1 : List (List Int)) (s34 : (List (List Int))) : Option (Stp ((List (List Int))) ((List (List Int)))) :=
  (iter (F9_l2 F t1 s34) F ([], 0)).bind fun b92 =>
  (app? b92 s34).bind fun L97 =>
  (F16_17 F L97).bind fun r103 =>
  (F25_10 F r103).bind fun r108 =>
  if ((r108.length : Int) == (s34.length : Int)) then
  (some (.stop r108))
  else
  some (.more r108)
def F9 (F : Nat) (t0 : Int) (t1 : List (List Int)) : Option ((List (List Int))) :=
  (iter (F9_l0 F t0) F ([], 0)).bind fun b25 =>
  (iter (F9_l3 F t1) F [b25]).bind fun b116 =>
  some b116

def F70 (F : Nat) (t0 : Int) (t1 : Int) : Option Bool :=
  (F47 F t0).bind fun r1 =>
  (if r1 then 
  ((F47 F t1).bind fun r5 =>
  some (!r5))
   else some false).bind fun y10 =>
  some ((y10 || (decide (t0 < t1))))

def F64_l0 (F : Nat) (t1 : Int) (s7 : Int × (List Int)) : Option (Stp (Int × (List Int)) ((List Int))) :=
  (if (decide (s7.1 > t1)) then 
  ((at? s7.2 s7.1).bind fun x12 =>
  (at? s7.2 (wrapA .i64 (s7.1 - 1))).bind fun x14 =>
  (F70 F x12 x14).bind fun r16 =>
  some r16)
   else some false).bind fun y21 =>
  if y21 then
  ((at? s7.2 (wrapA .i64 (s7.1 - 1))).bind fun x26 =>
  (at? s7.2 s7.1).bind fun x28 =>
  (ck s7.2 s7.1).bind fun u30 =>
  (ck ((s7.2.set ((Int.toNat s7.1)) x26)) (wrapA .i64 (s7.1 - 1))).bind fun u34 =>
  some (.more (((wrapA .i64 (s7.1 - 1)), (((s7.2.set ((Int.toNat s7.1)) x26)).set ((Int.toNat (wrapA .i64 (s7.1 - 1)))) x28)))))
  else
  some (.stop s7.2)
def F64_l1 (F : Nat) (t1 : Int) (t2 : Int) (s1 : Int × (List Int)) : Option (Stp (Int × (List Int)) ((List Int))) :=
  if (decide (s1.1 < t2)) then
  ((iter (F64_l0 F t1) F (s1.1, s1.2)).bind fun b38 =>
  some (.more (((wrapA .i64 (s1.1 + 1)), b38))))
  else
  some (.stop s1.2)
def F64 (F : Nat) (t0 : List Int) (t1 : Int) (t2 : Int) : Option ((List Int)) :=
  (iter (F64_l1 F t1 t2) F ((wrapA .i64 (t1 + 1)), t0)).bind fun b42 =>
  some b42

def F50_l0 (F : Nat)  (s1 : Int × Int × Int × Bool × Bool × (List Int)) : Option (Stp (Int × Int × Int × Bool × Bool × (List Int)) ((List Int))) :=
  if (decide ((wrapA .i64 (s1.2.1 - s1.1)) ≤ 12)) then
  ((F64 F s1.2.2.2.2.2 s1.1 s1.2.1).bind fun r7 =>
  some (.stop r7))
  else
  if (s1.2.2.1 == 0) then
  (none)
  else
  (show Option (Int × (List Int)) from (if (!s1.2.2.2.1) then
  (none)
  else
  some ((s1.2.2.1, s1.2.2.2.2.2)))).bind fun b13 =>
  none
def F50 (F : Nat) (t0 : List Int) (t1 : Int) (t2 : Int) (t3 : Int) : Option ((List Int)) :=
  (iter (F50_l0 F) F (t1, t2, t3, true, true, t0)).bind fun b18 =>
  some b18

def F35 (F : Nat) (t0 : List Int) : Option ((List Int)) :=
  (F29 F ((wrapA .u64 (t0.length : Int)))).bind fun r1 =>
  (F50 F t0 0 ((t0.length : Int)) r1).bind fun r5 =>
  some r5

def F36_l0 (F : Nat)  (s1 : Int × Int × (List Int)) : Option (Stp (Int × Int × (List Int)) ((List Int))) :=
  if (decide (s1.1 < s1.2.1)) then
  ((at? s1.2.2 s1.2.1).bind fun x7 =>
  (at? s1.2.2 s1.1).bind fun x9 =>
  (ck s1.2.2 s1.1).bind fun u11 =>
  (ck ((s1.2.2.set ((Int.toNat s1.1)) x7)) s1.2.1).bind fun u15 =>
  some (.more (((wrapA .i64 (s1.1 + 1)), (wrapA .i64 (s1.2.1 - 1)), (((s1.2.2.set ((Int.toNat s1.1)) x7)).set ((Int.toNat s1.2.1)) x9)))))
  else
  some (.stop s1.2.2)
def F36 (F : Nat) (t0 : List Int) : Option ((List Int)) :=
  (iter (F36_l0 F) F (0, (wrapA .i64 ((t0.length : Int) - 1)), t0)).bind fun b19 =>
  some b19

def F26_l0 (F : Nat) (t0 : List Int) (s1 : (List Int) × Int) (s13 : Int × Int × Int) : Option (Stp (Int × Int × Int) (Int × Int)) :=
  if (s13.2.2 != s1.2) then
  ((at? t0 s13.2.2).bind fun x19 =>
  some (.more (((wrapA .i64 (s13.1 + 1)), (minI s13.2.1 s13.2.2), x19))))
  else
  some (.stop ((s13.1, s13.2.1)))
def F26_l1 (F : Nat) (t0 : List Int) (s1 : (List Int) × Int) : Option (Stp ((List Int) × Int) ((List Int))) :=
  if (decide (s1.2 < (t0.length : Int))) then
  ((at? t0 s1.2).bind fun x11 =>
  (iter (F26_l0 F t0 s1) F (1, s1.2, x11)).bind fun b21 =>
  if (b21.2 == s1.2) then
  ((app? s1.1 ([b21.1])).bind fun L30 =>
  some (.more ((L30, (wrapA .i64 (s1.2 + 1))))))
  else
  some (.more ((s1.1, (wrapA .i64 (s1.2 + 1))))))
  else
  some (.stop s1.1)
def F26 (F : Nat) (t0 : List Int) : Option ((List Int)) :=
  (iter (F26_l1 F t0) F ([], 0)).bind fun b36 =>
  (F35 F b36).bind fun r41 =>
  (F36 F r41).bind fun r45 =>
  some r45

def F11_l0 (F : Nat) (t1 : Int) (r11 : (List Int)) (s17 : Int × Int) : Option (Stp (Int × Int) (Int)) :=
  if (decide (s17.2 < (r11.length : Int))) then
  (some (.more (((wrapA .i64 (s17.1 * t1)), (wrapA .i64 (s17.2 + 1))))))
  else
  some (.stop s17.1)
def F11_l1 (F : Nat) (t0 : List (List Int)) (t1 : Int) (s1 : Int × Int) : Option (Stp (Int × Int) (Int)) :=
  if (decide (s1.2 < (t0.length : Int))) then
  ((at? t0 s1.2).bind fun L7 =>
  (F26 F L7).bind fun r11 =>
  (iter (F11_l0 F t1 r11) F (1, 0)).bind fun b23 =>
  some (.more (((wrapA .i64 (s1.1 + b23)), (wrapA .i64 (s1.2 + 1))))))
  else
  some (.stop s1.1)
def F11 (F : Nat) (t0 : List (List Int)) (t1 : Int) : Option Int :=
  (iter (F11_l1 F t0 t1) F (0, 0)).bind fun b27 =>
  (quo? .i64 b27 (t0.length : Int)).bind fun x31 =>
  some x31

def F27_l0 (F : Nat) (t0 : List Int) (t1 : List Int) (s7 : Int × (List Int)) : Option (Stp (Int × (List Int)) ((List Int))) :=
  if (decide (s7.1 < (t0.length : Int))) then
  ((at? t0 s7.1).bind fun x13 =>
  (at? t1 s7.1).bind fun x15 =>
  (ck s7.2 x13).bind fun u17 =>
  some (.more (((wrapA .i64 (s7.1 + 1)), (s7.2.set ((Int.toNat x13)) x15)))))
  else
  some (.stop s7.2)
def F27 (F : Nat) (t0 : List Int) (t1 : List Int) : Option ((List Int)) :=
  (mk? (t1.length : Int) (0 : Int)).bind fun L1 =>
  (iter (F27_l0 F t0 t1) F (0, L1)).bind fun b21 =>
  some b21

def F13_l0 (F : Nat) (t0 : List (List Int)) (t1 : List Int) (s7 : (List Int) × Int) : Option (Stp ((List Int) × Int) ((List Int))) :=
  if (decide (s7.2 < (t0.length : Int))) then
  ((at? t0 s7.2).bind fun L17 =>
  (F27 F L17 t1).bind fun r21 =>
  (F17 F r21 s7.1).bind fun r27 =>
  if (decide (r27 < 0)) then
  (some (.more ((r21, (wrapA .i64 (s7.2 + 1))))))
  else
  some (.more ((s7.1, (wrapA .i64 (s7.2 + 1))))))
  else
  some (.stop s7.1)
def F13 (F : Nat) (t0 : List (List Int)) (t1 : List Int) : Option ((List Int)) :=
  (F19 F t1).bind fun r1 =>
  (iter (F13_l0 F t0 t1) F (r1, 0)).bind fun b32 =>
  some b32

def F12 (F : Nat) (t0 : List Int) (t1 : List Int) : Option Bool :=
  (F10 F t0 t1).bind fun r1 =>
  some r1

def F3_l0 (F : Nat) (r1 : (List (List Int)) × Int) (r32 : (List (List Int))) (s41 : Int) : Option (Stp (Int) (Unit ⊕ Bool)) :=
  if (decide (s41 < (r1.1.length : Int))) then
  ((at? r1.1 s41).bind fun L49 =>
  (at? r32 s41).bind fun L53 =>
  (F10 F L49 L53).bind fun r57 =>
  if (!r57) then
  (some (.stop ((.inr false))))
  else
  some (.more ((wrapA .i64 (s41 + 1)))))
  else
  some (.stop ((.inl ())))
def F3 (F : Nat) (t0 : Int) (t1 : List (List Int)) (t2 : Int) (t3 : List Int) : Option Bool :=
  (F4 F t0 t1).bind fun r1 =>
  (F5 F t0 t1 t2).bind fun r8 =>
  (F6 F t0 t1 t3).bind fun r12 =>
  (F7 F t0 t1).bind fun r18 =>
  (F8 F t0 t1).bind fun r22 =>
  if (r22 != r18) then
  (some false)
  else
  if (r18 != 0) then
  (some ((((((r1.2 == r18) && (r8.2 == r18)) && (r12.2 == r18)) && ((wrapA .i64 ((r1.1.length : Int) + (r12.1.length : Int))) == 0)) && (r8.1 == 0))))
  else
  (F9 F t0 t1).bind fun r32 =>
  if ((r1.2 != 0) || ((r1.1.length : Int) != (r32.length : Int))) then
  (some false)
  else
  (iter (F3_l0 F r1 r32) F 0).bind fun b62 =>
  match b62 with
  | .inl b64 => ((show Option (Unit ⊕ Bool) from (if ((decide (t2 < 0)) || (decide (t2 > 10))) then
  (if ((r8.2 != 1) || (r8.1 != 0)) then
  (some ((.inr false)))
  else
  some ((.inl ())))
  else
  (if (r8.2 != 0) then some true else 
  ((F11 F r32 t2).bind fun r71 =>
  some (r8.1 != r71))
  ).bind fun y76 =>
  if y76 then
  (some ((.inr false)))
  else
  some ((.inl ())))).bind fun b81 =>
  match b81 with
  | .inl b86 => (if ((t3.length : Int) != t0) then
  (some (((r12.2 == 3) && ((r12.1.length : Int) == 0))))
  else
  (if (r12.2 == 0) then 
  ((F13 F r32 t3).bind fun r91 =>
  (F12 F r12.1 r91).bind fun r97 =>
  some r97)
   else some false).bind fun y102 =>
  some y102)
  | .inr b86 => (some b86))
  | .inr b64 => (some b64)

end Go.Proofs.Ytaphdnpjpmnaeaa
