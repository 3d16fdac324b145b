/- Functional texts of the functions: printed by a program of ours (gen.py). -/
import Derived.Test.YtihmliblbhjlaaaDenJ
set_option linter.unusedVariables false
namespace Go.Proofs.Ytihmliblbhjlaaa
open Go.Am
abbrev Y3 : Lay Int := Lay.one (SV.int .i64)
abbrev Y26 : Lay (Int × Int) := Lay.flat 2 (fun a => [.int .i64 a.1, .int .i64 a.2]) fun _ => rfl
abbrev Y115 : Lay (Int × Int × Bool × Bool) := Lay.flat 4 (fun a => [.int .i64 a.1, .int .i64 a.2.1, .bool a.2.2.1, .bool a.2.2.2]) fun _ => rfl
abbrev Y119 : Lay (Int × Int × Int) := Lay.flat 3 (fun a => [.int .i64 a.1, .int .i64 a.2.1, .int .i64 a.2.2]) fun _ => rfl
abbrev Y117 : Lay ((Int × Int × Bool × Bool) × Int) := Lay.flat 5 (fun a => [.int .i64 a.1.1, .int .i64 a.1.2.1, .bool a.1.2.2.1, .bool a.1.2.2.2, .int .i64 a.2]) fun _ => rfl
abbrev Y22 : Lay (List Int) := Lay.sl Y3
abbrev Y130 : Lay (List Bool) := Lay.arr 10 SV.bool
abbrev Y201 : Lay Int := Lay.one (SV.int .u64)
abbrev Y134 : Lay (List Int) := Lay.arr 41 (SV.int .i64)
abbrev Y9 : Lay (List UInt8) := Lay.one SV.str
abbrev Y5 : Lay Int := Lay.one (SV.int .u8)
abbrev Y78 : Lay (List (List UInt8)) := Lay.sl Y9
abbrev Y27 : Lay Int := Lay.one (SV.int .i64)
abbrev Y4 : Lay Bool := Lay.one SV.bool
abbrev Y167 : Lay (Int × Int) := Lay.flat 2 (fun a => [.int .i64 a.1, .int .i64 a.2]) fun _ => rfl

def F21_l0 (F : Nat) (t0 : List Int) (t1 : List Int) (s2 : Int) : Option (Stp (Int) (Unit ⊕ Bool)) :=
  if (decide (s2 < (t0.length : Int))) then
  ((at? t0 s2).bind fun x10 =>
  (at? t1 s2).bind fun x12 =>
  if (x10 != x12) then
  (some (.stop ((.inr false))))
  else
  some (.more ((wrapA .i64 (s2 + 1)))))
  else
  some (.stop ((.inl ())))
def F21 (F : Nat) (t0 : List Int) (t1 : List Int) : Option Bool :=
  if ((t0.length : Int) != (t1.length : Int)) then
  (some false)
  else
  (iter (F21_l0 F t0 t1) F 0).bind fun b15 =>
  match b15 with
  | .inl b17 => (some true)
  | .inr b17 => (some b17)

def F26 (F : Nat) (t0 : List Int) (t1 : List Int) : Option Bool :=
  (F21 F t0 t1).bind fun r1 =>
  some r1

def F45 (F : Nat) (t0 : (List Int)) : Option ((List Int)) := if t0.length ≤ 17592186044416 then some t0 else none

def F167 (F : Nat) (t0 : Int) : Option Bool :=
  some ((t0 != t0))

def F151 (F : Nat) (t0 : Int) (t1 : Int) : Option Bool :=
  (F167 F t0).bind fun r1 =>
  (if r1 then 
  ((F167 F t1).bind fun r5 =>
  some (!r5))
   else some false).bind fun y10 =>
  some ((y10 || (decide (t0 < t1))))

def F36_l0 (F : Nat) (t0 : Int) (s15 : Int × (List Int)) (s21 : Int × (List Int)) : Option (Stp (Int × (List Int)) ((List Int))) :=
  if (decide (s21.1 ≤ t0)) then
  ((at? s21.2 s21.1).bind fun x27 =>
  (at? s21.2 (wrapA .i64 (s21.1 - s15.1))).bind fun x29 =>
  (ck s21.2 s21.1).bind fun u31 =>
  some (.more (((wrapA .i64 (s21.1 + 1)), (s21.2.set ((Int.toNat s21.1)) ((wrapA .i64 (x27 + x29))))))))
  else
  some (.stop s21.2)
def F36_l1 (F : Nat) (t0 : Int) (t1 : Int) (s15 : Int × (List Int)) : Option (Stp (Int × (List Int)) ((List Int))) :=
  if (decide (s15.1 ≤ t1)) then
  ((iter (F36_l0 F t0 s15) F (s15.1, s15.2)).bind fun b35 =>
  some (.more (((wrapA .i64 (s15.1 + 1)), b35))))
  else
  some (.stop s15.2)
def F36 (F : Nat) (t0 : Int) (t1 : Int) : Option (Int × Int) :=
  if ((((decide (t0 < 0)) || (decide (t0 > 40))) || (decide (t1 < 0))) || (decide (t1 > 40))) then
  (some ((0, 1)))
  else
  (mk? (wrapA .i64 (t0 + 1)) (0 : Int)).bind fun L5 =>
  (ck L5 0).bind fun u11 =>
  (iter (F36_l1 F t0 t1) F (1, (L5.set ((Int.toNat 0)) 1))).bind fun b39 =>
  (at? b39 t0).bind fun x43 =>
  some ((x43, 0))

def F42_l0 (F : Nat) (t0 : List Int) (s1 : Int × Int) : Option (Stp (Int × Int) (Unit ⊕ Int)) :=
  if (decide (s1.2 < (t0.length : Int))) then
  ((at? t0 s1.2).bind fun x9 =>
  if ((decide (x9 < 1)) || (decide (x9 > 40))) then
  (some (.stop ((.inr 1))))
  else
  (if (decide (s1.2 > 0)) then 
  ((at? t0 (wrapA .i64 (s1.2 - 1))).bind fun x13 =>
  some (decide (x9 > x13)))
   else some false).bind fun y16 =>
  if y16 then
  (some (.stop ((.inr 3))))
  else
  if (decide ((wrapA .i64 (s1.1 + x9)) > 40)) then
  (some (.stop ((.inr 2))))
  else
  some (.more (((wrapA .i64 (s1.1 + x9)), (wrapA .i64 (s1.2 + 1))))))
  else
  some (.stop ((.inl ())))
def F42 (F : Nat) (t0 : List Int) : Option Int :=
  (iter (F42_l0 F t0) F (0, 0)).bind fun b20 =>
  match b20 with
  | .inl b22 => (some 0)
  | .inr b22 => (some b22)

def F37_l0 (F : Nat) (x16 : Int) (s18 : (List Int)) : Option (Stp ((List Int)) ((List Int))) :=
  if (decide ((s18.length : Int) < x16)) then
  ((app? s18 ([0])).bind fun L32 =>
  some (.more L32))
  else
  some (.stop s18)
def F37_l1 (F : Nat) (x16 : Int) (s43 : Int × (List Int)) : Option (Stp (Int × (List Int)) ((List Int))) :=
  if (decide (s43.1 < x16)) then
  ((at? s43.2 s43.1).bind fun x49 =>
  (ck s43.2 s43.1).bind fun u51 =>
  some (.more (((wrapA .i64 (s43.1 + 1)), (s43.2.set ((Int.toNat s43.1)) ((wrapA .i64 (x49 + 1))))))))
  else
  some (.stop s43.2)
def F37_l2 (F : Nat) (t0 : List Int) (s6 : (List Int) × Int) : Option (Stp ((List Int) × Int) ((List Int))) :=
  if (decide (s6.2 < (t0.length : Int))) then
  ((at? t0 s6.2).bind fun x16 =>
  (iter (F37_l0 F x16) F s6.1).bind fun b38 =>
  (iter (F37_l1 F x16) F (0, b38)).bind fun b55 =>
  some (.more ((b55, (wrapA .i64 (s6.2 + 1))))))
  else
  some (.stop s6.1)
def F37 (F : Nat) (t0 : List Int) : Option ((List Int) × Int) :=
  (F42 F t0).bind fun r1 =>
  if (r1 != 0) then
  (some (([], r1)))
  else
  (iter (F37_l2 F t0) F ([], 0)).bind fun b59 =>
  some ((b59, 0))

def F177 (F : Nat) (t0 : Int) : Option Int :=
  (show Option (Int × Int) from (if (decide (t0 ≥ 65536)) then
  ((shr? .u32 t0 16).bind fun x2 =>
  some ((x2, 16)))
  else
  some ((t0, 0)))).bind fun b4 =>
  if (decide (b4.1 ≥ 256)) then
  ((shr? .u32 b4.1 8).bind fun x10 =>
  (at? ([0, 1, 2, 2, 3, 3, 3, 3, 4, 4, 4, 4, 4, 4, 4, 4, 5, 5, 5, 5, 5, 5, 5, 5, 5, 5, 5, 5, 5, 5, 5, 5, 6, 6, 6, 6, 6, 6, 6, 6, 6, 6, 6, 6, 6, 6, 6, 6, 6, 6, 6, 6, 6, 6, 6, 6, 6, 6, 6, 6, 6, 6, 6, 6, 7, 7, 7, 7, 7, 7, 7, 7, 7, 7, 7, 7, 7, 7, 7, 7, 7, 7, 7, 7, 7, 7, 7, 7, 7, 7, 7, 7, 7, 7, 7, 7, 7, 7, 7, 7, 7, 7, 7, 7, 7, 7, 7, 7, 7, 7, 7, 7, 7, 7, 7, 7, 7, 7, 7, 7, 7, 7, 7, 7, 7, 7, 7, 7, 8, 8, 8, 8, 8, 8, 8, 8, 8, 8, 8, 8, 8, 8, 8, 8, 8, 8, 8, 8, 8, 8, 8, 8, 8, 8, 8, 8, 8, 8, 8, 8, 8, 8, 8, 8, 8, 8, 8, 8, 8, 8, 8, 8, 8, 8, 8, 8, 8, 8, 8, 8, 8, 8, 8, 8, 8, 8, 8, 8, 8, 8, 8, 8, 8, 8, 8, 8, 8, 8, 8, 8, 8, 8, 8, 8, 8, 8, 8, 8, 8, 8, 8, 8, 8, 8, 8, 8, 8, 8, 8, 8, 8, 8, 8, 8, 8, 8, 8, 8, 8, 8, 8, 8, 8, 8, 8, 8, 8, 8, 8, 8, 8, 8, 8, 8, 8, 8, 8, 8, 8, 8, 8, 8, 8, 8, 8, 8] : List UInt8) (wrapA .u8 x10)).bind fun x12 =>
  some ((wrapA .i64 ((wrapA .i64 (b4.2 + 8)) + (wrapA .i64 (x12.toNat : Int))))))
  else
  (at? ([0, 1, 2, 2, 3, 3, 3, 3, 4, 4, 4, 4, 4, 4, 4, 4, 5, 5, 5, 5, 5, 5, 5, 5, 5, 5, 5, 5, 5, 5, 5, 5, 6, 6, 6, 6, 6, 6, 6, 6, 6, 6, 6, 6, 6, 6, 6, 6, 6, 6, 6, 6, 6, 6, 6, 6, 6, 6, 6, 6, 6, 6, 6, 6, 7, 7, 7, 7, 7, 7, 7, 7, 7, 7, 7, 7, 7, 7, 7, 7, 7, 7, 7, 7, 7, 7, 7, 7, 7, 7, 7, 7, 7, 7, 7, 7, 7, 7, 7, 7, 7, 7, 7, 7, 7, 7, 7, 7, 7, 7, 7, 7, 7, 7, 7, 7, 7, 7, 7, 7, 7, 7, 7, 7, 7, 7, 7, 7, 8, 8, 8, 8, 8, 8, 8, 8, 8, 8, 8, 8, 8, 8, 8, 8, 8, 8, 8, 8, 8, 8, 8, 8, 8, 8, 8, 8, 8, 8, 8, 8, 8, 8, 8, 8, 8, 8, 8, 8, 8, 8, 8, 8, 8, 8, 8, 8, 8, 8, 8, 8, 8, 8, 8, 8, 8, 8, 8, 8, 8, 8, 8, 8, 8, 8, 8, 8, 8, 8, 8, 8, 8, 8, 8, 8, 8, 8, 8, 8, 8, 8, 8, 8, 8, 8, 8, 8, 8, 8, 8, 8, 8, 8, 8, 8, 8, 8, 8, 8, 8, 8, 8, 8, 8, 8, 8, 8, 8, 8, 8, 8, 8, 8, 8, 8, 8, 8, 8, 8, 8, 8, 8, 8, 8, 8, 8, 8] : List UInt8) (wrapA .u8 b4.1)).bind fun x14 =>
  some ((wrapA .i64 (b4.2 + (wrapA .i64 (x14.toNat : Int)))))

def F178 (F : Nat) (t0 : Int) : Option Int :=
  (show Option (Int × Int) from (if (decide (t0 ≥ 4294967296)) then
  ((shr? .u64 t0 32).bind fun x2 =>
  some ((x2, 32)))
  else
  some ((t0, 0)))).bind fun b4 =>
  (show Option (Int × Int) from (if (decide (b4.1 ≥ 65536)) then
  ((shr? .u64 b4.1 16).bind fun x10 =>
  some ((x10, (wrapA .i64 (b4.2 + 16)))))
  else
  some ((b4.1, b4.2)))).bind fun b12 =>
  if (decide (b12.1 ≥ 256)) then
  ((shr? .u64 b12.1 8).bind fun x18 =>
  (at? ([0, 1, 2, 2, 3, 3, 3, 3, 4, 4, 4, 4, 4, 4, 4, 4, 5, 5, 5, 5, 5, 5, 5, 5, 5, 5, 5, 5, 5, 5, 5, 5, 6, 6, 6, 6, 6, 6, 6, 6, 6, 6, 6, 6, 6, 6, 6, 6, 6, 6, 6, 6, 6, 6, 6, 6, 6, 6, 6, 6, 6, 6, 6, 6, 7, 7, 7, 7, 7, 7, 7, 7, 7, 7, 7, 7, 7, 7, 7, 7, 7, 7, 7, 7, 7, 7, 7, 7, 7, 7, 7, 7, 7, 7, 7, 7, 7, 7, 7, 7, 7, 7, 7, 7, 7, 7, 7, 7, 7, 7, 7, 7, 7, 7, 7, 7, 7, 7, 7, 7, 7, 7, 7, 7, 7, 7, 7, 7, 8, 8, 8, 8, 8, 8, 8, 8, 8, 8, 8, 8, 8, 8, 8, 8, 8, 8, 8, 8, 8, 8, 8, 8, 8, 8, 8, 8, 8, 8, 8, 8, 8, 8, 8, 8, 8, 8, 8, 8, 8, 8, 8, 8, 8, 8, 8, 8, 8, 8, 8, 8, 8, 8, 8, 8, 8, 8, 8, 8, 8, 8, 8, 8, 8, 8, 8, 8, 8, 8, 8, 8, 8, 8, 8, 8, 8, 8, 8, 8, 8, 8, 8, 8, 8, 8, 8, 8, 8, 8, 8, 8, 8, 8, 8, 8, 8, 8, 8, 8, 8, 8, 8, 8, 8, 8, 8, 8, 8, 8, 8, 8, 8, 8, 8, 8, 8, 8, 8, 8, 8, 8, 8, 8, 8, 8, 8, 8] : List UInt8) (wrapA .u8 x18)).bind fun x20 =>
  some ((wrapA .i64 ((wrapA .i64 (b12.2 + 8)) + (wrapA .i64 (x20.toNat : Int))))))
  else
  (at? ([0, 1, 2, 2, 3, 3, 3, 3, 4, 4, 4, 4, 4, 4, 4, 4, 5, 5, 5, 5, 5, 5, 5, 5, 5, 5, 5, 5, 5, 5, 5, 5, 6, 6, 6, 6, 6, 6, 6, 6, 6, 6, 6, 6, 6, 6, 6, 6, 6, 6, 6, 6, 6, 6, 6, 6, 6, 6, 6, 6, 6, 6, 6, 6, 7, 7, 7, 7, 7, 7, 7, 7, 7, 7, 7, 7, 7, 7, 7, 7, 7, 7, 7, 7, 7, 7, 7, 7, 7, 7, 7, 7, 7, 7, 7, 7, 7, 7, 7, 7, 7, 7, 7, 7, 7, 7, 7, 7, 7, 7, 7, 7, 7, 7, 7, 7, 7, 7, 7, 7, 7, 7, 7, 7, 7, 7, 7, 7, 8, 8, 8, 8, 8, 8, 8, 8, 8, 8, 8, 8, 8, 8, 8, 8, 8, 8, 8, 8, 8, 8, 8, 8, 8, 8, 8, 8, 8, 8, 8, 8, 8, 8, 8, 8, 8, 8, 8, 8, 8, 8, 8, 8, 8, 8, 8, 8, 8, 8, 8, 8, 8, 8, 8, 8, 8, 8, 8, 8, 8, 8, 8, 8, 8, 8, 8, 8, 8, 8, 8, 8, 8, 8, 8, 8, 8, 8, 8, 8, 8, 8, 8, 8, 8, 8, 8, 8, 8, 8, 8, 8, 8, 8, 8, 8, 8, 8, 8, 8, 8, 8, 8, 8, 8, 8, 8, 8, 8, 8, 8, 8, 8, 8, 8, 8, 8, 8, 8, 8, 8, 8, 8, 8, 8, 8, 8, 8] : List UInt8) (wrapA .u8 b12.1)).bind fun x22 =>
  some ((wrapA .i64 (b12.2 + (wrapA .i64 (x22.toNat : Int)))))

def F155 (F : Nat) (t0 : Int) : Option Int :=
  if false then
  ((F177 F ((wrapA .u32 t0))).bind fun r2 =>
  some r2)
  else
  (F178 F t0).bind fun r6 =>
  some r6

def F111 (F : Nat) (t0 : Int) (t1 : Int) : Option Int :=
  some ((wrapA .i64 (t1 - t0)))

def F169_111_l0 (F : Nat) (t1 : Int) (s7 : Int × (List Int)) : Option (Stp (Int × (List Int)) ((List Int))) :=
  (if (decide (s7.1 > t1)) then 
  ((at? s7.2 s7.1).bind fun x12 =>
  (at? s7.2 (wrapA .i64 (s7.1 - 1))).bind fun x14 =>
  (F111 F x12 x14).bind fun r16 =>
  some (decide (r16 < 0)))
   else some false).bind fun y21 =>
  if y21 then
  ((at? s7.2 (wrapA .i64 (s7.1 - 1))).bind fun x26 =>
  (at? s7.2 s7.1).bind fun x28 =>
  (ck s7.2 s7.1).bind fun u30 =>
  (ck ((s7.2.set ((Int.toNat s7.1)) x26)) (wrapA .i64 (s7.1 - 1))).bind fun u34 =>
  some (.more (((wrapA .i64 (s7.1 - 1)), (((s7.2.set ((Int.toNat s7.1)) x26)).set ((Int.toNat (wrapA .i64 (s7.1 - 1)))) x28)))))
  else
  some (.stop s7.2)
def F169_111_l1 (F : Nat) (t1 : Int) (t2 : Int) (s1 : Int × (List Int)) : Option (Stp (Int × (List Int)) ((List Int))) :=
  if (decide (s1.1 < t2)) then
  ((iter (F169_111_l0 F t1) F (s1.1, s1.2)).bind fun b38 =>
  some (.more (((wrapA .i64 (s1.1 + 1)), b38))))
  else
  some (.stop s1.2)
def F169_111 (F : Nat) (t0 : List Int) (t1 : Int) (t2 : Int) : Option ((List Int)) :=
  (iter (F169_111_l1 F t1 t2) F ((wrapA .i64 (t1 + 1)), t0)).bind fun b42 =>
  some b42

def F197_111_l0 (F : Nat) (t2 : Int) (t3 : Int) (s1 : Int × (List Int)) : Option (Stp (Int × (List Int)) ((List Int) ⊕ (List Int))) :=
  if (decide ((wrapA .i64 ((wrapA .i64 (2 * s1.1)) + 1)) ≥ t2)) then
  (some (.stop ((.inl s1.2))))
  else
  (if (decide ((wrapA .i64 ((wrapA .i64 ((wrapA .i64 (2 * s1.1)) + 1)) + 1)) < t2)) then 
  ((at? s1.2 (wrapA .i64 (t3 + (wrapA .i64 ((wrapA .i64 (2 * s1.1)) + 1))))).bind fun x9 =>
  (at? s1.2 (wrapA .i64 ((wrapA .i64 (t3 + (wrapA .i64 ((wrapA .i64 (2 * s1.1)) + 1)))) + 1))).bind fun x11 =>
  (F111 F x9 x11).bind fun r13 =>
  some (decide (r13 < 0)))
   else some false).bind fun y18 =>
  (show Option (Int) from (if y18 then
  (some ((wrapA .i64 ((wrapA .i64 ((wrapA .i64 (2 * s1.1)) + 1)) + 1))))
  else
  some ((wrapA .i64 ((wrapA .i64 (2 * s1.1)) + 1))))).bind fun b23 =>
  (at? s1.2 (wrapA .i64 (t3 + s1.1))).bind fun x28 =>
  (at? s1.2 (wrapA .i64 (t3 + b23))).bind fun x30 =>
  (F111 F x28 x30).bind fun r32 =>
  if (!(decide (r32 < 0))) then
  (some (.stop ((.inr s1.2))))
  else
  (at? s1.2 (wrapA .i64 (t3 + b23))).bind fun x37 =>
  (at? s1.2 (wrapA .i64 (t3 + s1.1))).bind fun x39 =>
  (ck s1.2 (wrapA .i64 (t3 + s1.1))).bind fun u41 =>
  (ck ((s1.2.set ((Int.toNat (wrapA .i64 (t3 + s1.1)))) x37)) (wrapA .i64 (t3 + b23))).bind fun u45 =>
  some (.more ((b23, (((s1.2.set ((Int.toNat (wrapA .i64 (t3 + s1.1)))) x37)).set ((Int.toNat (wrapA .i64 (t3 + b23)))) x39))))
def F197_111 (F : Nat) (t0 : List Int) (t1 : Int) (t2 : Int) (t3 : Int) : Option ((List Int)) :=
  (iter (F197_111_l0 F t2 t3) F (t1, t0)).bind fun b49 =>
  match b49 with
  | .inl b51 => (some b51)
  | .inr b51 => (some b51)

def F170_111_l0 (F : Nat) (t1 : Int) (t2 : Int) (s1 : Int × (List Int)) : Option (Stp (Int × (List Int)) ((List Int))) :=
  if (decide (s1.1 ≥ 0)) then
  ((F197_111 F s1.2 s1.1 ((wrapA .i64 (t2 - t1))) t1).bind fun r7 =>
  some (.more (((wrapA .i64 (s1.1 - 1)), r7))))
  else
  some (.stop s1.2)
def F170_111_l1 (F : Nat) (t1 : Int) (s15 : Int × (List Int)) : Option (Stp (Int × (List Int)) ((List Int))) :=
  if (decide (s15.1 ≥ 0)) then
  ((at? s15.2 (wrapA .i64 (t1 + s15.1))).bind fun x21 =>
  (at? s15.2 t1).bind fun x23 =>
  (ck s15.2 t1).bind fun u25 =>
  (ck ((s15.2.set ((Int.toNat t1)) x21)) (wrapA .i64 (t1 + s15.1))).bind fun u29 =>
  (F197_111 F ((((s15.2.set ((Int.toNat t1)) x21)).set ((Int.toNat (wrapA .i64 (t1 + s15.1)))) x23)) 0 s15.1 t1).bind fun r33 =>
  some (.more (((wrapA .i64 (s15.1 - 1)), r33))))
  else
  some (.stop s15.2)
def F170_111 (F : Nat) (t0 : List Int) (t1 : Int) (t2 : Int) : Option ((List Int)) :=
  (iter (F170_111_l0 F t1 t2) F ((wrapA .i64 (Int.tdiv (wrapA .i64 ((wrapA .i64 (t2 - t1)) - 1)) 2)), t0)).bind fun b11 =>
  (iter (F170_111_l1 F t1) F ((wrapA .i64 ((wrapA .i64 (t2 - t1)) - 1)), b11)).bind fun b37 =>
  some b37

def F198 (F : Nat) (t0 : Int) : Option Int :=
  (F155 F ((wrapA .u64 t0))).bind fun r1 =>
  (shl? .u64 1 r1).bind fun x5 =>
  some x5

def F199 (F : Nat) (t0 : Int) : Option (Int × Int) :=
  (shl? .u64 t0 13).bind fun x1 =>
  (shr? .u64 ((bit .xor .u64 t0 x1)) 7).bind fun x5 =>
  (shl? .u64 ((bit .xor .u64 ((bit .xor .u64 t0 x1)) x5)) 17).bind fun x9 =>
  some ((((bit .xor .u64 ((bit .xor .u64 ((bit .xor .u64 t0 x1)) x5)) x9)), (bit .xor .u64 ((bit .xor .u64 ((bit .xor .u64 t0 x1)) x5)) x9)))

def F171_111_l0 (F : Nat) (t1 : Int) (t2 : Int) (r8 : Int) (s12 : Int × (List Int) × Int) : Option (Stp (Int × (List Int) × Int) ((List Int))) :=
  if (decide (s12.1 ≤ (wrapA .i64 ((wrapA .i64 (t1 + (wrapA .i64 ((wrapA .i64 (Int.tdiv (wrapA .i64 (t2 - t1)) 4)) * 2)))) + 1)))) then
  ((F199 F s12.2.2).bind fun r19 =>
  (show Option (Int) from (if (decide ((wrapA .i64 (bit .and .u64 r19.1 (wrapA .u64 (r8 - 1)))) ≥ (wrapA .i64 (t2 - t1)))) then
  (some ((wrapA .i64 ((wrapA .i64 (bit .and .u64 r19.1 (wrapA .u64 (r8 - 1)))) - (wrapA .i64 (t2 - t1))))))
  else
  some ((wrapA .i64 (bit .and .u64 r19.1 (wrapA .u64 (r8 - 1))))))).bind fun b25 =>
  (at? s12.2.1 (wrapA .i64 (t1 + b25))).bind fun x30 =>
  (at? s12.2.1 s12.1).bind fun x32 =>
  (ck s12.2.1 s12.1).bind fun u34 =>
  (ck ((s12.2.1.set ((Int.toNat s12.1)) x30)) (wrapA .i64 (t1 + b25))).bind fun u38 =>
  some (.more (((wrapA .i64 (s12.1 + 1)), (((s12.2.1.set ((Int.toNat s12.1)) x30)).set ((Int.toNat (wrapA .i64 (t1 + b25)))) x32), r19.2))))
  else
  some (.stop s12.2.1)
def F171_111 (F : Nat) (t0 : List Int) (t1 : Int) (t2 : Int) : Option ((List Int)) :=
  if (decide ((wrapA .i64 (t2 - t1)) ≥ 8)) then
  ((F198 F ((wrapA .i64 (t2 - t1)))).bind fun r8 =>
  (iter (F171_111_l0 F t1 t2 r8) F ((wrapA .i64 ((wrapA .i64 (t1 + (wrapA .i64 ((wrapA .i64 (Int.tdiv (wrapA .i64 (t2 - t1)) 4)) * 2)))) - 1)), t0, (wrapA .u64 (wrapA .i64 (t2 - t1))))).bind fun b42 =>
  some b42)
  else
  some t0

def F216_111 (F : Nat) (t0 : List Int) (t1 : Int) (t2 : Int) (t3 : Int) : Option (Int × Int × Int) :=
  (at? t0 t2).bind fun x1 =>
  (at? t0 t1).bind fun x3 =>
  (F111 F x1 x3).bind fun r5 =>
  if (decide (r5 < 0)) then
  (some ((t2, t1, (wrapA .i64 (t3 + 1)))))
  else
  some ((t1, t2, t3))

def F201_111 (F : Nat) (t0 : List Int) (t1 : Int) (t2 : Int) (t3 : Int) (t4 : Int) : Option (Int × Int) :=
  (F216_111 F t0 t1 t2 t4).bind fun r1 =>
  (F216_111 F t0 r1.2.1 t3 r1.2.2).bind fun r6 =>
  (F216_111 F t0 r1.1 r6.1 r6.2.2).bind fun r11 =>
  some ((r11.2.1, r11.2.2))

def F200_111 (F : Nat) (t0 : List Int) (t1 : Int) (t2 : Int) : Option (Int × Int) :=
  (F201_111 F t0 ((wrapA .i64 (t1 - 1))) t1 ((wrapA .i64 (t1 + 1))) t2).bind fun r1 =>
  some ((r1.1, r1.2))

def F172_111 (F : Nat) (t0 : List Int) (t1 : Int) (t2 : Int) : Option (Int × Int) :=
  (show Option (Int × Int) from (if (decide ((wrapA .i64 (t2 - t1)) ≥ 8)) then
  (if (decide ((wrapA .i64 (t2 - t1)) ≥ 50)) then
  ((F200_111 F t0 ((wrapA .i64 (t1 + (wrapA .i64 ((wrapA .i64 (Int.tdiv (wrapA .i64 (t2 - t1)) 4)) * 1))))) 0).bind fun r8 =>
  (F200_111 F t0 ((wrapA .i64 (t1 + (wrapA .i64 ((wrapA .i64 (Int.tdiv (wrapA .i64 (t2 - t1)) 4)) * 2))))) r8.2).bind fun r13 =>
  (F200_111 F t0 ((wrapA .i64 (t1 + (wrapA .i64 ((wrapA .i64 (Int.tdiv (wrapA .i64 (t2 - t1)) 4)) * 3))))) r13.2).bind fun r18 =>
  (F201_111 F t0 r8.1 r13.1 r18.1 r18.2).bind fun r23 =>
  some ((r23.1, r23.2)))
  else
  (F201_111 F t0 ((wrapA .i64 (t1 + (wrapA .i64 ((wrapA .i64 (Int.tdiv (wrapA .i64 (t2 - t1)) 4)) * 1))))) ((wrapA .i64 (t1 + (wrapA .i64 ((wrapA .i64 (Int.tdiv (wrapA .i64 (t2 - t1)) 4)) * 2))))) ((wrapA .i64 (t1 + (wrapA .i64 ((wrapA .i64 (Int.tdiv (wrapA .i64 (t2 - t1)) 4)) * 3))))) 0).bind fun r29 =>
  some ((r29.1, r29.2)))
  else
  some (((wrapA .i64 (t1 + (wrapA .i64 ((wrapA .i64 (Int.tdiv (wrapA .i64 (t2 - t1)) 4)) * 2)))), 0)))).bind fun b34 =>
  if (b34.2 == 0) then
  (some ((b34.1, 1)))
  else
  if (b34.2 == 12) then
  (some ((b34.1, 2)))
  else
  some ((b34.1, 0))

def F173_111_l0 (F : Nat)  (s1 : Int × Int × (List Int)) : Option (Stp (Int × Int × (List Int)) ((List Int))) :=
  if (decide (s1.1 < s1.2.1)) then
  ((at? s1.2.2 s1.2.1).bind fun x7 =>
  (at? s1.2.2 s1.1).bind fun x9 =>
  (ck s1.2.2 s1.1).bind fun u11 =>
  (ck ((s1.2.2.set ((Int.toNat s1.1)) x7)) s1.2.1).bind fun u15 =>
  some (.more (((wrapA .i64 (s1.1 + 1)), (wrapA .i64 (s1.2.1 - 1)), (((s1.2.2.set ((Int.toNat s1.1)) x7)).set ((Int.toNat s1.2.1)) x9)))))
  else
  some (.stop s1.2.2)
def F173_111 (F : Nat) (t0 : List Int) (t1 : Int) (t2 : Int) : Option ((List Int)) :=
  (iter (F173_111_l0 F) F (t1, (wrapA .i64 (t2 - 1)), t0)).bind fun b19 =>
  some b19

def F174_111_l0 (F : Nat) (t2 : Int) (s1 : Int × Int × (List Int)) (s9 : Int) : Option (Stp (Int) (Int)) :=
  (if (decide (s9 < t2)) then 
  ((at? s1.2.2 s9).bind fun x14 =>
  (at? s1.2.2 (wrapA .i64 (s9 - 1))).bind fun x16 =>
  (F111 F x14 x16).bind fun r18 =>
  some (!(decide (r18 < 0))))
   else some false).bind fun y23 =>
  if y23 then
  (some (.more ((wrapA .i64 (s9 + 1)))))
  else
  some (.stop s9)
def F174_111_l1 (F : Nat)  (s47 : Int × (List Int)) : Option (Stp (Int × (List Int)) ((List Int))) :=
  if (decide (s47.1 ≥ 1)) then
  ((at? s47.2 s47.1).bind fun x53 =>
  (at? s47.2 (wrapA .i64 (s47.1 - 1))).bind fun x55 =>
  (F111 F x53 x55).bind fun r57 =>
  if (!(decide (r57 < 0))) then
  (some (.stop s47.2))
  else
  (at? s47.2 (wrapA .i64 (s47.1 - 1))).bind fun x62 =>
  (at? s47.2 s47.1).bind fun x64 =>
  (ck s47.2 s47.1).bind fun u66 =>
  (ck ((s47.2.set ((Int.toNat s47.1)) x62)) (wrapA .i64 (s47.1 - 1))).bind fun u70 =>
  some (.more (((wrapA .i64 (s47.1 - 1)), (((s47.2.set ((Int.toNat s47.1)) x62)).set ((Int.toNat (wrapA .i64 (s47.1 - 1)))) x64)))))
  else
  some (.stop s47.2)
def F174_111_l2 (F : Nat) (t2 : Int) (s84 : Int × (List Int)) : Option (Stp (Int × (List Int)) ((List Int))) :=
  if (decide (s84.1 < t2)) then
  ((at? s84.2 s84.1).bind fun x90 =>
  (at? s84.2 (wrapA .i64 (s84.1 - 1))).bind fun x92 =>
  (F111 F x90 x92).bind fun r94 =>
  if (!(decide (r94 < 0))) then
  (some (.stop s84.2))
  else
  (at? s84.2 (wrapA .i64 (s84.1 - 1))).bind fun x99 =>
  (at? s84.2 s84.1).bind fun x101 =>
  (ck s84.2 s84.1).bind fun u103 =>
  (ck ((s84.2.set ((Int.toNat s84.1)) x99)) (wrapA .i64 (s84.1 - 1))).bind fun u107 =>
  some (.more (((wrapA .i64 (s84.1 + 1)), (((s84.2.set ((Int.toNat s84.1)) x99)).set ((Int.toNat (wrapA .i64 (s84.1 - 1)))) x101)))))
  else
  some (.stop s84.2)
def F174_111_l3 (F : Nat) (t1 : Int) (t2 : Int) (s1 : Int × Int × (List Int)) : Option (Stp (Int × Int × (List Int)) ((List Int) ⊕ (Bool × (List Int)))) :=
  if (decide (s1.2.1 < 5)) then
  ((iter (F174_111_l0 F t2 s1) F s1.1).bind fun b28 =>
  if (b28 == t2) then
  (some (.stop ((.inr (true, s1.2.2)))))
  else
  if (decide ((wrapA .i64 (t2 - t1)) < 50)) then
  (some (.stop ((.inr (false, s1.2.2)))))
  else
  (at? s1.2.2 (wrapA .i64 (b28 - 1))).bind fun x34 =>
  (at? s1.2.2 b28).bind fun x36 =>
  (ck s1.2.2 b28).bind fun u38 =>
  (ck ((s1.2.2.set ((Int.toNat b28)) x34)) (wrapA .i64 (b28 - 1))).bind fun u42 =>
  (show Option ((List Int)) from (if (decide ((wrapA .i64 (b28 - t1)) ≥ 2)) then
  ((iter (F174_111_l1 F) F ((wrapA .i64 (b28 - 1)), (((s1.2.2.set ((Int.toNat b28)) x34)).set ((Int.toNat (wrapA .i64 (b28 - 1)))) x36))).bind fun b74 =>
  some b74)
  else
  some ((((s1.2.2.set ((Int.toNat b28)) x34)).set ((Int.toNat (wrapA .i64 (b28 - 1)))) x36)))).bind fun b78 =>
  if (decide ((wrapA .i64 (t2 - b28)) ≥ 2)) then
  ((iter (F174_111_l2 F t2) F ((wrapA .i64 (b28 + 1)), b78)).bind fun b111 =>
  some (.more ((b28, (wrapA .i64 (s1.2.1 + 1)), b111))))
  else
  some (.more ((b28, (wrapA .i64 (s1.2.1 + 1)), b78))))
  else
  some (.stop ((.inl s1.2.2)))
def F174_111 (F : Nat) (t0 : List Int) (t1 : Int) (t2 : Int) : Option (Bool × (List Int)) :=
  (iter (F174_111_l3 F t1 t2) F ((wrapA .i64 (t1 + 1)), 0, t0)).bind fun b115 =>
  match b115 with
  | .inl b117 => (some ((false, b117)))
  | .inr b117 => (some ((b117.1, b117.2)))

def F175_111_l0 (F : Nat) (t1 : Int) (s13 : Int × Int × (List Int)) (s18 : Int) : Option (Stp (Int) (Int)) :=
  (if (decide (s18 ≤ s13.2.1)) then 
  ((at? s13.2.2 t1).bind fun x23 =>
  (at? s13.2.2 s18).bind fun x25 =>
  (F111 F x23 x25).bind fun r27 =>
  some (!(decide (r27 < 0))))
   else some false).bind fun y32 =>
  if y32 then
  (some (.more ((wrapA .i64 (s18 + 1)))))
  else
  some (.stop s18)
def F175_111_l1 (F : Nat) (t1 : Int) (s13 : Int × Int × (List Int)) (b37 : Int) (s41 : Int) : Option (Stp (Int) (Int)) :=
  (if (decide (b37 ≤ s41)) then 
  ((at? s13.2.2 t1).bind fun x46 =>
  (at? s13.2.2 s41).bind fun x48 =>
  (F111 F x46 x48).bind fun r50 =>
  some (decide (r50 < 0)))
   else some false).bind fun y55 =>
  if y55 then
  (some (.more ((wrapA .i64 (s41 - 1)))))
  else
  some (.stop s41)
def F175_111_l2 (F : Nat) (t1 : Int) (s13 : Int × Int × (List Int)) : Option (Stp (Int × Int × (List Int)) (Int × (List Int))) :=
  (iter (F175_111_l0 F t1 s13) F s13.1).bind fun b37 =>
  (iter (F175_111_l1 F t1 s13 b37) F s13.2.1).bind fun b60 =>
  if (decide (b37 > b60)) then
  (some (.stop ((b37, s13.2.2))))
  else
  (at? s13.2.2 b60).bind fun x65 =>
  (at? s13.2.2 b37).bind fun x67 =>
  (ck s13.2.2 b37).bind fun u69 =>
  (ck ((s13.2.2.set ((Int.toNat b37)) x65)) b60).bind fun u73 =>
  some (.more (((wrapA .i64 (b37 + 1)), (wrapA .i64 (b60 - 1)), (((s13.2.2.set ((Int.toNat b37)) x65)).set ((Int.toNat b60)) x67))))
def F175_111 (F : Nat) (t0 : List Int) (t1 : Int) (t2 : Int) (t3 : Int) : Option (Int × (List Int)) :=
  (at? t0 t3).bind fun x1 =>
  (at? t0 t1).bind fun x3 =>
  (ck t0 t1).bind fun u5 =>
  (ck ((t0.set ((Int.toNat t1)) x1)) t3).bind fun u9 =>
  (iter (F175_111_l2 F t1) F ((wrapA .i64 (t1 + 1)), (wrapA .i64 (t2 - 1)), (((t0.set ((Int.toNat t1)) x1)).set ((Int.toNat t3)) x3))).bind fun b77 =>
  some ((b77.1, b77.2))

def F176_111_l0 (F : Nat) (t0 : List Int) (t1 : Int) (t2 : Int) (t3 : Int) (x1 : Int) (x3 : Int) (s13 : Int) : Option (Stp (Int) (Int)) :=
  (if (decide (s13 ≤ (wrapA .i64 (t2 - 1)))) then 
  ((at? ((((t0.set ((Int.toNat t1)) x1)).set ((Int.toNat t3)) x3)) s13).bind fun x18 =>
  (at? ((((t0.set ((Int.toNat t1)) x1)).set ((Int.toNat t3)) x3)) t1).bind fun x20 =>
  (F111 F x18 x20).bind fun r22 =>
  some (decide (r22 < 0)))
   else some false).bind fun y27 =>
  if y27 then
  (some (.more ((wrapA .i64 (s13 + 1)))))
  else
  some (.stop s13)
def F176_111_l1 (F : Nat) (t0 : List Int) (t1 : Int) (t3 : Int) (x1 : Int) (x3 : Int) (b32 : Int) (s36 : Int) : Option (Stp (Int) (Int)) :=
  (if (decide (b32 ≤ s36)) then 
  ((at? ((((t0.set ((Int.toNat t1)) x1)).set ((Int.toNat t3)) x3)) s36).bind fun x41 =>
  (at? ((((t0.set ((Int.toNat t1)) x1)).set ((Int.toNat t3)) x3)) t1).bind fun x43 =>
  (F111 F x41 x43).bind fun r45 =>
  some (!(decide (r45 < 0))))
   else some false).bind fun y50 =>
  if y50 then
  (some (.more ((wrapA .i64 (s36 - 1)))))
  else
  some (.stop s36)
def F176_111_l2 (F : Nat) (t1 : Int) (s84 : Int × Int × (List Int)) (s89 : Int) : Option (Stp (Int) (Int)) :=
  (if (decide (s89 ≤ s84.2.1)) then 
  ((at? s84.2.2 s89).bind fun x94 =>
  (at? s84.2.2 t1).bind fun x96 =>
  (F111 F x94 x96).bind fun r98 =>
  some (decide (r98 < 0)))
   else some false).bind fun y103 =>
  if y103 then
  (some (.more ((wrapA .i64 (s89 + 1)))))
  else
  some (.stop s89)
def F176_111_l3 (F : Nat) (t1 : Int) (s84 : Int × Int × (List Int)) (b108 : Int) (s112 : Int) : Option (Stp (Int) (Int)) :=
  (if (decide (b108 ≤ s112)) then 
  ((at? s84.2.2 s112).bind fun x117 =>
  (at? s84.2.2 t1).bind fun x119 =>
  (F111 F x117 x119).bind fun r121 =>
  some (!(decide (r121 < 0))))
   else some false).bind fun y126 =>
  if y126 then
  (some (.more ((wrapA .i64 (s112 - 1)))))
  else
  some (.stop s112)
def F176_111_l4 (F : Nat) (t1 : Int) (s84 : Int × Int × (List Int)) : Option (Stp (Int × Int × (List Int)) (Int × (List Int))) :=
  (iter (F176_111_l2 F t1 s84) F s84.1).bind fun b108 =>
  (iter (F176_111_l3 F t1 s84 b108) F s84.2.1).bind fun b131 =>
  if (decide (b108 > b131)) then
  (some (.stop ((b131, s84.2.2))))
  else
  (at? s84.2.2 b131).bind fun x136 =>
  (at? s84.2.2 b108).bind fun x138 =>
  (ck s84.2.2 b108).bind fun u140 =>
  (ck ((s84.2.2.set ((Int.toNat b108)) x136)) b131).bind fun u144 =>
  some (.more (((wrapA .i64 (b108 + 1)), (wrapA .i64 (b131 - 1)), (((s84.2.2.set ((Int.toNat b108)) x136)).set ((Int.toNat b131)) x138))))
def F176_111 (F : Nat) (t0 : List Int) (t1 : Int) (t2 : Int) (t3 : Int) : Option (Int × Bool × (List Int)) :=
  (at? t0 t3).bind fun x1 =>
  (at? t0 t1).bind fun x3 =>
  (ck t0 t1).bind fun u5 =>
  (ck ((t0.set ((Int.toNat t1)) x1)) t3).bind fun u9 =>
  (iter (F176_111_l0 F t0 t1 t2 t3 x1 x3) F (wrapA .i64 (t1 + 1))).bind fun b32 =>
  (iter (F176_111_l1 F t0 t1 t3 x1 x3 b32) F (wrapA .i64 (t2 - 1))).bind fun b55 =>
  if (decide (b32 > b55)) then
  ((at? ((((t0.set ((Int.toNat t1)) x1)).set ((Int.toNat t3)) x3)) t1).bind fun x60 =>
  (at? ((((t0.set ((Int.toNat t1)) x1)).set ((Int.toNat t3)) x3)) b55).bind fun x62 =>
  (ck ((((t0.set ((Int.toNat t1)) x1)).set ((Int.toNat t3)) x3)) b55).bind fun u64 =>
  (ck ((((((t0.set ((Int.toNat t1)) x1)).set ((Int.toNat t3)) x3)).set ((Int.toNat b55)) x60)) t1).bind fun u68 =>
  some ((b55, true, (((((((t0.set ((Int.toNat t1)) x1)).set ((Int.toNat t3)) x3)).set ((Int.toNat b55)) x60)).set ((Int.toNat t1)) x62))))
  else
  (at? ((((t0.set ((Int.toNat t1)) x1)).set ((Int.toNat t3)) x3)) b55).bind fun x72 =>
  (at? ((((t0.set ((Int.toNat t1)) x1)).set ((Int.toNat t3)) x3)) b32).bind fun x74 =>
  (ck ((((t0.set ((Int.toNat t1)) x1)).set ((Int.toNat t3)) x3)) b32).bind fun u76 =>
  (ck ((((((t0.set ((Int.toNat t1)) x1)).set ((Int.toNat t3)) x3)).set ((Int.toNat b32)) x72)) b55).bind fun u80 =>
  (iter (F176_111_l4 F t1) F ((wrapA .i64 (b32 + 1)), (wrapA .i64 (b55 - 1)), (((((((t0.set ((Int.toNat t1)) x1)).set ((Int.toNat t3)) x3)).set ((Int.toNat b32)) x72)).set ((Int.toNat b55)) x74))).bind fun b148 =>
  (at? b148.2 t1).bind fun x152 =>
  (at? b148.2 b148.1).bind fun x154 =>
  (ck b148.2 b148.1).bind fun u156 =>
  (ck ((b148.2.set ((Int.toNat b148.1)) x152)) t1).bind fun u160 =>
  some ((b148.1, false, (((b148.2.set ((Int.toNat b148.1)) x152)).set ((Int.toNat t1)) x154)))

def F154_111_l0 (F : Nat) (frec : (List Int) → Int → Int → Int → Option ((List Int))) (s1 : Int × Int × Int × Bool × Bool × (List Int)) : Option (Stp (Int × Int × Int × Bool × Bool × (List Int)) ((List Int))) :=
  if (decide ((wrapA .i64 (s1.2.1 - s1.1)) ≤ 12)) then
  ((F169_111 F s1.2.2.2.2.2 s1.1 s1.2.1).bind fun r7 =>
  some (.stop r7))
  else
  if (s1.2.2.1 == 0) then
  ((F170_111 F s1.2.2.2.2.2 s1.1 s1.2.1).bind fun r12 =>
  some (.stop r12))
  else
  (show Option (Int × (List Int)) from (if (!s1.2.2.2.1) then
  ((F171_111 F s1.2.2.2.2.2 s1.1 s1.2.1).bind fun r17 =>
  some (((wrapA .i64 (s1.2.2.1 - 1)), r17)))
  else
  some ((s1.2.2.1, s1.2.2.2.2.2)))).bind fun b21 =>
  (F172_111 F b21.2 s1.1 s1.2.1).bind fun r26 =>
  (show Option (Int × Int × (List Int)) from (if (r26.2 == 2) then
  ((F173_111 F b21.2 s1.1 s1.2.1).bind fun r31 =>
  some (((wrapA .i64 ((wrapA .i64 (s1.2.1 - 1)) - (wrapA .i64 (r26.1 - s1.1)))), 1, r31)))
  else
  some ((r26.1, r26.2, b21.2)))).bind fun b35 =>
  (show Option ((List Int) ⊕ (List Int)) from (if ((s1.2.2.2.1 && s1.2.2.2.2.1) && (b35.2.1 == 1)) then
  ((F174_111 F b35.2.2 s1.1 s1.2.1).bind fun r43 =>
  if r43.1 then
  (some ((.inr r43.2)))
  else
  some ((.inl r43.2)))
  else
  some ((.inl b35.2.2)))).bind fun b48 =>
  match b48 with
  | .inl b53 => ((if (decide (s1.1 > 0)) then 
  ((at? b53 (wrapA .i64 (s1.1 - 1))).bind fun x56 =>
  (at? b53 b35.1).bind fun x58 =>
  (F111 F x56 x58).bind fun r60 =>
  some (!(decide (r60 < 0))))
   else some false).bind fun y65 =>
  if y65 then
  ((F175_111 F b53 s1.1 s1.2.1 b35.1).bind fun r70 =>
  some (.more ((r70.1, s1.2.1, b21.1, s1.2.2.2.1, s1.2.2.2.2.1, r70.2))))
  else
  (F176_111 F b53 s1.1 s1.2.1 b35.1).bind fun r74 =>
  if (decide ((wrapA .i64 (r74.1 - s1.1)) < (wrapA .i64 (s1.2.1 - r74.1)))) then
  ((frec r74.2.2 s1.1 r74.1 b21.1).bind fun r79 =>
  some (.more (((wrapA .i64 (r74.1 + 1)), s1.2.1, b21.1, (decide ((wrapA .i64 (r74.1 - s1.1)) ≥ (wrapA .i64 (Int.tdiv (wrapA .i64 (s1.2.1 - s1.1)) 8)))), r74.2.1, r79))))
  else
  (frec r74.2.2 ((wrapA .i64 (r74.1 + 1))) s1.2.1 b21.1).bind fun r83 =>
  some (.more ((s1.1, r74.1, b21.1, (decide ((wrapA .i64 (s1.2.1 - r74.1)) ≥ (wrapA .i64 (Int.tdiv (wrapA .i64 (s1.2.1 - s1.1)) 8)))), r74.2.1, r83))))
  | .inr b53 => (some (.stop b53))
def F154_111 : Nat → (List Int) → Int → Int → Int → Option ((List Int))
  | 0, _, _, _, _ => none
  | F + 1, t0, t1, t2, t3 =>
  let frec := F154_111 F
  (iter (F154_111_l0 F frec) F (t1, t2, t3, true, true, t0)).bind fun b89 =>
  some b89

def F110_111 (F : Nat) (t0 : List Int) : Option ((List Int)) :=
  (F155 F ((wrapA .u64 (t0.length : Int)))).bind fun r1 =>
  (F154_111 F t0 0 ((t0.length : Int)) r1).bind fun r5 =>
  some r5

def F38_l0 (F : Nat)  (s27 : Int × Int) : Option (Stp (Int × Int) (Int × Int)) :=
  if ((Int.tmod s27.1 2) == 0) then
  (some (.more (((wrapA .i64 (Int.tdiv s27.1 2)), (wrapA .i64 (2 * s27.2))))))
  else
  some (.stop ((s27.1, s27.2)))
def F38_l1 (F : Nat) (b33 : Int × Int) (s37 : (List Int) × Int) : Option (Stp ((List Int) × Int) ((List Int))) :=
  if (decide (s37.2 < b33.2)) then
  ((app? s37.1 ([b33.1])).bind fun L51 =>
  some (.more ((L51, (wrapA .i64 (s37.2 + 1))))))
  else
  some (.stop s37.1)
def F38_l2 (F : Nat) (t0 : List Int) (s6 : (List Int) × Int) : Option (Stp ((List Int) × Int) ((List Int) ⊕ ((List Int) × Int))) :=
  if (decide (s6.2 < (t0.length : Int))) then
  ((at? t0 s6.2).bind fun x19 =>
  (if (decide (s6.2 > 0)) then 
  ((at? t0 (wrapA .i64 (s6.2 - 1))).bind fun x21 =>
  some (x19 == x21))
   else some false).bind fun y24 =>
  if y24 then
  (some (.stop ((.inr ([], 3)))))
  else
  (iter (F38_l0 F) F (x19, 1)).bind fun b33 =>
  (iter (F38_l1 F b33) F (s6.1, 0)).bind fun b57 =>
  some (.more ((b57, (wrapA .i64 (s6.2 + 1))))))
  else
  some (.stop ((.inl s6.1)))
def F38 (F : Nat) (t0 : List Int) : Option ((List Int) × Int) :=
  (F42 F t0).bind fun r1 =>
  if (r1 != 0) then
  (some (([], r1)))
  else
  (iter (F38_l2 F t0) F ([], 0)).bind fun b62 =>
  match b62 with
  | .inl b64 => ((F110_111 F b64).bind fun r68 =>
  some ((r68, 0)))
  | .inr b64 => (some ((b64.1, b64.2)))

def F112 (F : Nat) (t0 : Int) (t1 : Int) : Option Int :=
  some ((wrapA .i64 (t1 - t0)))

def F39_l0 (F : Nat) (t0 : List Int) (s10 : Int × (List Int)) : Option (Stp (Int × (List Int)) ((List Int) ⊕ ((List Int) × Int))) :=
  if (decide (s10.1 < (t0.length : Int))) then
  ((at? t0 s10.1).bind fun x19 =>
  if ((Int.tmod x19 2) == 0) then
  (some (.stop ((.inr ([], 3)))))
  else
  (at? s10.2 x19).bind fun x22 =>
  (ck s10.2 x19).bind fun u24 =>
  some (.more (((wrapA .i64 (s10.1 + 1)), (s10.2.set ((Int.toNat x19)) (wrapA .i64 (x22 + 1)))))))
  else
  some (.stop ((.inl s10.2)))
def F39_l1 (F : Nat) (s34 : (List Int) × Int) (s46 : (List Int) × Int × Int) : Option (Stp ((List Int) × Int × Int) ((List Int))) :=
  if (decide (s46.2.1 > 0)) then
  (if ((Int.tmod s46.2.1 2) == 1) then
  ((app? s46.1 ([(wrapA .i64 (s34.2 * s46.2.2))])).bind fun L61 =>
  some (.more ((L61, (wrapA .i64 (Int.tdiv s46.2.1 2)), (wrapA .i64 (2 * s46.2.2))))))
  else
  some (.more ((s46.1, (wrapA .i64 (Int.tdiv s46.2.1 2)), (wrapA .i64 (2 * s46.2.2))))))
  else
  some (.stop s46.1)
def F39_l2 (F : Nat) (b30 : (List Int)) (s34 : (List Int) × Int) : Option (Stp ((List Int) × Int) ((List Int))) :=
  if (decide (s34.2 < 41)) then
  ((at? b30 s34.2).bind fun x44 =>
  (iter (F39_l1 F s34) F (s34.1, x44, 1)).bind fun b67 =>
  some (.more ((b67, (wrapA .i64 (s34.2 + 1))))))
  else
  some (.stop s34.1)
def F39 (F : Nat) (t0 : List Int) : Option ((List Int) × Int) :=
  (F42 F t0).bind fun r1 =>
  if (r1 != 0) then
  (some (([], r1)))
  else
  (iter (F39_l0 F t0) F (0, (List.replicate 41 0))).bind fun b28 =>
  match b28 with
  | .inl b30 => ((iter (F39_l2 F b30) F ([], 0)).bind fun b72 =>
  (F110_111 F b72).bind fun r77 =>
  some ((r77, 0)))
  | .inr b30 => (some ((b30.1, b30.2)))

def F40 (F : Nat) (t0 : Int) (t1 : Int) : Option Int := if (decide (-1000 ≤ t0) && decide (t0 ≤ 1000) && decide (0 ≤ t1) && decide (t1 ≤ 1000)) then some (cntI t0 t1.toNat) else none

def F41_l0 (F : Nat) (t0 : List Int) (s1 : Int × Int) : Option (Stp (Int × Int) (Unit ⊕ Int)) :=
  if (decide (s1.2 < (t0.length : Int))) then
  ((at? t0 s1.2).bind fun x9 =>
  if ((decide (x9 < 1)) || (decide (x9 > 40))) then
  (some (.stop ((.inr 1))))
  else
  (if (decide (s1.2 > 0)) then 
  ((at? t0 (wrapA .i64 (s1.2 - 1))).bind fun x13 =>
  some (decide (x13 < x9)))
   else some false).bind fun y16 =>
  if y16 then
  (some (.stop ((.inr 3))))
  else
  if (decide ((wrapA .i64 (s1.1 + x9)) > 40)) then
  (some (.stop ((.inr 2))))
  else
  some (.more (((wrapA .i64 (s1.1 + x9)), (wrapA .i64 (s1.2 + 1))))))
  else
  some (.stop ((.inl ())))
def F41 (F : Nat) (t0 : List Int) : Option Int :=
  (iter (F41_l0 F t0) F (0, 0)).bind fun b20 =>
  match b20 with
  | .inl b22 => (some 0)
  | .inr b22 => (some b22)

def F43_l0 (F : Nat) (t0 : List Int) (s1 : (List Int) × Int) (s10 : Int × Int) : Option (Stp (Int × Int) (Int)) :=
  if (decide (s10.2 < (t0.length : Int))) then
  ((at? t0 s10.2).bind fun x16 =>
  if (decide (x16 ≥ s1.2)) then
  (some (.more (((wrapA .i64 (s10.1 + 1)), (wrapA .i64 (s10.2 + 1))))))
  else
  some (.more ((s10.1, (wrapA .i64 (s10.2 + 1))))))
  else
  some (.stop s10.1)
def F43_l1 (F : Nat) (t0 : List Int) (s1 : (List Int) × Int) : Option (Stp ((List Int) × Int) ((List Int))) :=
  (iter (F43_l0 F t0 s1) F (0, 0)).bind fun b19 =>
  if (b19 == 0) then
  (some (.stop s1.1))
  else
  (app? s1.1 ([b19])).bind fun L28 =>
  some (.more ((L28, (wrapA .i64 (s1.2 + 1)))))
def F43 (F : Nat) (t0 : List Int) : Option ((List Int)) :=
  (iter (F43_l1 F t0) F ([], 1)).bind fun b34 =>
  some b34

def F44 (F : Nat) (t0 : (List Int)) : Option ((List Int)) := if t0.length ≤ 1152921504606846976 then compF? (fun x p => some (x == p)) t0 else none

def F179_l0 (F : Nat) (t1 : Int) (s7 : Int × (List Int)) : Option (Stp (Int × (List Int)) ((List Int))) :=
  (if (decide (s7.1 > t1)) then 
  ((at? s7.2 s7.1).bind fun x12 =>
  (at? s7.2 (wrapA .i64 (s7.1 - 1))).bind fun x14 =>
  (F151 F x12 x14).bind fun r16 =>
  some r16)
   else some false).bind fun y21 =>
  if y21 then
  ((at? s7.2 (wrapA .i64 (s7.1 - 1))).bind fun x26 =>
  (at? s7.2 s7.1).bind fun x28 =>
  (ck s7.2 s7.1).bind fun u30 =>
  (ck ((s7.2.set ((Int.toNat s7.1)) x26)) (wrapA .i64 (s7.1 - 1))).bind fun u34 =>
  some (.more (((wrapA .i64 (s7.1 - 1)), (((s7.2.set ((Int.toNat s7.1)) x26)).set ((Int.toNat (wrapA .i64 (s7.1 - 1)))) x28)))))
  else
  some (.stop s7.2)
def F179_l1 (F : Nat) (t1 : Int) (t2 : Int) (s1 : Int × (List Int)) : Option (Stp (Int × (List Int)) ((List Int))) :=
  if (decide (s1.1 < t2)) then
  ((iter (F179_l0 F t1) F (s1.1, s1.2)).bind fun b38 =>
  some (.more (((wrapA .i64 (s1.1 + 1)), b38))))
  else
  some (.stop s1.2)
def F179 (F : Nat) (t0 : List Int) (t1 : Int) (t2 : Int) : Option ((List Int)) :=
  (iter (F179_l1 F t1 t2) F ((wrapA .i64 (t1 + 1)), t0)).bind fun b42 =>
  some b42

def F202_l0 (F : Nat) (t2 : Int) (t3 : Int) (s1 : Int × (List Int)) : Option (Stp (Int × (List Int)) ((List Int) ⊕ (List Int))) :=
  if (decide ((wrapA .i64 ((wrapA .i64 (2 * s1.1)) + 1)) ≥ t2)) then
  (some (.stop ((.inl s1.2))))
  else
  (if (decide ((wrapA .i64 ((wrapA .i64 ((wrapA .i64 (2 * s1.1)) + 1)) + 1)) < t2)) then 
  ((at? s1.2 (wrapA .i64 (t3 + (wrapA .i64 ((wrapA .i64 (2 * s1.1)) + 1))))).bind fun x9 =>
  (at? s1.2 (wrapA .i64 ((wrapA .i64 (t3 + (wrapA .i64 ((wrapA .i64 (2 * s1.1)) + 1)))) + 1))).bind fun x11 =>
  (F151 F x9 x11).bind fun r13 =>
  some r13)
   else some false).bind fun y18 =>
  (show Option (Int) from (if y18 then
  (some ((wrapA .i64 ((wrapA .i64 ((wrapA .i64 (2 * s1.1)) + 1)) + 1))))
  else
  some ((wrapA .i64 ((wrapA .i64 (2 * s1.1)) + 1))))).bind fun b23 =>
  (at? s1.2 (wrapA .i64 (t3 + s1.1))).bind fun x28 =>
  (at? s1.2 (wrapA .i64 (t3 + b23))).bind fun x30 =>
  (F151 F x28 x30).bind fun r32 =>
  if (!r32) then
  (some (.stop ((.inr s1.2))))
  else
  (at? s1.2 (wrapA .i64 (t3 + b23))).bind fun x37 =>
  (at? s1.2 (wrapA .i64 (t3 + s1.1))).bind fun x39 =>
  (ck s1.2 (wrapA .i64 (t3 + s1.1))).bind fun u41 =>
  (ck ((s1.2.set ((Int.toNat (wrapA .i64 (t3 + s1.1)))) x37)) (wrapA .i64 (t3 + b23))).bind fun u45 =>
  some (.more ((b23, (((s1.2.set ((Int.toNat (wrapA .i64 (t3 + s1.1)))) x37)).set ((Int.toNat (wrapA .i64 (t3 + b23)))) x39))))
def F202 (F : Nat) (t0 : List Int) (t1 : Int) (t2 : Int) (t3 : Int) : Option ((List Int)) :=
  (iter (F202_l0 F t2 t3) F (t1, t0)).bind fun b49 =>
  match b49 with
  | .inl b51 => (some b51)
  | .inr b51 => (some b51)

def F180_l0 (F : Nat) (t1 : Int) (t2 : Int) (s1 : Int × (List Int)) : Option (Stp (Int × (List Int)) ((List Int))) :=
  if (decide (s1.1 ≥ 0)) then
  ((F202 F s1.2 s1.1 ((wrapA .i64 (t2 - t1))) t1).bind fun r7 =>
  some (.more (((wrapA .i64 (s1.1 - 1)), r7))))
  else
  some (.stop s1.2)
def F180_l1 (F : Nat) (t1 : Int) (s15 : Int × (List Int)) : Option (Stp (Int × (List Int)) ((List Int))) :=
  if (decide (s15.1 ≥ 0)) then
  ((at? s15.2 (wrapA .i64 (t1 + s15.1))).bind fun x21 =>
  (at? s15.2 t1).bind fun x23 =>
  (ck s15.2 t1).bind fun u25 =>
  (ck ((s15.2.set ((Int.toNat t1)) x21)) (wrapA .i64 (t1 + s15.1))).bind fun u29 =>
  (F202 F ((((s15.2.set ((Int.toNat t1)) x21)).set ((Int.toNat (wrapA .i64 (t1 + s15.1)))) x23)) 0 s15.1 t1).bind fun r33 =>
  some (.more (((wrapA .i64 (s15.1 - 1)), r33))))
  else
  some (.stop s15.2)
def F180 (F : Nat) (t0 : List Int) (t1 : Int) (t2 : Int) : Option ((List Int)) :=
  (iter (F180_l0 F t1 t2) F ((wrapA .i64 (Int.tdiv (wrapA .i64 ((wrapA .i64 (t2 - t1)) - 1)) 2)), t0)).bind fun b11 =>
  (iter (F180_l1 F t1) F ((wrapA .i64 ((wrapA .i64 (t2 - t1)) - 1)), b11)).bind fun b37 =>
  some b37

def F181_l0 (F : Nat) (t1 : Int) (t2 : Int) (r8 : Int) (s12 : Int × (List Int) × Int) : Option (Stp (Int × (List Int) × Int) ((List Int))) :=
  if (decide (s12.1 ≤ (wrapA .i64 ((wrapA .i64 (t1 + (wrapA .i64 ((wrapA .i64 (Int.tdiv (wrapA .i64 (t2 - t1)) 4)) * 2)))) + 1)))) then
  ((F199 F s12.2.2).bind fun r19 =>
  (show Option (Int) from (if (decide ((wrapA .i64 (bit .and .u64 r19.1 (wrapA .u64 (r8 - 1)))) ≥ (wrapA .i64 (t2 - t1)))) then
  (some ((wrapA .i64 ((wrapA .i64 (bit .and .u64 r19.1 (wrapA .u64 (r8 - 1)))) - (wrapA .i64 (t2 - t1))))))
  else
  some ((wrapA .i64 (bit .and .u64 r19.1 (wrapA .u64 (r8 - 1))))))).bind fun b25 =>
  (at? s12.2.1 (wrapA .i64 (t1 + b25))).bind fun x30 =>
  (at? s12.2.1 s12.1).bind fun x32 =>
  (ck s12.2.1 s12.1).bind fun u34 =>
  (ck ((s12.2.1.set ((Int.toNat s12.1)) x30)) (wrapA .i64 (t1 + b25))).bind fun u38 =>
  some (.more (((wrapA .i64 (s12.1 + 1)), (((s12.2.1.set ((Int.toNat s12.1)) x30)).set ((Int.toNat (wrapA .i64 (t1 + b25)))) x32), r19.2))))
  else
  some (.stop s12.2.1)
def F181 (F : Nat) (t0 : List Int) (t1 : Int) (t2 : Int) : Option ((List Int)) :=
  if (decide ((wrapA .i64 (t2 - t1)) ≥ 8)) then
  ((F198 F ((wrapA .i64 (t2 - t1)))).bind fun r8 =>
  (iter (F181_l0 F t1 t2 r8) F ((wrapA .i64 ((wrapA .i64 (t1 + (wrapA .i64 ((wrapA .i64 (Int.tdiv (wrapA .i64 (t2 - t1)) 4)) * 2)))) - 1)), t0, (wrapA .u64 (wrapA .i64 (t2 - t1))))).bind fun b42 =>
  some b42)
  else
  some t0

def F217 (F : Nat) (t0 : List Int) (t1 : Int) (t2 : Int) (t3 : Int) : Option (Int × Int × Int) :=
  (at? t0 t2).bind fun x1 =>
  (at? t0 t1).bind fun x3 =>
  (F151 F x1 x3).bind fun r5 =>
  if r5 then
  (some ((t2, t1, (wrapA .i64 (t3 + 1)))))
  else
  some ((t1, t2, t3))

def F204 (F : Nat) (t0 : List Int) (t1 : Int) (t2 : Int) (t3 : Int) (t4 : Int) : Option (Int × Int) :=
  (F217 F t0 t1 t2 t4).bind fun r1 =>
  (F217 F t0 r1.2.1 t3 r1.2.2).bind fun r6 =>
  (F217 F t0 r1.1 r6.1 r6.2.2).bind fun r11 =>
  some ((r11.2.1, r11.2.2))

def F203 (F : Nat) (t0 : List Int) (t1 : Int) (t2 : Int) : Option (Int × Int) :=
  (F204 F t0 ((wrapA .i64 (t1 - 1))) t1 ((wrapA .i64 (t1 + 1))) t2).bind fun r1 =>
  some ((r1.1, r1.2))

def F182 (F : Nat) (t0 : List Int) (t1 : Int) (t2 : Int) : Option (Int × Int) :=
  (show Option (Int × Int) from (if (decide ((wrapA .i64 (t2 - t1)) ≥ 8)) then
  (if (decide ((wrapA .i64 (t2 - t1)) ≥ 50)) then
  ((F203 F t0 ((wrapA .i64 (t1 + (wrapA .i64 ((wrapA .i64 (Int.tdiv (wrapA .i64 (t2 - t1)) 4)) * 1))))) 0).bind fun r8 =>
  (F203 F t0 ((wrapA .i64 (t1 + (wrapA .i64 ((wrapA .i64 (Int.tdiv (wrapA .i64 (t2 - t1)) 4)) * 2))))) r8.2).bind fun r13 =>
  (F203 F t0 ((wrapA .i64 (t1 + (wrapA .i64 ((wrapA .i64 (Int.tdiv (wrapA .i64 (t2 - t1)) 4)) * 3))))) r13.2).bind fun r18 =>
  (F204 F t0 r8.1 r13.1 r18.1 r18.2).bind fun r23 =>
  some ((r23.1, r23.2)))
  else
  (F204 F t0 ((wrapA .i64 (t1 + (wrapA .i64 ((wrapA .i64 (Int.tdiv (wrapA .i64 (t2 - t1)) 4)) * 1))))) ((wrapA .i64 (t1 + (wrapA .i64 ((wrapA .i64 (Int.tdiv (wrapA .i64 (t2 - t1)) 4)) * 2))))) ((wrapA .i64 (t1 + (wrapA .i64 ((wrapA .i64 (Int.tdiv (wrapA .i64 (t2 - t1)) 4)) * 3))))) 0).bind fun r29 =>
  some ((r29.1, r29.2)))
  else
  some (((wrapA .i64 (t1 + (wrapA .i64 ((wrapA .i64 (Int.tdiv (wrapA .i64 (t2 - t1)) 4)) * 2)))), 0)))).bind fun b34 =>
  if (b34.2 == 0) then
  (some ((b34.1, 1)))
  else
  if (b34.2 == 12) then
  (some ((b34.1, 2)))
  else
  some ((b34.1, 0))

def F183_l0 (F : Nat)  (s1 : Int × Int × (List Int)) : Option (Stp (Int × Int × (List Int)) ((List Int))) :=
  if (decide (s1.1 < s1.2.1)) then
  ((at? s1.2.2 s1.2.1).bind fun x7 =>
  (at? s1.2.2 s1.1).bind fun x9 =>
  (ck s1.2.2 s1.1).bind fun u11 =>
  (ck ((s1.2.2.set ((Int.toNat s1.1)) x7)) s1.2.1).bind fun u15 =>
  some (.more (((wrapA .i64 (s1.1 + 1)), (wrapA .i64 (s1.2.1 - 1)), (((s1.2.2.set ((Int.toNat s1.1)) x7)).set ((Int.toNat s1.2.1)) x9)))))
  else
  some (.stop s1.2.2)
def F183 (F : Nat) (t0 : List Int) (t1 : Int) (t2 : Int) : Option ((List Int)) :=
  (iter (F183_l0 F) F (t1, (wrapA .i64 (t2 - 1)), t0)).bind fun b19 =>
  some b19

def F184_l0 (F : Nat) (t2 : Int) (s1 : Int × Int × (List Int)) (s9 : Int) : Option (Stp (Int) (Int)) :=
  (if (decide (s9 < t2)) then 
  ((at? s1.2.2 s9).bind fun x14 =>
  (at? s1.2.2 (wrapA .i64 (s9 - 1))).bind fun x16 =>
  (F151 F x14 x16).bind fun r18 =>
  some (!r18))
   else some false).bind fun y23 =>
  if y23 then
  (some (.more ((wrapA .i64 (s9 + 1)))))
  else
  some (.stop s9)
def F184_l1 (F : Nat)  (s47 : Int × (List Int)) : Option (Stp (Int × (List Int)) ((List Int))) :=
  if (decide (s47.1 ≥ 1)) then
  ((at? s47.2 s47.1).bind fun x53 =>
  (at? s47.2 (wrapA .i64 (s47.1 - 1))).bind fun x55 =>
  (F151 F x53 x55).bind fun r57 =>
  if (!r57) then
  (some (.stop s47.2))
  else
  (at? s47.2 (wrapA .i64 (s47.1 - 1))).bind fun x62 =>
  (at? s47.2 s47.1).bind fun x64 =>
  (ck s47.2 s47.1).bind fun u66 =>
  (ck ((s47.2.set ((Int.toNat s47.1)) x62)) (wrapA .i64 (s47.1 - 1))).bind fun u70 =>
  some (.more (((wrapA .i64 (s47.1 - 1)), (((s47.2.set ((Int.toNat s47.1)) x62)).set ((Int.toNat (wrapA .i64 (s47.1 - 1)))) x64)))))
  else
  some (.stop s47.2)
def F184_l2 (F : Nat) (t2 : Int) (s84 : Int × (List Int)) : Option (Stp (Int × (List Int)) ((List Int))) :=
  if (decide (s84.1 < t2)) then
  ((at? s84.2 s84.1).bind fun x90 =>
  (at? s84.2 (wrapA .i64 (s84.1 - 1))).bind fun x92 =>
  (F151 F x90 x92).bind fun r94 =>
  if (!r94) then
  (some (.stop s84.2))
  else
  (at? s84.2 (wrapA .i64 (s84.1 - 1))).bind fun x99 =>
  (at? s84.2 s84.1).bind fun x101 =>
  (ck s84.2 s84.1).bind fun u103 =>
  (ck ((s84.2.set ((Int.toNat s84.1)) x99)) (wrapA .i64 (s84.1 - 1))).bind fun u107 =>
  some (.more (((wrapA .i64 (s84.1 + 1)), (((s84.2.set ((Int.toNat s84.1)) x99)).set ((Int.toNat (wrapA .i64 (s84.1 - 1)))) x101)))))
  else
  some (.stop s84.2)
def F184_l3 (F : Nat) (t1 : Int) (t2 : Int) (s1 : Int × Int × (List Int)) : Option (Stp (Int × Int × (List Int)) ((List Int) ⊕ (Bool × (List Int)))) :=
  if (decide (s1.2.1 < 5)) then
  ((iter (F184_l0 F t2 s1) F s1.1).bind fun b28 =>
  if (b28 == t2) then
  (some (.stop ((.inr (true, s1.2.2)))))
  else
  if (decide ((wrapA .i64 (t2 - t1)) < 50)) then
  (some (.stop ((.inr (false, s1.2.2)))))
  else
  (at? s1.2.2 (wrapA .i64 (b28 - 1))).bind fun x34 =>
  (at? s1.2.2 b28).bind fun x36 =>
  (ck s1.2.2 b28).bind fun u38 =>
  (ck ((s1.2.2.set ((Int.toNat b28)) x34)) (wrapA .i64 (b28 - 1))).bind fun u42 =>
  (show Option ((List Int)) from (if (decide ((wrapA .i64 (b28 - t1)) ≥ 2)) then
  ((iter (F184_l1 F) F ((wrapA .i64 (b28 - 1)), (((s1.2.2.set ((Int.toNat b28)) x34)).set ((Int.toNat (wrapA .i64 (b28 - 1)))) x36))).bind fun b74 =>
  some b74)
  else
  some ((((s1.2.2.set ((Int.toNat b28)) x34)).set ((Int.toNat (wrapA .i64 (b28 - 1)))) x36)))).bind fun b78 =>
  if (decide ((wrapA .i64 (t2 - b28)) ≥ 2)) then
  ((iter (F184_l2 F t2) F ((wrapA .i64 (b28 + 1)), b78)).bind fun b111 =>
  some (.more ((b28, (wrapA .i64 (s1.2.1 + 1)), b111))))
  else
  some (.more ((b28, (wrapA .i64 (s1.2.1 + 1)), b78))))
  else
  some (.stop ((.inl s1.2.2)))
def F184 (F : Nat) (t0 : List Int) (t1 : Int) (t2 : Int) : Option (Bool × (List Int)) :=
  (iter (F184_l3 F t1 t2) F ((wrapA .i64 (t1 + 1)), 0, t0)).bind fun b115 =>
  match b115 with
  | .inl b117 => (some ((false, b117)))
  | .inr b117 => (some ((b117.1, b117.2)))

def F185_l0 (F : Nat) (t1 : Int) (s13 : Int × Int × (List Int)) (s18 : Int) : Option (Stp (Int) (Int)) :=
  (if (decide (s18 ≤ s13.2.1)) then 
  ((at? s13.2.2 t1).bind fun x23 =>
  (at? s13.2.2 s18).bind fun x25 =>
  (F151 F x23 x25).bind fun r27 =>
  some (!r27))
   else some false).bind fun y32 =>
  if y32 then
  (some (.more ((wrapA .i64 (s18 + 1)))))
  else
  some (.stop s18)
def F185_l1 (F : Nat) (t1 : Int) (s13 : Int × Int × (List Int)) (b37 : Int) (s41 : Int) : Option (Stp (Int) (Int)) :=
  (if (decide (b37 ≤ s41)) then 
  ((at? s13.2.2 t1).bind fun x46 =>
  (at? s13.2.2 s41).bind fun x48 =>
  (F151 F x46 x48).bind fun r50 =>
  some r50)
   else some false).bind fun y55 =>
  if y55 then
  (some (.more ((wrapA .i64 (s41 - 1)))))
  else
  some (.stop s41)
def F185_l2 (F : Nat) (t1 : Int) (s13 : Int × Int × (List Int)) : Option (Stp (Int × Int × (List Int)) (Int × (List Int))) :=
  (iter (F185_l0 F t1 s13) F s13.1).bind fun b37 =>
  (iter (F185_l1 F t1 s13 b37) F s13.2.1).bind fun b60 =>
  if (decide (b37 > b60)) then
  (some (.stop ((b37, s13.2.2))))
  else
  (at? s13.2.2 b60).bind fun x65 =>
  (at? s13.2.2 b37).bind fun x67 =>
  (ck s13.2.2 b37).bind fun u69 =>
  (ck ((s13.2.2.set ((Int.toNat b37)) x65)) b60).bind fun u73 =>
  some (.more (((wrapA .i64 (b37 + 1)), (wrapA .i64 (b60 - 1)), (((s13.2.2.set ((Int.toNat b37)) x65)).set ((Int.toNat b60)) x67))))
def F185 (F : Nat) (t0 : List Int) (t1 : Int) (t2 : Int) (t3 : Int) : Option (Int × (List Int)) :=
  (at? t0 t3).bind fun x1 =>
  (at? t0 t1).bind fun x3 =>
  (ck t0 t1).bind fun u5 =>
  (ck ((t0.set ((Int.toNat t1)) x1)) t3).bind fun u9 =>
  (iter (F185_l2 F t1) F ((wrapA .i64 (t1 + 1)), (wrapA .i64 (t2 - 1)), (((t0.set ((Int.toNat t1)) x1)).set ((Int.toNat t3)) x3))).bind fun b77 =>
  some ((b77.1, b77.2))

def F186_l0 (F : Nat) (t0 : List Int) (t1 : Int) (t2 : Int) (t3 : Int) (x1 : Int) (x3 : Int) (s13 : Int) : Option (Stp (Int) (Int)) :=
  (if (decide (s13 ≤ (wrapA .i64 (t2 - 1)))) then 
  ((at? ((((t0.set ((Int.toNat t1)) x1)).set ((Int.toNat t3)) x3)) s13).bind fun x18 =>
  (at? ((((t0.set ((Int.toNat t1)) x1)).set ((Int.toNat t3)) x3)) t1).bind fun x20 =>
  (F151 F x18 x20).bind fun r22 =>
  some r22)
   else some false).bind fun y27 =>
  if y27 then
  (some (.more ((wrapA .i64 (s13 + 1)))))
  else
  some (.stop s13)
def F186_l1 (F : Nat) (t0 : List Int) (t1 : Int) (t3 : Int) (x1 : Int) (x3 : Int) (b32 : Int) (s36 : Int) : Option (Stp (Int) (Int)) :=
  (if (decide (b32 ≤ s36)) then 
  ((at? ((((t0.set ((Int.toNat t1)) x1)).set ((Int.toNat t3)) x3)) s36).bind fun x41 =>
  (at? ((((t0.set ((Int.toNat t1)) x1)).set ((Int.toNat t3)) x3)) t1).bind fun x43 =>
  (F151 F x41 x43).bind fun r45 =>
  some (!r45))
   else some false).bind fun y50 =>
  if y50 then
  (some (.more ((wrapA .i64 (s36 - 1)))))
  else
  some (.stop s36)
def F186_l2 (F : Nat) (t1 : Int) (s84 : Int × Int × (List Int)) (s89 : Int) : Option (Stp (Int) (Int)) :=
  (if (decide (s89 ≤ s84.2.1)) then 
  ((at? s84.2.2 s89).bind fun x94 =>
  (at? s84.2.2 t1).bind fun x96 =>
  (F151 F x94 x96).bind fun r98 =>
  some r98)
   else some false).bind fun y103 =>
  if y103 then
  (some (.more ((wrapA .i64 (s89 + 1)))))
  else
  some (.stop s89)
def F186_l3 (F : Nat) (t1 : Int) (s84 : Int × Int × (List Int)) (b108 : Int) (s112 : Int) : Option (Stp (Int) (Int)) :=
  (if (decide (b108 ≤ s112)) then 
  ((at? s84.2.2 s112).bind fun x117 =>
  (at? s84.2.2 t1).bind fun x119 =>
  (F151 F x117 x119).bind fun r121 =>
  some (!r121))
   else some false).bind fun y126 =>
  if y126 then
  (some (.more ((wrapA .i64 (s112 - 1)))))
  else
  some (.stop s112)
def F186_l4 (F : Nat) (t1 : Int) (s84 : Int × Int × (List Int)) : Option (Stp (Int × Int × (List Int)) (Int × (List Int))) :=
  (iter (F186_l2 F t1 s84) F s84.1).bind fun b108 =>
  (iter (F186_l3 F t1 s84 b108) F s84.2.1).bind fun b131 =>
  if (decide (b108 > b131)) then
  (some (.stop ((b131, s84.2.2))))
  else
  (at? s84.2.2 b131).bind fun x136 =>
  (at? s84.2.2 b108).bind fun x138 =>
  (ck s84.2.2 b108).bind fun u140 =>
  (ck ((s84.2.2.set ((Int.toNat b108)) x136)) b131).bind fun u144 =>
  some (.more (((wrapA .i64 (b108 + 1)), (wrapA .i64 (b131 - 1)), (((s84.2.2.set ((Int.toNat b108)) x136)).set ((Int.toNat b131)) x138))))
def F186 (F : Nat) (t0 : List Int) (t1 : Int) (t2 : Int) (t3 : Int) : Option (Int × Bool × (List Int)) :=
  (at? t0 t3).bind fun x1 =>
  (at? t0 t1).bind fun x3 =>
  (ck t0 t1).bind fun u5 =>
  (ck ((t0.set ((Int.toNat t1)) x1)) t3).bind fun u9 =>
  (iter (F186_l0 F t0 t1 t2 t3 x1 x3) F (wrapA .i64 (t1 + 1))).bind fun b32 =>
  (iter (F186_l1 F t0 t1 t3 x1 x3 b32) F (wrapA .i64 (t2 - 1))).bind fun b55 =>
  if (decide (b32 > b55)) then
  ((at? ((((t0.set ((Int.toNat t1)) x1)).set ((Int.toNat t3)) x3)) t1).bind fun x60 =>
  (at? ((((t0.set ((Int.toNat t1)) x1)).set ((Int.toNat t3)) x3)) b55).bind fun x62 =>
  (ck ((((t0.set ((Int.toNat t1)) x1)).set ((Int.toNat t3)) x3)) b55).bind fun u64 =>
  (ck ((((((t0.set ((Int.toNat t1)) x1)).set ((Int.toNat t3)) x3)).set ((Int.toNat b55)) x60)) t1).bind fun u68 =>
  some ((b55, true, (((((((t0.set ((Int.toNat t1)) x1)).set ((Int.toNat t3)) x3)).set ((Int.toNat b55)) x60)).set ((Int.toNat t1)) x62))))
  else
  (at? ((((t0.set ((Int.toNat t1)) x1)).set ((Int.toNat t3)) x3)) b55).bind fun x72 =>
  (at? ((((t0.set ((Int.toNat t1)) x1)).set ((Int.toNat t3)) x3)) b32).bind fun x74 =>
  (ck ((((t0.set ((Int.toNat t1)) x1)).set ((Int.toNat t3)) x3)) b32).bind fun u76 =>
  (ck ((((((t0.set ((Int.toNat t1)) x1)).set ((Int.toNat t3)) x3)).set ((Int.toNat b32)) x72)) b55).bind fun u80 =>
  (iter (F186_l4 F t1) F ((wrapA .i64 (b32 + 1)), (wrapA .i64 (b55 - 1)), (((((((t0.set ((Int.toNat t1)) x1)).set ((Int.toNat t3)) x3)).set ((Int.toNat b32)) x72)).set ((Int.toNat b55)) x74))).bind fun b148 =>
  (at? b148.2 t1).bind fun x152 =>
  (at? b148.2 b148.1).bind fun x154 =>
  (ck b148.2 b148.1).bind fun u156 =>
  (ck ((b148.2.set ((Int.toNat b148.1)) x152)) t1).bind fun u160 =>
  some ((b148.1, false, (((b148.2.set ((Int.toNat b148.1)) x152)).set ((Int.toNat t1)) x154)))

def F156_l0 (F : Nat) (frec : (List Int) → Int → Int → Int → Option ((List Int))) (s1 : Int × Int × Int × Bool × Bool × (List Int)) : Option (Stp (Int × Int × Int × Bool × Bool × (List Int)) ((List Int))) :=
  if (decide ((wrapA .i64 (s1.2.1 - s1.1)) ≤ 12)) then
  ((F179 F s1.2.2.2.2.2 s1.1 s1.2.1).bind fun r7 =>
  some (.stop r7))
  else
  if (s1.2.2.1 == 0) then
  ((F180 F s1.2.2.2.2.2 s1.1 s1.2.1).bind fun r12 =>
  some (.stop r12))
  else
  (show Option (Int × (List Int)) from (if (!s1.2.2.2.1) then
  ((F181 F s1.2.2.2.2.2 s1.1 s1.2.1).bind fun r17 =>
  some (((wrapA .i64 (s1.2.2.1 - 1)), r17)))
  else
  some ((s1.2.2.1, s1.2.2.2.2.2)))).bind fun b21 =>
  (F182 F b21.2 s1.1 s1.2.1).bind fun r26 =>
  (show Option (Int × Int × (List Int)) from (if (r26.2 == 2) then
  ((F183 F b21.2 s1.1 s1.2.1).bind fun r31 =>
  some (((wrapA .i64 ((wrapA .i64 (s1.2.1 - 1)) - (wrapA .i64 (r26.1 - s1.1)))), 1, r31)))
  else
  some ((r26.1, r26.2, b21.2)))).bind fun b35 =>
  (show Option ((List Int) ⊕ (List Int)) from (if ((s1.2.2.2.1 && s1.2.2.2.2.1) && (b35.2.1 == 1)) then
  ((F184 F b35.2.2 s1.1 s1.2.1).bind fun r43 =>
  if r43.1 then
  (some ((.inr r43.2)))
  else
  some ((.inl r43.2)))
  else
  some ((.inl b35.2.2)))).bind fun b48 =>
  match b48 with
  | .inl b53 => ((if (decide (s1.1 > 0)) then 
  ((at? b53 (wrapA .i64 (s1.1 - 1))).bind fun x56 =>
  (at? b53 b35.1).bind fun x58 =>
  (F151 F x56 x58).bind fun r60 =>
  some (!r60))
   else some false).bind fun y65 =>
  if y65 then
  ((F185 F b53 s1.1 s1.2.1 b35.1).bind fun r70 =>
  some (.more ((r70.1, s1.2.1, b21.1, s1.2.2.2.1, s1.2.2.2.2.1, r70.2))))
  else
  (F186 F b53 s1.1 s1.2.1 b35.1).bind fun r74 =>
  if (decide ((wrapA .i64 (r74.1 - s1.1)) < (wrapA .i64 (s1.2.1 - r74.1)))) then
  ((frec r74.2.2 s1.1 r74.1 b21.1).bind fun r79 =>
  some (.more (((wrapA .i64 (r74.1 + 1)), s1.2.1, b21.1, (decide ((wrapA .i64 (r74.1 - s1.1)) ≥ (wrapA .i64 (Int.tdiv (wrapA .i64 (s1.2.1 - s1.1)) 8)))), r74.2.1, r79))))
  else
  (frec r74.2.2 ((wrapA .i64 (r74.1 + 1))) s1.2.1 b21.1).bind fun r83 =>
  some (.more ((s1.1, r74.1, b21.1, (decide ((wrapA .i64 (s1.2.1 - r74.1)) ≥ (wrapA .i64 (Int.tdiv (wrapA .i64 (s1.2.1 - s1.1)) 8)))), r74.2.1, r83))))
  | .inr b53 => (some (.stop b53))
def F156 : Nat → (List Int) → Int → Int → Int → Option ((List Int))
  | 0, _, _, _, _ => none
  | F + 1, t0, t1, t2, t3 =>
  let frec := F156 F
  (iter (F156_l0 F frec) F (t1, t2, t3, true, true, t0)).bind fun b89 =>
  some b89

def F114 (F : Nat) (t0 : List Int) : Option ((List Int)) :=
  (F155 F ((wrapA .u64 (t0.length : Int)))).bind fun r1 =>
  (F156 F t0 0 ((t0.length : Int)) r1).bind fun r5 =>
  some r5

def F115_l0 (F : Nat)  (s1 : Int × Int × (List Int)) : Option (Stp (Int × Int × (List Int)) ((List Int))) :=
  if (decide (s1.1 < s1.2.1)) then
  ((at? s1.2.2 s1.2.1).bind fun x7 =>
  (at? s1.2.2 s1.1).bind fun x9 =>
  (ck s1.2.2 s1.1).bind fun u11 =>
  (ck ((s1.2.2.set ((Int.toNat s1.1)) x7)) s1.2.1).bind fun u15 =>
  some (.more (((wrapA .i64 (s1.1 + 1)), (wrapA .i64 (s1.2.1 - 1)), (((s1.2.2.set ((Int.toNat s1.1)) x7)).set ((Int.toNat s1.2.1)) x9)))))
  else
  some (.stop s1.2.2)
def F115 (F : Nat) (t0 : List Int) : Option ((List Int)) :=
  (iter (F115_l0 F) F (0, (wrapA .i64 ((t0.length : Int) - 1)), t0)).bind fun b19 =>
  some b19

def F46_l0 (F : Nat) (t0 : List Int) (frec : (List Int) → Option ((List Int))) (s1 : (List Int) × Int) : Option (Stp ((List Int) × Int) ((List Int))) :=
  if (decide (s1.2 < (t0.length : Int))) then
  ((at? t0 s1.2).bind fun x11 =>
  if ((Int.tmod x11 2) == 1) then
  ((app? s1.1 ([x11])).bind fun L18 =>
  some (.more ((L18, (wrapA .i64 (s1.2 + 1))))))
  else
  (frec ([(wrapA .i64 (Int.tdiv x11 2)), (wrapA .i64 (Int.tdiv x11 2))])).bind fun r28 =>
  (app? s1.1 r28).bind fun L34 =>
  some (.more ((L34, (wrapA .i64 (s1.2 + 1))))))
  else
  some (.stop s1.1)
def F46 : Nat → (List Int) → Option ((List Int))
  | 0, _ => none
  | F + 1, t0 =>
  let frec := F46 F
  (iter (F46_l0 F t0 frec) F ([], 0)).bind fun b40 =>
  (F114 F b40).bind fun r45 =>
  (F115 F r45).bind fun r49 =>
  some r49

def F48 (F : Nat) (t0 : Int) : Option Bool :=
  some (((Int.tmod t0 2) == 0))

def F116_48_l0 (F : Nat) (t0 : List Int) (s1 : Int) : Option (Stp (Int) (Unit ⊕ Int)) :=
  if (decide (s1 < (t0.length : Int))) then
  ((at? t0 s1).bind fun x9 =>
  (F48 F x9).bind fun r11 =>
  if r11 then
  (some (.stop ((.inr s1))))
  else
  some (.more ((wrapA .i64 (s1 + 1)))))
  else
  some (.stop ((.inl ())))
def F116_48 (F : Nat) (t0 : List Int) : Option Int :=
  (iter (F116_48_l0 F t0) F 0).bind fun b16 =>
  match b16 with
  | .inl b18 => (some ((-1)))
  | .inr b18 => (some b18)

def F47_48 (F : Nat) (t0 : List Int) : Option Bool :=
  (F116_48 F t0).bind fun r1 =>
  some ((decide (r1 ≥ 0)))

def F117 (F : Nat) (t0 : (List Int)) (t1 : Int) (t2 : Int) : Option ((List Int)) := if 0 ≤ t1 then del? t0 t1 t2 else none

def F49_l0 (F : Nat) (r16 : (List Int)) (s20 : Int × Int) : Option (Stp (Int × Int) (Int)) :=
  if (decide (s20.2 < (r16.length : Int))) then
  ((at? r16 s20.2).bind fun x26 =>
  (at? r16 (wrapA .i64 (s20.2 - 1))).bind fun x28 =>
  if (x26 == x28) then
  (some (.more ((s20.2, (wrapA .i64 (s20.2 + 1))))))
  else
  some (.more ((s20.1, (wrapA .i64 (s20.2 + 1))))))
  else
  some (.stop s20.1)
def F49_l1 (F : Nat)  (s7 : (List Int)) : Option (Stp ((List Int)) ((List Int))) :=
  (F114 F s7).bind fun r16 =>
  (iter (F49_l0 F r16) F ((-1), 1)).bind fun b31 =>
  if (decide (b31 < 0)) then
  ((F115 F r16).bind fun r36 =>
  some (.stop r36))
  else
  (at? r16 b31).bind fun x40 =>
  (ck r16 b31).bind fun u42 =>
  (F117 F ((r16.set ((Int.toNat b31)) ((wrapA .i64 (x40 * 2))))) ((wrapA .i64 (b31 - 1))) b31).bind fun r46 =>
  some (.more r46)
def F49 (F : Nat) (t0 : List Int) : Option ((List Int)) :=
  (F45 F t0).bind fun r1 =>
  (iter (F49_l1 F) F r1).bind fun b52 =>
  some b52

def F6 (F : Nat) (t0 : List Int) (t1 : Int) (t2 : Int) : Option Bool :=
  (F36 F t1 t2).bind fun r1 =>
  (F37 F t0).bind fun r5 =>
  (F38 F t0).bind fun r11 =>
  (F39 F t0).bind fun r17 =>
  (show Option (Unit ⊕ Bool) from (if ((((decide (t1 < 0)) || (decide (t1 > 40))) || (decide (t2 < 0))) || (decide (t2 > 40))) then
  (if ((r1.2 != 1) || (r1.1 != 0)) then
  (some ((.inr false)))
  else
  some ((.inl ())))
  else
  (if (r1.2 != 0) then some true else 
  ((F40 F t1 t2).bind fun r29 =>
  some (r1.1 != r29))
  ).bind fun y34 =>
  if y34 then
  (some ((.inr false)))
  else
  some ((.inl ())))).bind fun b39 =>
  match b39 with
  | .inl b44 => ((F41 F t0).bind fun r47 =>
  (F42 F t0).bind fun r51 =>
  if (r51 != r47) then
  (some false)
  else
  if (r47 != 0) then
  (some (((((r5.2 == r47) && (r11.2 == r47)) && (r17.2 == r47)) && ((wrapA .i64 ((wrapA .i64 ((r5.1.length : Int) + (r11.1.length : Int))) + (r17.1.length : Int))) == 0))))
  else
  (if (r5.2 != 0) then some true else 
  ((F43 F t0).bind fun r60 =>
  (F26 F r5.1 r60).bind fun r66 =>
  some (!r66))
  ).bind fun y71 =>
  if y71 then
  (some false)
  else
  (F45 F t0).bind fun r76 =>
  (F44 F r76).bind fun r82 =>
  (show Option (Unit ⊕ Bool) from (if (decide ((r82.length : Int) < (t0.length : Int))) then
  (if ((r11.2 != 3) || (decide ((r11.1.length : Int) > 0))) then
  (some ((.inr false)))
  else
  some ((.inl ())))
  else
  (if (r11.2 != 0) then some true else 
  ((F46 F t0).bind fun r92 =>
  (F26 F r11.1 r92).bind fun r98 =>
  some (!r98))
  ).bind fun y103 =>
  if y103 then
  (some ((.inr false)))
  else
  some ((.inl ())))).bind fun b108 =>
  match b108 with
  | .inl b113 => ((F47_48 F t0).bind fun r116 =>
  if r116 then
  (some (((r17.2 == 3) && ((r17.1.length : Int) == 0))))
  else
  (if (r17.2 == 0) then 
  ((F49 F t0).bind fun r122 =>
  (F26 F r17.1 r122).bind fun r128 =>
  some r128)
   else some false).bind fun y133 =>
  some y133)
  | .inr b113 => (some b113))
  | .inr b44 => (some b44)

end Go.Proofs.Ytihmliblbhjlaaa
