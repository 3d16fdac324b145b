/- Functional texts of the functions: printed by a program of ours (gen.py). -/
import Derived.Test.YtihmliblbhjlaaaDenJ
set_option linter.unusedVariables false
namespace Go.Proofs.Ytihmliblbhjlaaa
open Go.Am
abbrev Y3 : Lay Int := Lay.one (SV.int .i64)
abbrev Y26 : Lay (Int × Int) := Lay.flat 2 (fun a => [.int .i64 a.1, .int .i64 a.2]) fun _ => rfl
abbrev Y115 : Lay (Int × Int × Bool × Bool) := Lay.flat 4 (fun a => [.int .i64 a.1, .int .i64 a.2.1, .bool a.2.2.1, .bool a.2.2.2]) fun _ => rfl
abbrev Y119 : Lay (Int × Int × Int) := Lay.flat 3 (fun a => [.int .i64 a.1, .int .i64 a.2.1, .int .i64 a.2.2]) fun _ => rfl
abbrev Y117 : Lay ((Int × Int × Bool × Bool) × Int) := Lay.flat 5 (fun a => [.int .i64 a.1.1, .int .i64 a.1.2.1, .bool a.1.2.2.1, .bool a.1.2.2.2, .int .i64 a.2]) fun _ => rfl
abbrev Y22 : Lay (List Int) := Lay.sl Y3
abbrev Y130 : Lay (List Bool) := Lay.arr 10 SV.bool
abbrev Y201 : Lay Int := Lay.one (SV.int .u64)
abbrev Y134 : Lay (List Int) := Lay.arr 41 (SV.int .i64)
abbrev Y9 : Lay (List UInt8) := Lay.one SV.str
abbrev Y5 : Lay Int := Lay.one (SV.int .u8)
abbrev Y78 : Lay (List (List UInt8)) := Lay.sl Y9
abbrev Y27 : Lay Int := Lay.one (SV.int .i64)
abbrev Y4 : Lay Bool := Lay.one SV.bool
abbrev Y167 : Lay (Int × Int) := Lay.flat 2 (fun a => [.int .i64 a.1, .int .i64 a.2]) fun _ => rfl

def F166_l0 (F : Nat)  (s1 : Int × Int) : Option (Stp (Int × Int) (Int)) :=
  if (decide (s1.2 > 0)) then
  ((rem? s1.1 s1.2).bind fun x7 =>
  some (.more ((s1.2, x7))))
  else
  some (.stop s1.1)
def F166 (F : Nat) (t0 : Int) (t1 : Int) : Option Int :=
  (iter (F166_l0 F) F ((maxI t0 (wrapA .i64 (0 - t0))), t1)).bind fun b9 =>
  some b9

def F149 (F : Nat) (t0 : Int) (t1 : Int) : Option ((Int × Int) × Int) :=
  (F166 F t0 t1).bind fun r5 =>
  (quo? .i64 t0 r5).bind fun x9 =>
  (quo? .i64 t1 r5).bind fun x11 =>
  if (((decide (((x9, x11)).2 > 1000000000)) || (decide (((x9, x11)).1 < (-1000000000)))) || (decide (((x9, x11)).1 > 1000000000))) then
  (some (((((0, 0)).1, ((0, 0)).2), 2)))
  else
  some (((((((x9, x11)).1, ((x9, x11)).2)).1, ((((x9, x11)).1, ((x9, x11)).2)).2), 0))

def F101_l0 (F : Nat) (t0 : List Int) (s6 : Int × (List Bool)) : Option (Stp (Int × (List Bool)) (Unit ⊕ Int)) :=
  if (decide (s6.1 < (t0.length : Int))) then
  ((at? t0 s6.1).bind fun x14 =>
  (if ((decide (x14 < 0)) || (decide (x14 ≥ (t0.length : Int)))) then some true else 
  ((at? s6.2 x14).bind fun x17 =>
  some x17)
  ).bind fun y20 =>
  if y20 then
  (some (.stop ((.inr 3))))
  else
  (ck s6.2 x14).bind fun u23 =>
  some (.more (((wrapA .i64 (s6.1 + 1)), (s6.2.set ((Int.toNat x14)) true)))))
  else
  some (.stop ((.inl ())))
def F101 (F : Nat) (t0 : List Int) : Option Int :=
  if (decide ((t0.length : Int) > 10)) then
  (some 2)
  else
  (iter (F101_l0 F t0) F (0, (List.replicate 10 false))).bind fun b27 =>
  match b27 with
  | .inl b29 => (some 0)
  | .inr b29 => (some b29)

def F177 (F : Nat) (t0 : Int) : Option Int :=
  (show Option (Int × Int) from (if (decide (t0 ≥ 65536)) then
  ((shr? .u32 t0 16).bind fun x2 =>
  some ((x2, 16)))
  else
  some ((t0, 0)))).bind fun b4 =>
  if (decide (b4.1 ≥ 256)) then
  ((shr? .u32 b4.1 8).bind fun x10 =>
  (at? ([0, 1, 2, 2, 3, 3, 3, 3, 4, 4, 4, 4, 4, 4, 4, 4, 5, 5, 5, 5, 5, 5, 5, 5, 5, 5, 5, 5, 5, 5, 5, 5, 6, 6, 6, 6, 6, 6, 6, 6, 6, 6, 6, 6, 6, 6, 6, 6, 6, 6, 6, 6, 6, 6, 6, 6, 6, 6, 6, 6, 6, 6, 6, 6, 7, 7, 7, 7, 7, 7, 7, 7, 7, 7, 7, 7, 7, 7, 7, 7, 7, 7, 7, 7, 7, 7, 7, 7, 7, 7, 7, 7, 7, 7, 7, 7, 7, 7, 7, 7, 7, 7, 7, 7, 7, 7, 7, 7, 7, 7, 7, 7, 7, 7, 7, 7, 7, 7, 7, 7, 7, 7, 7, 7, 7, 7, 7, 7, 8, 8, 8, 8, 8, 8, 8, 8, 8, 8, 8, 8, 8, 8, 8, 8, 8, 8, 8, 8, 8, 8, 8, 8, 8, 8, 8, 8, 8, 8, 8, 8, 8, 8, 8, 8, 8, 8, 8, 8, 8, 8, 8, 8, 8, 8, 8, 8, 8, 8, 8, 8, 8, 8, 8, 8, 8, 8, 8, 8, 8, 8, 8, 8, 8, 8, 8, 8, 8, 8, 8, 8, 8, 8, 8, 8, 8, 8, 8, 8, 8, 8, 8, 8, 8, 8, 8, 8, 8, 8, 8, 8, 8, 8, 8, 8, 8, 8, 8, 8, 8, 8, 8, 8, 8, 8, 8, 8, 8, 8, 8, 8, 8, 8, 8, 8, 8, 8, 8, 8, 8, 8, 8, 8, 8, 8, 8, 8] : List UInt8) (wrapA .u8 x10)).bind fun x12 =>
  some ((wrapA .i64 ((wrapA .i64 (b4.2 + 8)) + (wrapA .i64 (x12.toNat : Int))))))
  else
  (at? ([0, 1, 2, 2, 3, 3, 3, 3, 4, 4, 4, 4, 4, 4, 4, 4, 5, 5, 5, 5, 5, 5, 5, 5, 5, 5, 5, 5, 5, 5, 5, 5, 6, 6, 6, 6, 6, 6, 6, 6, 6, 6, 6, 6, 6, 6, 6, 6, 6, 6, 6, 6, 6, 6, 6, 6, 6, 6, 6, 6, 6, 6, 6, 6, 7, 7, 7, 7, 7, 7, 7, 7, 7, 7, 7, 7, 7, 7, 7, 7, 7, 7, 7, 7, 7, 7, 7, 7, 7, 7, 7, 7, 7, 7, 7, 7, 7, 7, 7, 7, 7, 7, 7, 7, 7, 7, 7, 7, 7, 7, 7, 7, 7, 7, 7, 7, 7, 7, 7, 7, 7, 7, 7, 7, 7, 7, 7, 7, 8, 8, 8, 8, 8, 8, 8, 8, 8, 8, 8, 8, 8, 8, 8, 8, 8, 8, 8, 8, 8, 8, 8, 8, 8, 8, 8, 8, 8, 8, 8, 8, 8, 8, 8, 8, 8, 8, 8, 8, 8, 8, 8, 8, 8, 8, 8, 8, 8, 8, 8, 8, 8, 8, 8, 8, 8, 8, 8, 8, 8, 8, 8, 8, 8, 8, 8, 8, 8, 8, 8, 8, 8, 8, 8, 8, 8, 8, 8, 8, 8, 8, 8, 8, 8, 8, 8, 8, 8, 8, 8, 8, 8, 8, 8, 8, 8, 8, 8, 8, 8, 8, 8, 8, 8, 8, 8, 8, 8, 8, 8, 8, 8, 8, 8, 8, 8, 8, 8, 8, 8, 8, 8, 8, 8, 8, 8, 8] : List UInt8) (wrapA .u8 b4.1)).bind fun x14 =>
  some ((wrapA .i64 (b4.2 + (wrapA .i64 (x14.toNat : Int)))))

def F178 (F : Nat) (t0 : Int) : Option Int :=
  (show Option (Int × Int) from (if (decide (t0 ≥ 4294967296)) then
  ((shr? .u64 t0 32).bind fun x2 =>
  some ((x2, 32)))
  else
  some ((t0, 0)))).bind fun b4 =>
  (show Option (Int × Int) from (if (decide (b4.1 ≥ 65536)) then
  ((shr? .u64 b4.1 16).bind fun x10 =>
  some ((x10, (wrapA .i64 (b4.2 + 16)))))
  else
  some ((b4.1, b4.2)))).bind fun b12 =>
  if (decide (b12.1 ≥ 256)) then
  ((shr? .u64 b12.1 8).bind fun x18 =>
  (at? ([0, 1, 2, 2, 3, 3, 3, 3, 4, 4, 4, 4, 4, 4, 4, 4, 5, 5, 5, 5, 5, 5, 5, 5, 5, 5, 5, 5, 5, 5, 5, 5, 6, 6, 6, 6, 6, 6, 6, 6, 6, 6, 6, 6, 6, 6, 6, 6, 6, 6, 6, 6, 6, 6, 6, 6, 6, 6, 6, 6, 6, 6, 6, 6, 7, 7, 7, 7, 7, 7, 7, 7, 7, 7, 7, 7, 7, 7, 7, 7, 7, 7, 7, 7, 7, 7, 7, 7, 7, 7, 7, 7, 7, 7, 7, 7, 7, 7, 7, 7, 7, 7, 7, 7, 7, 7, 7, 7, 7, 7, 7, 7, 7, 7, 7, 7, 7, 7, 7, 7, 7, 7, 7, 7, 7, 7, 7, 7, 8, 8, 8, 8, 8, 8, 8, 8, 8, 8, 8, 8, 8, 8, 8, 8, 8, 8, 8, 8, 8, 8, 8, 8, 8, 8, 8, 8, 8, 8, 8, 8, 8, 8, 8, 8, 8, 8, 8, 8, 8, 8, 8, 8, 8, 8, 8, 8, 8, 8, 8, 8, 8, 8, 8, 8, 8, 8, 8, 8, 8, 8, 8, 8, 8, 8, 8, 8, 8, 8, 8, 8, 8, 8, 8, 8, 8, 8, 8, 8, 8, 8, 8, 8, 8, 8, 8, 8, 8, 8, 8, 8, 8, 8, 8, 8, 8, 8, 8, 8, 8, 8, 8, 8, 8, 8, 8, 8, 8, 8, 8, 8, 8, 8, 8, 8, 8, 8, 8, 8, 8, 8, 8, 8, 8, 8, 8, 8] : List UInt8) (wrapA .u8 x18)).bind fun x20 =>
  some ((wrapA .i64 ((wrapA .i64 (b12.2 + 8)) + (wrapA .i64 (x20.toNat : Int))))))
  else
  (at? ([0, 1, 2, 2, 3, 3, 3, 3, 4, 4, 4, 4, 4, 4, 4, 4, 5, 5, 5, 5, 5, 5, 5, 5, 5, 5, 5, 5, 5, 5, 5, 5, 6, 6, 6, 6, 6, 6, 6, 6, 6, 6, 6, 6, 6, 6, 6, 6, 6, 6, 6, 6, 6, 6, 6, 6, 6, 6, 6, 6, 6, 6, 6, 6, 7, 7, 7, 7, 7, 7, 7, 7, 7, 7, 7, 7, 7, 7, 7, 7, 7, 7, 7, 7, 7, 7, 7, 7, 7, 7, 7, 7, 7, 7, 7, 7, 7, 7, 7, 7, 7, 7, 7, 7, 7, 7, 7, 7, 7, 7, 7, 7, 7, 7, 7, 7, 7, 7, 7, 7, 7, 7, 7, 7, 7, 7, 7, 7, 8, 8, 8, 8, 8, 8, 8, 8, 8, 8, 8, 8, 8, 8, 8, 8, 8, 8, 8, 8, 8, 8, 8, 8, 8, 8, 8, 8, 8, 8, 8, 8, 8, 8, 8, 8, 8, 8, 8, 8, 8, 8, 8, 8, 8, 8, 8, 8, 8, 8, 8, 8, 8, 8, 8, 8, 8, 8, 8, 8, 8, 8, 8, 8, 8, 8, 8, 8, 8, 8, 8, 8, 8, 8, 8, 8, 8, 8, 8, 8, 8, 8, 8, 8, 8, 8, 8, 8, 8, 8, 8, 8, 8, 8, 8, 8, 8, 8, 8, 8, 8, 8, 8, 8, 8, 8, 8, 8, 8, 8, 8, 8, 8, 8, 8, 8, 8, 8, 8, 8, 8, 8, 8, 8, 8, 8, 8, 8] : List UInt8) (wrapA .u8 b12.1)).bind fun x22 =>
  some ((wrapA .i64 (b12.2 + (wrapA .i64 (x22.toNat : Int)))))

def F155 (F : Nat) (t0 : Int) : Option Int :=
  if false then
  ((F177 F ((wrapA .u32 t0))).bind fun r2 =>
  some r2)
  else
  (F178 F t0).bind fun r6 =>
  some r6

def F198 (F : Nat) (t0 : Int) : Option Int :=
  (F155 F ((wrapA .u64 t0))).bind fun r1 =>
  (shl? .u64 1 r1).bind fun x5 =>
  some x5

def F199 (F : Nat) (t0 : Int) : Option (Int × Int) :=
  (shl? .u64 t0 13).bind fun x1 =>
  (shr? .u64 ((bit .xor .u64 t0 x1)) 7).bind fun x5 =>
  (shl? .u64 ((bit .xor .u64 ((bit .xor .u64 t0 x1)) x5)) 17).bind fun x9 =>
  some ((((bit .xor .u64 ((bit .xor .u64 ((bit .xor .u64 t0 x1)) x5)) x9)), (bit .xor .u64 ((bit .xor .u64 ((bit .xor .u64 t0 x1)) x5)) x9)))

def F160 (F : Nat) (t0 : (List (List UInt8))) : Option ((List (List UInt8))) := if t0.length ≤ 8796093022208 then some t0 else none

def F61_l0 (F : Nat) (L1 : List Int) (s7 : Int × Int) : Option (Stp (Int × Int) (Int)) :=
  if (decide (s7.2 < (L1.length : Int))) then
  ((at? L1 s7.2).bind fun x13 =>
  some (.more (((wrapA .u32 ((bit .xor .u32 s7.1 (wrapA .u32 x13)) * 16777619)), (wrapA .i64 (s7.2 + 1))))))
  else
  some (.stop s7.1)
def F61 (F : Nat) (t0 : List UInt8) : Option Int :=
  (bytes? t0).bind fun L1 =>
  (iter (F61_l0 F L1) F (2166136261, 0)).bind fun b15 =>
  (shr? .u32 b15 15).bind fun x19 =>
  (shr? .u32 (wrapA .u32 ((bit .xor .u32 b15 x19) * 2246822519)) 13).bind fun x21 =>
  some ((bit .xor .u32 (wrapA .u32 ((bit .xor .u32 b15 x19) * 2246822519)) x21))

def F132 (F : Nat) (t0 : List UInt8) (t1 : List UInt8) : Option Int :=
  (F61 F t0).bind fun r1 =>
  (F61 F t1).bind fun r5 =>
  if ((decide (r1 < r5)) || ((r1 == r5) && (bytesLt t0 t1))) then
  (some ((-1)))
  else
  if (t0 == t1) then
  (some 0)
  else
  some 1

def F208_132_l0 (F : Nat) (t1 : Int) (s7 : Int × (List (List UInt8))) : Option (Stp (Int × (List (List UInt8))) ((List (List UInt8)))) :=
  (if (decide (s7.1 > t1)) then 
  ((at? s7.2 s7.1).bind fun x12 =>
  (at? s7.2 (wrapA .i64 (s7.1 - 1))).bind fun x14 =>
  (F132 F x12 x14).bind fun r16 =>
  some (decide (r16 < 0)))
   else some false).bind fun y21 =>
  if y21 then
  ((at? s7.2 (wrapA .i64 (s7.1 - 1))).bind fun x26 =>
  (at? s7.2 s7.1).bind fun x28 =>
  (ck s7.2 s7.1).bind fun u30 =>
  (ck ((s7.2.set ((Int.toNat s7.1)) x26)) (wrapA .i64 (s7.1 - 1))).bind fun u34 =>
  some (.more (((wrapA .i64 (s7.1 - 1)), (((s7.2.set ((Int.toNat s7.1)) x26)).set ((Int.toNat (wrapA .i64 (s7.1 - 1)))) x28)))))
  else
  some (.stop s7.2)
def F208_132_l1 (F : Nat) (t1 : Int) (t2 : Int) (s1 : Int × (List (List UInt8))) : Option (Stp (Int × (List (List UInt8))) ((List (List UInt8)))) :=
  if (decide (s1.1 < t2)) then
  ((iter (F208_132_l0 F t1) F (s1.1, s1.2)).bind fun b38 =>
  some (.more (((wrapA .i64 (s1.1 + 1)), b38))))
  else
  some (.stop s1.2)
def F208_132 (F : Nat) (t0 : List (List UInt8)) (t1 : Int) (t2 : Int) : Option ((List (List UInt8))) :=
  (iter (F208_132_l1 F t1 t2) F ((wrapA .i64 (t1 + 1)), t0)).bind fun b42 =>
  some b42

def F219_132_l0 (F : Nat) (t2 : Int) (t3 : Int) (s1 : Int × (List (List UInt8))) : Option (Stp (Int × (List (List UInt8))) ((List (List UInt8)) ⊕ (List (List UInt8)))) :=
  if (decide ((wrapA .i64 ((wrapA .i64 (2 * s1.1)) + 1)) ≥ t2)) then
  (some (.stop ((.inl s1.2))))
  else
  (if (decide ((wrapA .i64 ((wrapA .i64 ((wrapA .i64 (2 * s1.1)) + 1)) + 1)) < t2)) then 
  ((at? s1.2 (wrapA .i64 (t3 + (wrapA .i64 ((wrapA .i64 (2 * s1.1)) + 1))))).bind fun x9 =>
  (at? s1.2 (wrapA .i64 ((wrapA .i64 (t3 + (wrapA .i64 ((wrapA .i64 (2 * s1.1)) + 1)))) + 1))).bind fun x11 =>
  (F132 F x9 x11).bind fun r13 =>
  some (decide (r13 < 0)))
   else some false).bind fun y18 =>
  (show Option (Int) from (if y18 then
  (some ((wrapA .i64 ((wrapA .i64 ((wrapA .i64 (2 * s1.1)) + 1)) + 1))))
  else
  some ((wrapA .i64 ((wrapA .i64 (2 * s1.1)) + 1))))).bind fun b23 =>
  (at? s1.2 (wrapA .i64 (t3 + s1.1))).bind fun x28 =>
  (at? s1.2 (wrapA .i64 (t3 + b23))).bind fun x30 =>
  (F132 F x28 x30).bind fun r32 =>
  if (!(decide (r32 < 0))) then
  (some (.stop ((.inr s1.2))))
  else
  (at? s1.2 (wrapA .i64 (t3 + b23))).bind fun x37 =>
  (at? s1.2 (wrapA .i64 (t3 + s1.1))).bind fun x39 =>
  (ck s1.2 (wrapA .i64 (t3 + s1.1))).bind fun u41 =>
  (ck ((s1.2.set ((Int.toNat (wrapA .i64 (t3 + s1.1)))) x37)) (wrapA .i64 (t3 + b23))).bind fun u45 =>
  some (.more ((b23, (((s1.2.set ((Int.toNat (wrapA .i64 (t3 + s1.1)))) x37)).set ((Int.toNat (wrapA .i64 (t3 + b23)))) x39))))
def F219_132 (F : Nat) (t0 : List (List UInt8)) (t1 : Int) (t2 : Int) (t3 : Int) : Option ((List (List UInt8))) :=
  (iter (F219_132_l0 F t2 t3) F (t1, t0)).bind fun b49 =>
  match b49 with
  | .inl b51 => (some b51)
  | .inr b51 => (some b51)

def F209_132_l0 (F : Nat) (t1 : Int) (t2 : Int) (s1 : Int × (List (List UInt8))) : Option (Stp (Int × (List (List UInt8))) ((List (List UInt8)))) :=
  if (decide (s1.1 ≥ 0)) then
  ((F219_132 F s1.2 s1.1 ((wrapA .i64 (t2 - t1))) t1).bind fun r7 =>
  some (.more (((wrapA .i64 (s1.1 - 1)), r7))))
  else
  some (.stop s1.2)
def F209_132_l1 (F : Nat) (t1 : Int) (s15 : Int × (List (List UInt8))) : Option (Stp (Int × (List (List UInt8))) ((List (List UInt8)))) :=
  if (decide (s15.1 ≥ 0)) then
  ((at? s15.2 (wrapA .i64 (t1 + s15.1))).bind fun x21 =>
  (at? s15.2 t1).bind fun x23 =>
  (ck s15.2 t1).bind fun u25 =>
  (ck ((s15.2.set ((Int.toNat t1)) x21)) (wrapA .i64 (t1 + s15.1))).bind fun u29 =>
  (F219_132 F ((((s15.2.set ((Int.toNat t1)) x21)).set ((Int.toNat (wrapA .i64 (t1 + s15.1)))) x23)) 0 s15.1 t1).bind fun r33 =>
  some (.more (((wrapA .i64 (s15.1 - 1)), r33))))
  else
  some (.stop s15.2)
def F209_132 (F : Nat) (t0 : List (List UInt8)) (t1 : Int) (t2 : Int) : Option ((List (List UInt8))) :=
  (iter (F209_132_l0 F t1 t2) F ((wrapA .i64 (Int.tdiv (wrapA .i64 ((wrapA .i64 (t2 - t1)) - 1)) 2)), t0)).bind fun b11 =>
  (iter (F209_132_l1 F t1) F ((wrapA .i64 ((wrapA .i64 (t2 - t1)) - 1)), b11)).bind fun b37 =>
  some b37

def F210_132_l0 (F : Nat) (t1 : Int) (t2 : Int) (r8 : Int) (s12 : Int × (List (List UInt8)) × Int) : Option (Stp (Int × (List (List UInt8)) × Int) ((List (List UInt8)))) :=
  if (decide (s12.1 ≤ (wrapA .i64 ((wrapA .i64 (t1 + (wrapA .i64 ((wrapA .i64 (Int.tdiv (wrapA .i64 (t2 - t1)) 4)) * 2)))) + 1)))) then
  ((F199 F s12.2.2).bind fun r19 =>
  (show Option (Int) from (if (decide ((wrapA .i64 (bit .and .u64 r19.1 (wrapA .u64 (r8 - 1)))) ≥ (wrapA .i64 (t2 - t1)))) then
  (some ((wrapA .i64 ((wrapA .i64 (bit .and .u64 r19.1 (wrapA .u64 (r8 - 1)))) - (wrapA .i64 (t2 - t1))))))
  else
  some ((wrapA .i64 (bit .and .u64 r19.1 (wrapA .u64 (r8 - 1))))))).bind fun b25 =>
  (at? s12.2.1 (wrapA .i64 (t1 + b25))).bind fun x30 =>
  (at? s12.2.1 s12.1).bind fun x32 =>
  (ck s12.2.1 s12.1).bind fun u34 =>
  (ck ((s12.2.1.set ((Int.toNat s12.1)) x30)) (wrapA .i64 (t1 + b25))).bind fun u38 =>
  some (.more (((wrapA .i64 (s12.1 + 1)), (((s12.2.1.set ((Int.toNat s12.1)) x30)).set ((Int.toNat (wrapA .i64 (t1 + b25)))) x32), r19.2))))
  else
  some (.stop s12.2.1)
def F210_132 (F : Nat) (t0 : List (List UInt8)) (t1 : Int) (t2 : Int) : Option ((List (List UInt8))) :=
  if (decide ((wrapA .i64 (t2 - t1)) ≥ 8)) then
  ((F198 F ((wrapA .i64 (t2 - t1)))).bind fun r8 =>
  (iter (F210_132_l0 F t1 t2 r8) F ((wrapA .i64 ((wrapA .i64 (t1 + (wrapA .i64 ((wrapA .i64 (Int.tdiv (wrapA .i64 (t2 - t1)) 4)) * 2)))) - 1)), t0, (wrapA .u64 (wrapA .i64 (t2 - t1))))).bind fun b42 =>
  some b42)
  else
  some t0

def F222_132 (F : Nat) (t0 : List (List UInt8)) (t1 : Int) (t2 : Int) (t3 : Int) : Option (Int × Int × Int) :=
  (at? t0 t2).bind fun x1 =>
  (at? t0 t1).bind fun x3 =>
  (F132 F x1 x3).bind fun r5 =>
  if (decide (r5 < 0)) then
  (some ((t2, t1, (wrapA .i64 (t3 + 1)))))
  else
  some ((t1, t2, t3))

def F221_132 (F : Nat) (t0 : List (List UInt8)) (t1 : Int) (t2 : Int) (t3 : Int) (t4 : Int) : Option (Int × Int) :=
  (F222_132 F t0 t1 t2 t4).bind fun r1 =>
  (F222_132 F t0 r1.2.1 t3 r1.2.2).bind fun r6 =>
  (F222_132 F t0 r1.1 r6.1 r6.2.2).bind fun r11 =>
  some ((r11.2.1, r11.2.2))

def F220_132 (F : Nat) (t0 : List (List UInt8)) (t1 : Int) (t2 : Int) : Option (Int × Int) :=
  (F221_132 F t0 ((wrapA .i64 (t1 - 1))) t1 ((wrapA .i64 (t1 + 1))) t2).bind fun r1 =>
  some ((r1.1, r1.2))

def F211_132 (F : Nat) (t0 : List (List UInt8)) (t1 : Int) (t2 : Int) : Option (Int × Int) :=
  (show Option (Int × Int) from (if (decide ((wrapA .i64 (t2 - t1)) ≥ 8)) then
  (if (decide ((wrapA .i64 (t2 - t1)) ≥ 50)) then
  ((F220_132 F t0 ((wrapA .i64 (t1 + (wrapA .i64 ((wrapA .i64 (Int.tdiv (wrapA .i64 (t2 - t1)) 4)) * 1))))) 0).bind fun r8 =>
  (F220_132 F t0 ((wrapA .i64 (t1 + (wrapA .i64 ((wrapA .i64 (Int.tdiv (wrapA .i64 (t2 - t1)) 4)) * 2))))) r8.2).bind fun r13 =>
  (F220_132 F t0 ((wrapA .i64 (t1 + (wrapA .i64 ((wrapA .i64 (Int.tdiv (wrapA .i64 (t2 - t1)) 4)) * 3))))) r13.2).bind fun r18 =>
  (F221_132 F t0 r8.1 r13.1 r18.1 r18.2).bind fun r23 =>
  some ((r23.1, r23.2)))
  else
  (F221_132 F t0 ((wrapA .i64 (t1 + (wrapA .i64 ((wrapA .i64 (Int.tdiv (wrapA .i64 (t2 - t1)) 4)) * 1))))) ((wrapA .i64 (t1 + (wrapA .i64 ((wrapA .i64 (Int.tdiv (wrapA .i64 (t2 - t1)) 4)) * 2))))) ((wrapA .i64 (t1 + (wrapA .i64 ((wrapA .i64 (Int.tdiv (wrapA .i64 (t2 - t1)) 4)) * 3))))) 0).bind fun r29 =>
  some ((r29.1, r29.2)))
  else
  some (((wrapA .i64 (t1 + (wrapA .i64 ((wrapA .i64 (Int.tdiv (wrapA .i64 (t2 - t1)) 4)) * 2)))), 0)))).bind fun b34 =>
  if (b34.2 == 0) then
  (some ((b34.1, 1)))
  else
  if (b34.2 == 12) then
  (some ((b34.1, 2)))
  else
  some ((b34.1, 0))

def F212_132_l0 (F : Nat)  (s1 : Int × Int × (List (List UInt8))) : Option (Stp (Int × Int × (List (List UInt8))) ((List (List UInt8)))) :=
  if (decide (s1.1 < s1.2.1)) then
  ((at? s1.2.2 s1.2.1).bind fun x7 =>
  (at? s1.2.2 s1.1).bind fun x9 =>
  (ck s1.2.2 s1.1).bind fun u11 =>
  (ck ((s1.2.2.set ((Int.toNat s1.1)) x7)) s1.2.1).bind fun u15 =>
  some (.more (((wrapA .i64 (s1.1 + 1)), (wrapA .i64 (s1.2.1 - 1)), (((s1.2.2.set ((Int.toNat s1.1)) x7)).set ((Int.toNat s1.2.1)) x9)))))
  else
  some (.stop s1.2.2)
def F212_132 (F : Nat) (t0 : List (List UInt8)) (t1 : Int) (t2 : Int) : Option ((List (List UInt8))) :=
  (iter (F212_132_l0 F) F (t1, (wrapA .i64 (t2 - 1)), t0)).bind fun b19 =>
  some b19

def F213_132_l0 (F : Nat) (t2 : Int) (s1 : Int × Int × (List (List UInt8))) (s9 : Int) : Option (Stp (Int) (Int)) :=
  (if (decide (s9 < t2)) then 
  ((at? s1.2.2 s9).bind fun x14 =>
  (at? s1.2.2 (wrapA .i64 (s9 - 1))).bind fun x16 =>
  (F132 F x14 x16).bind fun r18 =>
  some (!(decide (r18 < 0))))
   else some false).bind fun y23 =>
  if y23 then
  (some (.more ((wrapA .i64 (s9 + 1)))))
  else
  some (.stop s9)
def F213_132_l1 (F : Nat)  (s47 : Int × (List (List UInt8))) : Option (Stp (Int × (List (List UInt8))) ((List (List UInt8)))) :=
  if (decide (s47.1 ≥ 1)) then
  ((at? s47.2 s47.1).bind fun x53 =>
  (at? s47.2 (wrapA .i64 (s47.1 - 1))).bind fun x55 =>
  (F132 F x53 x55).bind fun r57 =>
  if (!(decide (r57 < 0))) then
  (some (.stop s47.2))
  else
  (at? s47.2 (wrapA .i64 (s47.1 - 1))).bind fun x62 =>
  (at? s47.2 s47.1).bind fun x64 =>
  (ck s47.2 s47.1).bind fun u66 =>
  (ck ((s47.2.set ((Int.toNat s47.1)) x62)) (wrapA .i64 (s47.1 - 1))).bind fun u70 =>
  some (.more (((wrapA .i64 (s47.1 - 1)), (((s47.2.set ((Int.toNat s47.1)) x62)).set ((Int.toNat (wrapA .i64 (s47.1 - 1)))) x64)))))
  else
  some (.stop s47.2)
def F213_132_l2 (F : Nat) (t2 : Int) (s84 : Int × (List (List UInt8))) : Option (Stp (Int × (List (List UInt8))) ((List (List UInt8)))) :=
  if (decide (s84.1 < t2)) then
  ((at? s84.2 s84.1).bind fun x90 =>
  (at? s84.2 (wrapA .i64 (s84.1 - 1))).bind fun x92 =>
  (F132 F x90 x92).bind fun r94 =>
  if (!(decide (r94 < 0))) then
  (some (.stop s84.2))
  else
  (at? s84.2 (wrapA .i64 (s84.1 - 1))).bind fun x99 =>
  (at? s84.2 s84.1).bind fun x101 =>
  (ck s84.2 s84.1).bind fun u103 =>
  (ck ((s84.2.set ((Int.toNat s84.1)) x99)) (wrapA .i64 (s84.1 - 1))).bind fun u107 =>
  some (.more (((wrapA .i64 (s84.1 + 1)), (((s84.2.set ((Int.toNat s84.1)) x99)).set ((Int.toNat (wrapA .i64 (s84.1 - 1)))) x101)))))
  else
  some (.stop s84.2)
def F213_132_l3 (F : Nat) (t1 : Int) (t2 : Int) (s1 : Int × Int × (List (List UInt8))) : Option (Stp (Int × Int × (List (List UInt8))) ((List (List UInt8)) ⊕ (Bool × (List (List UInt8))))) :=
  if (decide (s1.2.1 < 5)) then
  ((iter (F213_132_l0 F t2 s1) F s1.1).bind fun b28 =>
  if (b28 == t2) then
  (some (.stop ((.inr (true, s1.2.2)))))
  else
  if (decide ((wrapA .i64 (t2 - t1)) < 50)) then
  (some (.stop ((.inr (false, s1.2.2)))))
  else
  (at? s1.2.2 (wrapA .i64 (b28 - 1))).bind fun x34 =>
  (at? s1.2.2 b28).bind fun x36 =>
  (ck s1.2.2 b28).bind fun u38 =>
  (ck ((s1.2.2.set ((Int.toNat b28)) x34)) (wrapA .i64 (b28 - 1))).bind fun u42 =>
  (show Option ((List (List UInt8))) from (if (decide ((wrapA .i64 (b28 - t1)) ≥ 2)) then
  ((iter (F213_132_l1 F) F ((wrapA .i64 (b28 - 1)), (((s1.2.2.set ((Int.toNat b28)) x34)).set ((Int.toNat (wrapA .i64 (b28 - 1)))) x36))).bind fun b74 =>
  some b74)
  else
  some ((((s1.2.2.set ((Int.toNat b28)) x34)).set ((Int.toNat (wrapA .i64 (b28 - 1)))) x36)))).bind fun b78 =>
  if (decide ((wrapA .i64 (t2 - b28)) ≥ 2)) then
  ((iter (F213_132_l2 F t2) F ((wrapA .i64 (b28 + 1)), b78)).bind fun b111 =>
  some (.more ((b28, (wrapA .i64 (s1.2.1 + 1)), b111))))
  else
  some (.more ((b28, (wrapA .i64 (s1.2.1 + 1)), b78))))
  else
  some (.stop ((.inl s1.2.2)))
def F213_132 (F : Nat) (t0 : List (List UInt8)) (t1 : Int) (t2 : Int) : Option (Bool × (List (List UInt8))) :=
  (iter (F213_132_l3 F t1 t2) F ((wrapA .i64 (t1 + 1)), 0, t0)).bind fun b115 =>
  match b115 with
  | .inl b117 => (some ((false, b117)))
  | .inr b117 => (some ((b117.1, b117.2)))

def F214_132_l0 (F : Nat) (t1 : Int) (s13 : Int × Int × (List (List UInt8))) (s18 : Int) : Option (Stp (Int) (Int)) :=
  (if (decide (s18 ≤ s13.2.1)) then 
  ((at? s13.2.2 t1).bind fun x23 =>
  (at? s13.2.2 s18).bind fun x25 =>
  (F132 F x23 x25).bind fun r27 =>
  some (!(decide (r27 < 0))))
   else some false).bind fun y32 =>
  if y32 then
  (some (.more ((wrapA .i64 (s18 + 1)))))
  else
  some (.stop s18)
def F214_132_l1 (F : Nat) (t1 : Int) (s13 : Int × Int × (List (List UInt8))) (b37 : Int) (s41 : Int) : Option (Stp (Int) (Int)) :=
  (if (decide (b37 ≤ s41)) then 
  ((at? s13.2.2 t1).bind fun x46 =>
  (at? s13.2.2 s41).bind fun x48 =>
  (F132 F x46 x48).bind fun r50 =>
  some (decide (r50 < 0)))
   else some false).bind fun y55 =>
  if y55 then
  (some (.more ((wrapA .i64 (s41 - 1)))))
  else
  some (.stop s41)
def F214_132_l2 (F : Nat) (t1 : Int) (s13 : Int × Int × (List (List UInt8))) : Option (Stp (Int × Int × (List (List UInt8))) (Int × (List (List UInt8)))) :=
  (iter (F214_132_l0 F t1 s13) F s13.1).bind fun b37 =>
  (iter (F214_132_l1 F t1 s13 b37) F s13.2.1).bind fun b60 =>
  if (decide (b37 > b60)) then
  (some (.stop ((b37, s13.2.2))))
  else
  (at? s13.2.2 b60).bind fun x65 =>
  (at? s13.2.2 b37).bind fun x67 =>
  (ck s13.2.2 b37).bind fun u69 =>
  (ck ((s13.2.2.set ((Int.toNat b37)) x65)) b60).bind fun u73 =>
  some (.more (((wrapA .i64 (b37 + 1)), (wrapA .i64 (b60 - 1)), (((s13.2.2.set ((Int.toNat b37)) x65)).set ((Int.toNat b60)) x67))))
def F214_132 (F : Nat) (t0 : List (List UInt8)) (t1 : Int) (t2 : Int) (t3 : Int) : Option (Int × (List (List UInt8))) :=
  (at? t0 t3).bind fun x1 =>
  (at? t0 t1).bind fun x3 =>
  (ck t0 t1).bind fun u5 =>
  (ck ((t0.set ((Int.toNat t1)) x1)) t3).bind fun u9 =>
  (iter (F214_132_l2 F t1) F ((wrapA .i64 (t1 + 1)), (wrapA .i64 (t2 - 1)), (((t0.set ((Int.toNat t1)) x1)).set ((Int.toNat t3)) x3))).bind fun b77 =>
  some ((b77.1, b77.2))

def F215_132_l0 (F : Nat) (t0 : List (List UInt8)) (t1 : Int) (t2 : Int) (t3 : Int) (x1 : List UInt8) (x3 : List UInt8) (s13 : Int) : Option (Stp (Int) (Int)) :=
  (if (decide (s13 ≤ (wrapA .i64 (t2 - 1)))) then 
  ((at? ((((t0.set ((Int.toNat t1)) x1)).set ((Int.toNat t3)) x3)) s13).bind fun x18 =>
  (at? ((((t0.set ((Int.toNat t1)) x1)).set ((Int.toNat t3)) x3)) t1).bind fun x20 =>
  (F132 F x18 x20).bind fun r22 =>
  some (decide (r22 < 0)))
   else some false).bind fun y27 =>
  if y27 then
  (some (.more ((wrapA .i64 (s13 + 1)))))
  else
  some (.stop s13)
def F215_132_l1 (F : Nat) (t0 : List (List UInt8)) (t1 : Int) (t3 : Int) (x1 : List UInt8) (x3 : List UInt8) (b32 : Int) (s36 : Int) : Option (Stp (Int) (Int)) :=
  (if (decide (b32 ≤ s36)) then 
  ((at? ((((t0.set ((Int.toNat t1)) x1)).set ((Int.toNat t3)) x3)) s36).bind fun x41 =>
  (at? ((((t0.set ((Int.toNat t1)) x1)).set ((Int.toNat t3)) x3)) t1).bind fun x43 =>
  (F132 F x41 x43).bind fun r45 =>
  some (!(decide (r45 < 0))))
   else some false).bind fun y50 =>
  if y50 then
  (some (.more ((wrapA .i64 (s36 - 1)))))
  else
  some (.stop s36)
def F215_132_l2 (F : Nat) (t1 : Int) (s84 : Int × Int × (List (List UInt8))) (s89 : Int) : Option (Stp (Int) (Int)) :=
  (if (decide (s89 ≤ s84.2.1)) then 
  ((at? s84.2.2 s89).bind fun x94 =>
  (at? s84.2.2 t1).bind fun x96 =>
  (F132 F x94 x96).bind fun r98 =>
  some (decide (r98 < 0)))
   else some false).bind fun y103 =>
  if y103 then
  (some (.more ((wrapA .i64 (s89 + 1)))))
  else
  some (.stop s89)
def F215_132_l3 (F : Nat) (t1 : Int) (s84 : Int × Int × (List (List UInt8))) (b108 : Int) (s112 : Int) : Option (Stp (Int) (Int)) :=
  (if (decide (b108 ≤ s112)) then 
  ((at? s84.2.2 s112).bind fun x117 =>
  (at? s84.2.2 t1).bind fun x119 =>
  (F132 F x117 x119).bind fun r121 =>
  some (!(decide (r121 < 0))))
   else some false).bind fun y126 =>
  if y126 then
  (some (.more ((wrapA .i64 (s112 - 1)))))
  else
  some (.stop s112)
def F215_132_l4 (F : Nat) (t1 : Int) (s84 : Int × Int × (List (List UInt8))) : Option (Stp (Int × Int × (List (List UInt8))) (Int × (List (List UInt8)))) :=
  (iter (F215_132_l2 F t1 s84) F s84.1).bind fun b108 =>
  (iter (F215_132_l3 F t1 s84 b108) F s84.2.1).bind fun b131 =>
  if (decide (b108 > b131)) then
  (some (.stop ((b131, s84.2.2))))
  else
  (at? s84.2.2 b131).bind fun x136 =>
  (at? s84.2.2 b108).bind fun x138 =>
  (ck s84.2.2 b108).bind fun u140 =>
  (ck ((s84.2.2.set ((Int.toNat b108)) x136)) b131).bind fun u144 =>
  some (.more (((wrapA .i64 (b108 + 1)), (wrapA .i64 (b131 - 1)), (((s84.2.2.set ((Int.toNat b108)) x136)).set ((Int.toNat b131)) x138))))
def F215_132 (F : Nat) (t0 : List (List UInt8)) (t1 : Int) (t2 : Int) (t3 : Int) : Option (Int × Bool × (List (List UInt8))) :=
  (at? t0 t3).bind fun x1 =>
  (at? t0 t1).bind fun x3 =>
  (ck t0 t1).bind fun u5 =>
  (ck ((t0.set ((Int.toNat t1)) x1)) t3).bind fun u9 =>
  (iter (F215_132_l0 F t0 t1 t2 t3 x1 x3) F (wrapA .i64 (t1 + 1))).bind fun b32 =>
  (iter (F215_132_l1 F t0 t1 t3 x1 x3 b32) F (wrapA .i64 (t2 - 1))).bind fun b55 =>
  if (decide (b32 > b55)) then
  ((at? ((((t0.set ((Int.toNat t1)) x1)).set ((Int.toNat t3)) x3)) t1).bind fun x60 =>
  (at? ((((t0.set ((Int.toNat t1)) x1)).set ((Int.toNat t3)) x3)) b55).bind fun x62 =>
  (ck ((((t0.set ((Int.toNat t1)) x1)).set ((Int.toNat t3)) x3)) b55).bind fun u64 =>
  (ck ((((((t0.set ((Int.toNat t1)) x1)).set ((Int.toNat t3)) x3)).set ((Int.toNat b55)) x60)) t1).bind fun u68 =>
  some ((b55, true, (((((((t0.set ((Int.toNat t1)) x1)).set ((Int.toNat t3)) x3)).set ((Int.toNat b55)) x60)).set ((Int.toNat t1)) x62))))
  else
  (at? ((((t0.set ((Int.toNat t1)) x1)).set ((Int.toNat t3)) x3)) b55).bind fun x72 =>
  (at? ((((t0.set ((Int.toNat t1)) x1)).set ((Int.toNat t3)) x3)) b32).bind fun x74 =>
  (ck ((((t0.set ((Int.toNat t1)) x1)).set ((Int.toNat t3)) x3)) b32).bind fun u76 =>
  (ck ((((((t0.set ((Int.toNat t1)) x1)).set ((Int.toNat t3)) x3)).set ((Int.toNat b32)) x72)) b55).bind fun u80 =>
  (iter (F215_132_l4 F t1) F ((wrapA .i64 (b32 + 1)), (wrapA .i64 (b55 - 1)), (((((((t0.set ((Int.toNat t1)) x1)).set ((Int.toNat t3)) x3)).set ((Int.toNat b32)) x72)).set ((Int.toNat b55)) x74))).bind fun b148 =>
  (at? b148.2 t1).bind fun x152 =>
  (at? b148.2 b148.1).bind fun x154 =>
  (ck b148.2 b148.1).bind fun u156 =>
  (ck ((b148.2.set ((Int.toNat b148.1)) x152)) t1).bind fun u160 =>
  some ((b148.1, false, (((b148.2.set ((Int.toNat b148.1)) x152)).set ((Int.toNat t1)) x154)))

def F195_132_l0 (F : Nat) (frec : (List (List UInt8)) → Int → Int → Int → Option ((List (List UInt8)))) (s1 : Int × Int × Int × Bool × Bool × (List (List UInt8))) : Option (Stp (Int × Int × Int × Bool × Bool × (List (List UInt8))) ((List (List UInt8)))) :=
  if (decide ((wrapA .i64 (s1.2.1 - s1.1)) ≤ 12)) then
  ((F208_132 F s1.2.2.2.2.2 s1.1 s1.2.1).bind fun r7 =>
  some (.stop r7))
  else
  if (s1.2.2.1 == 0) then
  ((F209_132 F s1.2.2.2.2.2 s1.1 s1.2.1).bind fun r12 =>
  some (.stop r12))
  else
  (show Option (Int × (List (List UInt8))) from (if (!s1.2.2.2.1) then
  ((F210_132 F s1.2.2.2.2.2 s1.1 s1.2.1).bind fun r17 =>
  some (((wrapA .i64 (s1.2.2.1 - 1)), r17)))
  else
  some ((s1.2.2.1, s1.2.2.2.2.2)))).bind fun b21 =>
  (F211_132 F b21.2 s1.1 s1.2.1).bind fun r26 =>
  (show Option (Int × Int × (List (List UInt8))) from (if (r26.2 == 2) then
  ((F212_132 F b21.2 s1.1 s1.2.1).bind fun r31 =>
  some (((wrapA .i64 ((wrapA .i64 (s1.2.1 - 1)) - (wrapA .i64 (r26.1 - s1.1)))), 1, r31)))
  else
  some ((r26.1, r26.2, b21.2)))).bind fun b35 =>
  (show Option ((List (List UInt8)) ⊕ (List (List UInt8))) from (if ((s1.2.2.2.1 && s1.2.2.2.2.1) && (b35.2.1 == 1)) then
  ((F213_132 F b35.2.2 s1.1 s1.2.1).bind fun r43 =>
  if r43.1 then
  (some ((.inr r43.2)))
  else
  some ((.inl r43.2)))
  else
  some ((.inl b35.2.2)))).bind fun b48 =>
  match b48 with
  | .inl b53 => ((if (decide (s1.1 > 0)) then 
  ((at? b53 (wrapA .i64 (s1.1 - 1))).bind fun x56 =>
  (at? b53 b35.1).bind fun x58 =>
  (F132 F x56 x58).bind fun r60 =>
  some (!(decide (r60 < 0))))
   else some false).bind fun y65 =>
  if y65 then
  ((F214_132 F b53 s1.1 s1.2.1 b35.1).bind fun r70 =>
  some (.more ((r70.1, s1.2.1, b21.1, s1.2.2.2.1, s1.2.2.2.2.1, r70.2))))
  else
  (F215_132 F b53 s1.1 s1.2.1 b35.1).bind fun r74 =>
  if (decide ((wrapA .i64 (r74.1 - s1.1)) < (wrapA .i64 (s1.2.1 - r74.1)))) then
  ((frec r74.2.2 s1.1 r74.1 b21.1).bind fun r79 =>
  some (.more (((wrapA .i64 (r74.1 + 1)), s1.2.1, b21.1, (decide ((wrapA .i64 (r74.1 - s1.1)) ≥ (wrapA .i64 (Int.tdiv (wrapA .i64 (s1.2.1 - s1.1)) 8)))), r74.2.1, r79))))
  else
  (frec r74.2.2 ((wrapA .i64 (r74.1 + 1))) s1.2.1 b21.1).bind fun r83 =>
  some (.more ((s1.1, r74.1, b21.1, (decide ((wrapA .i64 (s1.2.1 - r74.1)) ≥ (wrapA .i64 (Int.tdiv (wrapA .i64 (s1.2.1 - s1.1)) 8)))), r74.2.1, r83))))
  | .inr b53 => (some (.stop b53))
def F195_132 : Nat → (List (List UInt8)) → Int → Int → Int → Option ((List (List UInt8)))
  | 0, _, _, _, _ => none
  | F + 1, t0, t1, t2, t3 =>
  let frec := F195_132 F
  (iter (F195_132_l0 F frec) F (t1, t2, t3, true, true, t0)).bind fun b89 =>
  some b89

def F161_132 (F : Nat) (t0 : List (List UInt8)) : Option ((List (List UInt8))) :=
  (F155 F ((wrapA .u64 (t0.length : Int)))).bind fun r1 =>
  (F195_132 F t0 0 ((t0.length : Int)) r1).bind fun r5 =>
  some r5

def F162 (F : Nat) (t0 : (List (List UInt8))) : Option ((List (List UInt8))) := if t0.length ≤ 1152921504606846976 then compF? (fun x p => some (x == p)) t0 else none

def F129 (F : Nat) (t0 : Int) (t1 : List (List UInt8)) : Option ((Int × (List (List UInt8)))) :=
  (F160 F t1).bind fun r5 =>
  (F161_132 F r5).bind fun r11 =>
  (F162 F r11).bind fun r15 =>
  (sub? r15 0 (minI (r15.length : Int) t0)).bind fun L22 =>
  (F160 F L22).bind fun r26 =>
  some ((t0, r26))

def F58_l0 (F : Nat) (t1 : List (List UInt8)) (s10 : Int × Int × (List (List UInt8))) : Option (Stp (Int × Int × (List (List UInt8))) ((Int × (List (List UInt8))) ⊕ (Int × Int × (List (List UInt8))))) :=
  if (decide (s10.1 < (t1.length : Int))) then
  ((at? t1 s10.1).bind fun x23 =>
  if (decide ((x23.length : Int) > 12)) then
  (some (.stop ((.inr (2, 0, [])))))
  else
  some (.more (((wrapA .i64 (s10.1 + 1)), s10.2.1, s10.2.2))))
  else
  some (.stop ((.inl (s10.2.1, s10.2.2))))
def F58 (F : Nat) (t0 : Int) (t1 : List (List UInt8)) : Option ((Int × (List (List UInt8))) × Int) :=
  if ((decide (t0 < 1)) || (decide (t0 > 30))) then
  (some (((0, []), 1)))
  else
  (iter (F58_l0 F t1) F (0, 0, [])).bind fun b28 =>
  match b28 with
  | .inl b30 => ((F129 F t0 t1).bind fun r34 =>
  some (((r34.1, r34.2), 0)))
  | .inr b30 => (some (((b30.2.1, b30.2.2), b30.1)))

def F68_l0 (F : Nat) (t0 : Int × (List (List UInt8))) (s8 : Int) : Option (Stp (Int) (Unit ⊕ Int)) :=
  if (decide (s8 < (t0.2.length : Int))) then
  ((at? t0.2 s8).bind fun x16 =>
  if (decide ((x16.length : Int) > 12)) then
  (some (.stop ((.inr 2))))
  else
  (if (decide (s8 > 0)) then 
  ((at? t0.2 (wrapA .i64 (s8 - 1))).bind fun x19 =>
  (F132 F x19 x16).bind fun r21 =>
  some (decide (r21 ≥ 0)))
   else some false).bind fun y26 =>
  if y26 then
  (some (.stop ((.inr 3))))
  else
  some (.more ((wrapA .i64 (s8 + 1)))))
  else
  some (.stop ((.inl ())))
def F68 (F : Nat) (t0 : Int × (List (List UInt8))) : Option Int :=
  if ((decide (t0.1 < 1)) || (decide (t0.1 > 30))) then
  (some 1)
  else
  if (decide ((t0.2.length : Int) > t0.1)) then
  (some 2)
  else
  (iter (F68_l0 F t0) F 0).bind fun b31 =>
  match b31 with
  | .inl b33 => (some 0)
  | .inr b33 => (some b33)

def F133 (F : Nat) (t0 : (List (List UInt8))) (t1 : Int) : Option ((List (List UInt8))) := if (t0.length == 0 && decide (0 ≤ t1) && decide (t1 ≤ 549755813888)) then some [] else none

def F69_l0 (F : Nat) (t0 : List (List (List UInt8))) (s1 : Int × Int) : Option (Stp (Int × Int) (Int)) :=
  if (decide (s1.2 < (t0.length : Int))) then
  ((at? t0 s1.2).bind fun L7 =>
  if (decide ((wrapA .i64 (s1.1 + (L7.length : Int))) < 0)) then
  (none)
  else
  some (.more (((wrapA .i64 (s1.1 + (L7.length : Int))), (wrapA .i64 (s1.2 + 1))))))
  else
  some (.stop s1.1)
def F69_l1 (F : Nat) (t0 : List (List (List UInt8))) (s22 : (List (List UInt8)) × Int) : Option (Stp ((List (List UInt8)) × Int) ((List (List UInt8)))) :=
  if (decide (s22.2 < (t0.length : Int))) then
  ((at? t0 s22.2).bind fun L32 =>
  (app? s22.1 L32).bind fun L36 =>
  some (.more ((L36, (wrapA .i64 (s22.2 + 1))))))
  else
  some (.stop s22.1)
def F69 (F : Nat) (t0 : List (List (List UInt8))) : Option ((List (List UInt8))) :=
  (iter (F69_l0 F t0) F (0, 0)).bind fun b12 =>
  (F133 F ([]) b12).bind fun r16 =>
  (iter (F69_l1 F t0) F (r16, 0)).bind fun b42 =>
  some b42

def F59 (F : Nat) (t0 : Int × (List (List UInt8))) (t1 : Int × (List (List UInt8))) : Option ((Int × (List (List UInt8))) × Int) :=
  (F68 F ((t0.1, t0.2))).bind fun r13 =>
  if (r13 != 0) then
  (some (((0, []), r13)))
  else
  (F68 F ((t1.1, t1.2))).bind fun r21 =>
  if (r21 != 0) then
  (some (((0, []), r21)))
  else
  if (t0.1 != t1.1) then
  (some (((0, []), 3)))
  else
  (F69 F ([t0.2, t1.2])).bind fun r37 =>
  (F129 F t0.1 r37).bind fun r43 =>
  some (((r43.1, r43.2), 0))

def F134_l0 (F : Nat) (t0 : List (List UInt8)) (t1 : List UInt8) (s1 : Int) : Option (Stp (Int) (Unit ⊕ Int)) :=
  if (decide (s1 < (t0.length : Int))) then
  ((at? t0 s1).bind fun x9 =>
  if (t1 == x9) then
  (some (.stop ((.inr s1))))
  else
  some (.more ((wrapA .i64 (s1 + 1)))))
  else
  some (.stop ((.inl ())))
def F134 (F : Nat) (t0 : List (List UInt8)) (t1 : List UInt8) : Option Int :=
  (iter (F134_l0 F t0 t1) F 0).bind fun b12 =>
  match b12 with
  | .inl b14 => (some ((-1)))
  | .inr b14 => (some b14)

def F70 (F : Nat) (t0 : List (List UInt8)) (t1 : List UInt8) : Option Bool :=
  (F134 F t0 t1).bind fun r1 =>
  some ((decide (r1 ≥ 0)))

def F62_l0 (F : Nat) (t0 : List UInt8) (s1 : Int × Int) : Option (Stp (Int × Int) (Int)) :=
  if (decide (s1.2 < (t0.length : Int))) then
  ((at? t0 s1.2).bind fun x7 =>
  some (.more (((Int.tmod (wrapA .u64 ((bit .xor .u64 s1.1 (wrapA .u64 (x7.toNat : Int))) * 16777619)) 4294967296), (wrapA .i64 (s1.2 + 1))))))
  else
  some (.stop s1.1)
def F62 (F : Nat) (t0 : List UInt8) : Option Int :=
  (iter (F62_l0 F t0) F (2166136261, 0)).bind fun b9 =>
  some ((wrapA .u32 (bit .xor .u64 (Int.tmod (wrapA .u64 ((bit .xor .u64 b9 (wrapA .u64 (Int.tdiv b9 32768))) * 2246822519)) 4294967296) (wrapA .u64 (Int.tdiv (Int.tmod (wrapA .u64 ((bit .xor .u64 b9 (wrapA .u64 (Int.tdiv b9 32768))) * 2246822519)) 4294967296) 8192)))))

def F131 (F : Nat) (t0 : List UInt8) (t1 : List UInt8) : Option Bool :=
  (F62 F t0).bind fun r1 =>
  (F62 F t1).bind fun r5 =>
  some (((decide (r1 < r5)) || ((r1 == r5) && (bytesLt t0 t1))))

def F66_l0 (F : Nat) (t1 : List (List UInt8)) (s1 : (List (List UInt8))) (s11 : (List UInt8) × Bool × Int) : Option (Stp ((List UInt8) × Bool × Int) ((List UInt8) × Bool)) :=
  if (decide (s11.2.2 < (t1.length : Int))) then
  ((at? t1 s11.2.2).bind fun x17 =>
  (if ((s1.length : Int) == 0) then some true else 
  ((at? s1 (wrapA .i64 ((s1.length : Int) - 1))).bind fun x19 =>
  (F131 F x19 x17).bind fun r21 =>
  some r21)
  ).bind fun y26 =>
  (if y26 then 
  ((if (!s11.2.1) then some true else 
  ((F131 F x17 s11.1).bind fun r30 =>
  some r30)
  ).bind fun y35 =>
  some y35)
   else some false).bind fun y40 =>
  if y40 then
  (some (.more ((x17, true, (wrapA .i64 (s11.2.2 + 1))))))
  else
  some (.more ((s11.1, s11.2.1, (wrapA .i64 (s11.2.2 + 1))))))
  else
  some (.stop ((s11.1, s11.2.1)))
def F66_l1 (F : Nat) (t0 : Int) (t1 : List (List UInt8)) (s1 : (List (List UInt8))) : Option (Stp ((List (List UInt8))) ((List (List UInt8)))) :=
  if (decide ((s1.length : Int) < t0)) then
  ((iter (F66_l0 F t1 s1) F ([], false, 0)).bind fun b45 =>
  if (!b45.2) then
  (some (.stop s1))
  else
  (app? s1 ([b45.1])).bind fun L54 =>
  some (.more L54))
  else
  some (.stop s1)
def F66 (F : Nat) (t0 : Int) (t1 : List (List UInt8)) : Option ((List (List UInt8))) :=
  (iter (F66_l1 F t0 t1) F []).bind fun b60 =>
  some b60

def F86_l0 (F : Nat) (t0 : List (List UInt8)) (t1 : List (List UInt8)) (s2 : Int) : Option (Stp (Int) (Unit ⊕ Bool)) :=
  if (decide (s2 < (t0.length : Int))) then
  ((at? t0 s2).bind fun x10 =>
  (at? t1 s2).bind fun x12 =>
  if (!(x10 == x12)) then
  (some (.stop ((.inr false))))
  else
  some (.more ((wrapA .i64 (s2 + 1)))))
  else
  some (.stop ((.inl ())))
def F86 (F : Nat) (t0 : List (List UInt8)) (t1 : List (List UInt8)) : Option Bool :=
  if ((t0.length : Int) != (t1.length : Int)) then
  (some false)
  else
  (iter (F86_l0 F t0 t1) F 0).bind fun b15 =>
  match b15 with
  | .inl b17 => (some true)
  | .inr b17 => (some b17)

def F67_l0 (F : Nat) (t0 : Int × (List (List UInt8))) (s8 : Int) : Option (Stp (Int) (Unit ⊕ Int)) :=
  if (decide (s8 < (t0.2.length : Int))) then
  ((at? t0.2 s8).bind fun x16 =>
  if (decide ((x16.length : Int) > 12)) then
  (some (.stop ((.inr 2))))
  else
  (if (decide (s8 > 0)) then 
  ((at? t0.2 (wrapA .i64 (s8 - 1))).bind fun x19 =>
  (F131 F x19 x16).bind fun r21 =>
  some (!r21))
   else some false).bind fun y26 =>
  if y26 then
  (some (.stop ((.inr 3))))
  else
  some (.more ((wrapA .i64 (s8 + 1)))))
  else
  some (.stop ((.inl ())))
def F67 (F : Nat) (t0 : Int × (List (List UInt8))) : Option Int :=
  if ((decide (t0.1 < 1)) || (decide (t0.1 > 30))) then
  (some 1)
  else
  if (decide ((t0.2.length : Int) > t0.1)) then
  (some 2)
  else
  (iter (F67_l0 F t0) F 0).bind fun b31 =>
  match b31 with
  | .inl b33 => (some 0)
  | .inr b33 => (some b33)

def F159 (F : Nat) (t0 : Int) (t1 : Int) : Option Int :=
  some ((wrapA .i64 (t1 - t0)))

def F169_159_l0 (F : Nat) (t1 : Int) (s7 : Int × (List Int)) : Option (Stp (Int × (List Int)) ((List Int))) :=
  (if (decide (s7.1 > t1)) then 
  ((at? s7.2 s7.1).bind fun x12 =>
  (at? s7.2 (wrapA .i64 (s7.1 - 1))).bind fun x14 =>
  (F159 F x12 x14).bind fun r16 =>
  some (decide (r16 < 0)))
   else some false).bind fun y21 =>
  if y21 then
  ((at? s7.2 (wrapA .i64 (s7.1 - 1))).bind fun x26 =>
  (at? s7.2 s7.1).bind fun x28 =>
  (ck s7.2 s7.1).bind fun u30 =>
  (ck ((s7.2.set ((Int.toNat s7.1)) x26)) (wrapA .i64 (s7.1 - 1))).bind fun u34 =>
  some (.more (((wrapA .i64 (s7.1 - 1)), (((s7.2.set ((Int.toNat s7.1)) x26)).set ((Int.toNat (wrapA .i64 (s7.1 - 1)))) x28)))))
  else
  some (.stop s7.2)
def F169_159_l1 (F : Nat) (t1 : Int) (t2 : Int) (s1 : Int × (List Int)) : Option (Stp (Int × (List Int)) ((List Int))) :=
  if (decide (s1.1 < t2)) then
  ((iter (F169_159_l0 F t1) F (s1.1, s1.2)).bind fun b38 =>
  some (.more (((wrapA .i64 (s1.1 + 1)), b38))))
  else
  some (.stop s1.2)
def F169_159 (F : Nat) (t0 : List Int) (t1 : Int) (t2 : Int) : Option ((List Int)) :=
  (iter (F169_159_l1 F t1 t2) F ((wrapA .i64 (t1 + 1)), t0)).bind fun b42 =>
  some b42

def F197_159_l0 (F : Nat) (t2 : Int) (t3 : Int) (s1 : Int × (List Int)) : Option (Stp (Int × (List Int)) ((List Int) ⊕ (List Int))) :=
  if (decide ((wrapA .i64 ((wrapA .i64 (2 * s1.1)) + 1)) ≥ t2)) then
  (some (.stop ((.inl s1.2))))
  else
  (if (decide ((wrapA .i64 ((wrapA .i64 ((wrapA .i64 (2 * s1.1)) + 1)) + 1)) < t2)) then 
  ((at? s1.2 (wrapA .i64 (t3 + (wrapA .i64 ((wrapA .i64 (2 * s1.1)) + 1))))).bind fun x9 =>
  (at? s1.2 (wrapA .i64 ((wrapA .i64 (t3 + (wrapA .i64 ((wrapA .i64 (2 * s1.1)) + 1)))) + 1))).bind fun x11 =>
  (F159 F x9 x11).bind fun r13 =>
  some (decide (r13 < 0)))
   else some false).bind fun y18 =>
  (show Option (Int) from (if y18 then
  (some ((wrapA .i64 ((wrapA .i64 ((wrapA .i64 (2 * s1.1)) + 1)) + 1))))
  else
  some ((wrapA .i64 ((wrapA .i64 (2 * s1.1)) + 1))))).bind fun b23 =>
  (at? s1.2 (wrapA .i64 (t3 + s1.1))).bind fun x28 =>
  (at? s1.2 (wrapA .i64 (t3 + b23))).bind fun x30 =>
  (F159 F x28 x30).bind fun r32 =>
  if (!(decide (r32 < 0))) then
  (some (.stop ((.inr s1.2))))
  else
  (at? s1.2 (wrapA .i64 (t3 + b23))).bind fun x37 =>
  (at? s1.2 (wrapA .i64 (t3 + s1.1))).bind fun x39 =>
  (ck s1.2 (wrapA .i64 (t3 + s1.1))).bind fun u41 =>
  (ck ((s1.2.set ((Int.toNat (wrapA .i64 (t3 + s1.1)))) x37)) (wrapA .i64 (t3 + b23))).bind fun u45 =>
  some (.more ((b23, (((s1.2.set ((Int.toNat (wrapA .i64 (t3 + s1.1)))) x37)).set ((Int.toNat (wrapA .i64 (t3 + b23)))) x39))))
def F197_159 (F : Nat) (t0 : List Int) (t1 : Int) (t2 : Int) (t3 : Int) : Option ((List Int)) :=
  (iter (F197_159_l0 F t2 t3) F (t1, t0)).bind fun b49 =>
  match b49 with
  | .inl b51 => (some b51)
  | .inr b51 => (some b51)

def F170_159_l0 (F : Nat) (t1 : Int) (t2 : Int) (s1 : Int × (List Int)) : Option (Stp (Int × (List Int)) ((List Int))) :=
  if (decide (s1.1 ≥ 0)) then
  ((F197_159 F s1.2 s1.1 ((wrapA .i64 (t2 - t1))) t1).bind fun r7 =>
  some (.more (((wrapA .i64 (s1.1 - 1)), r7))))
  else
  some (.stop s1.2)
def F170_159_l1 (F : Nat) (t1 : Int) (s15 : Int × (List Int)) : Option (Stp (Int × (List Int)) ((List Int))) :=
  if (decide (s15.1 ≥ 0)) then
  ((at? s15.2 (wrapA .i64 (t1 + s15.1))).bind fun x21 =>
  (at? s15.2 t1).bind fun x23 =>
  (ck s15.2 t1).bind fun u25 =>
  (ck ((s15.2.set ((Int.toNat t1)) x21)) (wrapA .i64 (t1 + s15.1))).bind fun u29 =>
  (F197_159 F ((((s15.2.set ((Int.toNat t1)) x21)).set ((Int.toNat (wrapA .i64 (t1 + s15.1)))) x23)) 0 s15.1 t1).bind fun r33 =>
  some (.more (((wrapA .i64 (s15.1 - 1)), r33))))
  else
  some (.stop s15.2)
def F170_159 (F : Nat) (t0 : List Int) (t1 : Int) (t2 : Int) : Option ((List Int)) :=
  (iter (F170_159_l0 F t1 t2) F ((wrapA .i64 (Int.tdiv (wrapA .i64 ((wrapA .i64 (t2 - t1)) - 1)) 2)), t0)).bind fun b11 =>
  (iter (F170_159_l1 F t1) F ((wrapA .i64 ((wrapA .i64 (t2 - t1)) - 1)), b11)).bind fun b37 =>
  some b37

def F171_159_l0 (F : Nat) (t1 : Int) (t2 : Int) (r8 : Int) (s12 : Int × (List Int) × Int) : Option (Stp (Int × (List Int) × Int) ((List Int))) :=
  if (decide (s12.1 ≤ (wrapA .i64 ((wrapA .i64 (t1 + (wrapA .i64 ((wrapA .i64 (Int.tdiv (wrapA .i64 (t2 - t1)) 4)) * 2)))) + 1)))) then
  ((F199 F s12.2.2).bind fun r19 =>
  (show Option (Int) from (if (decide ((wrapA .i64 (bit .and .u64 r19.1 (wrapA .u64 (r8 - 1)))) ≥ (wrapA .i64 (t2 - t1)))) then
  (some ((wrapA .i64 ((wrapA .i64 (bit .and .u64 r19.1 (wrapA .u64 (r8 - 1)))) - (wrapA .i64 (t2 - t1))))))
  else
  some ((wrapA .i64 (bit .and .u64 r19.1 (wrapA .u64 (r8 - 1))))))).bind fun b25 =>
  (at? s12.2.1 (wrapA .i64 (t1 + b25))).bind fun x30 =>
  (at? s12.2.1 s12.1).bind fun x32 =>
  (ck s12.2.1 s12.1).bind fun u34 =>
  (ck ((s12.2.1.set ((Int.toNat s12.1)) x30)) (wrapA .i64 (t1 + b25))).bind fun u38 =>
  some (.more (((wrapA .i64 (s12.1 + 1)), (((s12.2.1.set ((Int.toNat s12.1)) x30)).set ((Int.toNat (wrapA .i64 (t1 + b25)))) x32), r19.2))))
  else
  some (.stop s12.2.1)
def F171_159 (F : Nat) (t0 : List Int) (t1 : Int) (t2 : Int) : Option ((List Int)) :=
  if (decide ((wrapA .i64 (t2 - t1)) ≥ 8)) then
  ((F198 F ((wrapA .i64 (t2 - t1)))).bind fun r8 =>
  (iter (F171_159_l0 F t1 t2 r8) F ((wrapA .i64 ((wrapA .i64 (t1 + (wrapA .i64 ((wrapA .i64 (Int.tdiv (wrapA .i64 (t2 - t1)) 4)) * 2)))) - 1)), t0, (wrapA .u64 (wrapA .i64 (t2 - t1))))).bind fun b42 =>
  some b42)
  else
  some t0

def F216_159 (F : Nat) (t0 : List Int) (t1 : Int) (t2 : Int) (t3 : Int) : Option (Int × Int × Int) :=
  (at? t0 t2).bind fun x1 =>
  (at? t0 t1).bind fun x3 =>
  (F159 F x1 x3).bind fun r5 =>
  if (decide (r5 < 0)) then
  (some ((t2, t1, (wrapA .i64 (t3 + 1)))))
  else
  some ((t1, t2, t3))

def F201_159 (F : Nat) (t0 : List Int) (t1 : Int) (t2 : Int) (t3 : Int) (t4 : Int) : Option (Int × Int) :=
  (F216_159 F t0 t1 t2 t4).bind fun r1 =>
  (F216_159 F t0 r1.2.1 t3 r1.2.2).bind fun r6 =>
  (F216_159 F t0 r1.1 r6.1 r6.2.2).bind fun r11 =>
  some ((r11.2.1, r11.2.2))

def F200_159 (F : Nat) (t0 : List Int) (t1 : Int) (t2 : Int) : Option (Int × Int) :=
  (F201_159 F t0 ((wrapA .i64 (t1 - 1))) t1 ((wrapA .i64 (t1 + 1))) t2).bind fun r1 =>
  some ((r1.1, r1.2))

def F172_159 (F : Nat) (t0 : List Int) (t1 : Int) (t2 : Int) : Option (Int × Int) :=
  (show Option (Int × Int) from (if (decide ((wrapA .i64 (t2 - t1)) ≥ 8)) then
  (if (decide ((wrapA .i64 (t2 - t1)) ≥ 50)) then
  ((F200_159 F t0 ((wrapA .i64 (t1 + (wrapA .i64 ((wrapA .i64 (Int.tdiv (wrapA .i64 (t2 - t1)) 4)) * 1))))) 0).bind fun r8 =>
  (F200_159 F t0 ((wrapA .i64 (t1 + (wrapA .i64 ((wrapA .i64 (Int.tdiv (wrapA .i64 (t2 - t1)) 4)) * 2))))) r8.2).bind fun r13 =>
  (F200_159 F t0 ((wrapA .i64 (t1 + (wrapA .i64 ((wrapA .i64 (Int.tdiv (wrapA .i64 (t2 - t1)) 4)) * 3))))) r13.2).bind fun r18 =>
  (F201_159 F t0 r8.1 r13.1 r18.1 r18.2).bind fun r23 =>
  some ((r23.1, r23.2)))
  else
  (F201_159 F t0 ((wrapA .i64 (t1 + (wrapA .i64 ((wrapA .i64 (Int.tdiv (wrapA .i64 (t2 - t1)) 4)) * 1))))) ((wrapA .i64 (t1 + (wrapA .i64 ((wrapA .i64 (Int.tdiv (wrapA .i64 (t2 - t1)) 4)) * 2))))) ((wrapA .i64 (t1 + (wrapA .i64 ((wrapA .i64 (Int.tdiv (wrapA .i64 (t2 - t1)) 4)) * 3))))) 0).bind fun r29 =>
  some ((r29.1, r29.2)))
  else
  some (((wrapA .i64 (t1 + (wrapA .i64 ((wrapA .i64 (Int.tdiv (wrapA .i64 (t2 - t1)) 4)) * 2)))), 0)))).bind fun b34 =>
  if (b34.2 == 0) then
  (some ((b34.1, 1)))
  else
  if (b34.2 == 12) then
  (some ((b34.1, 2)))
  else
  some ((b34.1, 0))

def F173_159_l0 (F : Nat)  (s1 : Int × Int × (List Int)) : Option (Stp (Int × Int × (List Int)) ((List Int))) :=
  if (decide (s1.1 < s1.2.1)) then
  ((at? s1.2.2 s1.2.1).bind fun x7 =>
  (at? s1.2.2 s1.1).bind fun x9 =>
  (ck s1.2.2 s1.1).bind fun u11 =>
  (ck ((s1.2.2.set ((Int.toNat s1.1)) x7)) s1.2.1).bind fun u15 =>
  some (.more (((wrapA .i64 (s1.1 + 1)), (wrapA .i64 (s1.2.1 - 1)), (((s1.2.2.set ((Int.toNat s1.1)) x7)).set ((Int.toNat s1.2.1)) x9)))))
  else
  some (.stop s1.2.2)
def F173_159 (F : Nat) (t0 : List Int) (t1 : Int) (t2 : Int) : Option ((List Int)) :=
  (iter (F173_159_l0 F) F (t1, (wrapA .i64 (t2 - 1)), t0)).bind fun b19 =>
  some b19

def F174_159_l0 (F : Nat) (t2 : Int) (s1 : Int × Int × (List Int)) (s9 : Int) : Option (Stp (Int) (Int)) :=
  (if (decide (s9 < t2)) then 
  ((at? s1.2.2 s9).bind fun x14 =>
  (at? s1.2.2 (wrapA .i64 (s9 - 1))).bind fun x16 =>
  (F159 F x14 x16).bind fun r18 =>
  some (!(decide (r18 < 0))))
   else some false).bind fun y23 =>
  if y23 then
  (some (.more ((wrapA .i64 (s9 + 1)))))
  else
  some (.stop s9)
def F174_159_l1 (F : Nat)  (s47 : Int × (List Int)) : Option (Stp (Int × (List Int)) ((List Int))) :=
  if (decide (s47.1 ≥ 1)) then
  ((at? s47.2 s47.1).bind fun x53 =>
  (at? s47.2 (wrapA .i64 (s47.1 - 1))).bind fun x55 =>
  (F159 F x53 x55).bind fun r57 =>
  if (!(decide (r57 < 0))) then
  (some (.stop s47.2))
  else
  (at? s47.2 (wrapA .i64 (s47.1 - 1))).bind fun x62 =>
  (at? s47.2 s47.1).bind fun x64 =>
  (ck s47.2 s47.1).bind fun u66 =>
  (ck ((s47.2.set ((Int.toNat s47.1)) x62)) (wrapA .i64 (s47.1 - 1))).bind fun u70 =>
  some (.more (((wrapA .i64 (s47.1 - 1)), (((s47.2.set ((Int.toNat s47.1)) x62)).set ((Int.toNat (wrapA .i64 (s47.1 - 1)))) x64)))))
  else
  some (.stop s47.2)
def F174_159_l2 (F : Nat) (t2 : Int) (s84 : Int × (List Int)) : Option (Stp (Int × (List Int)) ((List Int))) :=
  if (decide (s84.1 < t2)) then
  ((at? s84.2 s84.1).bind fun x90 =>
  (at? s84.2 (wrapA .i64 (s84.1 - 1))).bind fun x92 =>
  (F159 F x90 x92).bind fun r94 =>
  if (!(decide (r94 < 0))) then
  (some (.stop s84.2))
  else
  (at? s84.2 (wrapA .i64 (s84.1 - 1))).bind fun x99 =>
  (at? s84.2 s84.1).bind fun x101 =>
  (ck s84.2 s84.1).bind fun u103 =>
  (ck ((s84.2.set ((Int.toNat s84.1)) x99)) (wrapA .i64 (s84.1 - 1))).bind fun u107 =>
  some (.more (((wrapA .i64 (s84.1 + 1)), (((s84.2.set ((Int.toNat s84.1)) x99)).set ((Int.toNat (wrapA .i64 (s84.1 - 1)))) x101)))))
  else
  some (.stop s84.2)
def F174_159_l3 (F : Nat) (t1 : Int) (t2 : Int) (s1 : Int × Int × (List Int)) : Option (Stp (Int × Int × (List Int)) ((List Int) ⊕ (Bool × (List Int)))) :=
  if (decide (s1.2.1 < 5)) then
  ((iter (F174_159_l0 F t2 s1) F s1.1).bind fun b28 =>
  if (b28 == t2) then
  (some (.stop ((.inr (true, s1.2.2)))))
  else
  if (decide ((wrapA .i64 (t2 - t1)) < 50)) then
  (some (.stop ((.inr (false, s1.2.2)))))
  else
  (at? s1.2.2 (wrapA .i64 (b28 - 1))).bind fun x34 =>
  (at? s1.2.2 b28).bind fun x36 =>
  (ck s1.2.2 b28).bind fun u38 =>
  (ck ((s1.2.2.set ((Int.toNat b28)) x34)) (wrapA .i64 (b28 - 1))).bind fun u42 =>
  (show Option ((List Int)) from (if (decide ((wrapA .i64 (b28 - t1)) ≥ 2)) then
  ((iter (F174_159_l1 F) F ((wrapA .i64 (b28 - 1)), (((s1.2.2.set ((Int.toNat b28)) x34)).set ((Int.toNat (wrapA .i64 (b28 - 1)))) x36))).bind fun b74 =>
  some b74)
  else
  some ((((s1.2.2.set ((Int.toNat b28)) x34)).set ((Int.toNat (wrapA .i64 (b28 - 1)))) x36)))).bind fun b78 =>
  if (decide ((wrapA .i64 (t2 - b28)) ≥ 2)) then
  ((iter (F174_159_l2 F t2) F ((wrapA .i64 (b28 + 1)), b78)).bind fun b111 =>
  some (.more ((b28, (wrapA .i64 (s1.2.1 + 1)), b111))))
  else
  some (.more ((b28, (wrapA .i64 (s1.2.1 + 1)), b78))))
  else
  some (.stop ((.inl s1.2.2)))
def F174_159 (F : Nat) (t0 : List Int) (t1 : Int) (t2 : Int) : Option (Bool × (List Int)) :=
  (iter (F174_159_l3 F t1 t2) F ((wrapA .i64 (t1 + 1)), 0, t0)).bind fun b115 =>
  match b115 with
  | .inl b117 => (some ((false, b117)))
  | .inr b117 => (some ((b117.1, b117.2)))

def F175_159_l0 (F : Nat) (t1 : Int) (s13 : Int × Int × (List Int)) (s18 : Int) : Option (Stp (Int) (Int)) :=
  (if (decide (s18 ≤ s13.2.1)) then 
  ((at? s13.2.2 t1).bind fun x23 =>
  (at? s13.2.2 s18).bind fun x25 =>
  (F159 F x23 x25).bind fun r27 =>
  some (!(decide (r27 < 0))))
   else some false).bind fun y32 =>
  if y32 then
  (some (.more ((wrapA .i64 (s18 + 1)))))
  else
  some (.stop s18)
def F175_159_l1 (F : Nat) (t1 : Int) (s13 : Int × Int × (List Int)) (b37 : Int) (s41 : Int) : Option (Stp (Int) (Int)) :=
  (if (decide (b37 ≤ s41)) then 
  ((at? s13.2.2 t1).bind fun x46 =>
  (at? s13.2.2 s41).bind fun x48 =>
  (F159 F x46 x48).bind fun r50 =>
  some (decide (r50 < 0)))
   else some false).bind fun y55 =>
  if y55 then
  (some (.more ((wrapA .i64 (s41 - 1)))))
  else
  some (.stop s41)
def F175_159_l2 (F : Nat) (t1 : Int) (s13 : Int × Int × (List Int)) : Option (Stp (Int × Int × (List Int)) (Int × (List Int))) :=
  (iter (F175_159_l0 F t1 s13) F s13.1).bind fun b37 =>
  (iter (F175_159_l1 F t1 s13 b37) F s13.2.1).bind fun b60 =>
  if (decide (b37 > b60)) then
  (some (.stop ((b37, s13.2.2))))
  else
  (at? s13.2.2 b60).bind fun x65 =>
  (at? s13.2.2 b37).bind fun x67 =>
  (ck s13.2.2 b37).bind fun u69 =>
  (ck ((s13.2.2.set ((Int.toNat b37)) x65)) b60).bind fun u73 =>
  some (.more (((wrapA .i64 (b37 + 1)), (wrapA .i64 (b60 - 1)), (((s13.2.2.set ((Int.toNat b37)) x65)).set ((Int.toNat b60)) x67))))
def F175_159 (F : Nat) (t0 : List Int) (t1 : Int) (t2 : Int) (t3 : Int) : Option (Int × (List Int)) :=
  (at? t0 t3).bind fun x1 =>
  (at? t0 t1).bind fun x3 =>
  (ck t0 t1).bind fun u5 =>
  (ck ((t0.set ((Int.toNat t1)) x1)) t3).bind fun u9 =>
  (iter (F175_159_l2 F t1) F ((wrapA .i64 (t1 + 1)), (wrapA .i64 (t2 - 1)), (((t0.set ((Int.toNat t1)) x1)).set ((Int.toNat t3)) x3))).bind fun b77 =>
  some ((b77.1, b77.2))

def F176_159_l0 (F : Nat) (t0 : List Int) (t1 : Int) (t2 : Int) (t3 : Int) (x1 : Int) (x3 : Int) (s13 : Int) : Option (Stp (Int) (Int)) :=
  (if (decide (s13 ≤ (wrapA .i64 (t2 - 1)))) then 
  ((at? ((((t0.set ((Int.toNat t1)) x1)).set ((Int.toNat t3)) x3)) s13).bind fun x18 =>
  (at? ((((t0.set ((Int.toNat t1)) x1)).set ((Int.toNat t3)) x3)) t1).bind fun x20 =>
  (F159 F x18 x20).bind fun r22 =>
  some (decide (r22 < 0)))
   else some false).bind fun y27 =>
  if y27 then
  (some (.more ((wrapA .i64 (s13 + 1)))))
  else
  some (.stop s13)
def F176_159_l1 (F : Nat) (t0 : List Int) (t1 : Int) (t3 : Int) (x1 : Int) (x3 : Int) (b32 : Int) (s36 : Int) : Option (Stp (Int) (Int)) :=
  (if (decide (b32 ≤ s36)) then 
  ((at? ((((t0.set ((Int.toNat t1)) x1)).set ((Int.toNat t3)) x3)) s36).bind fun x41 =>
  (at? ((((t0.set ((Int.toNat t1)) x1)).set ((Int.toNat t3)) x3)) t1).bind fun x43 =>
  (F159 F x41 x43).bind fun r45 =>
  some (!(decide (r45 < 0))))
   else some false).bind fun y50 =>
  if y50 then
  (some (.more ((wrapA .i64 (s36 - 1)))))
  else
  some (.stop s36)
def F176_159_l2 (F : Nat) (t1 : Int) (s84 : Int × Int × (List Int)) (s89 : Int) : Option (Stp (Int) (Int)) :=
  (if (decide (s89 ≤ s84.2.1)) then 
  ((at? s84.2.2 s89).bind fun x94 =>
  (at? s84.2.2 t1).bind fun x96 =>
  (F159 F x94 x96).bind fun r98 =>
  some (decide (r98 < 0)))
   else some false).bind fun y103 =>
  if y103 then
  (some (.more ((wrapA .i64 (s89 + 1)))))
  else
  some (.stop s89)
def F176_159_l3 (F : Nat) (t1 : Int) (s84 : Int × Int × (List Int)) (b108 : Int) (s112 : Int) : Option (Stp (Int) (Int)) :=
  (if (decide (b108 ≤ s112)) then 
  ((at? s84.2.2 s112).bind fun x117 =>
  (at? s84.2.2 t1).bind fun x119 =>
  (F159 F x117 x119).bind fun r121 =>
  some (!(decide (r121 < 0))))
   else some false).bind fun y126 =>
  if y126 then
  (some (.more ((wrapA .i64 (s112 - 1)))))
  else
  some (.stop s112)
def F176_159_l4 (F : Nat) (t1 : Int) (s84 : Int × Int × (List Int)) : Option (Stp (Int × Int × (List Int)) (Int × (List Int))) :=
  (iter (F176_159_l2 F t1 s84) F s84.1).bind fun b108 =>
  (iter (F176_159_l3 F t1 s84 b108) F s84.2.1).bind fun b131 =>
  if (decide (b108 > b131)) then
  (some (.stop ((b131, s84.2.2))))
  else
  (at? s84.2.2 b131).bind fun x136 =>
  (at? s84.2.2 b108).bind fun x138 =>
  (ck s84.2.2 b108).bind fun u140 =>
  (ck ((s84.2.2.set ((Int.toNat b108)) x136)) b131).bind fun u144 =>
  some (.more (((wrapA .i64 (b108 + 1)), (wrapA .i64 (b131 - 1)), (((s84.2.2.set ((Int.toNat b108)) x136)).set ((Int.toNat b131)) x138))))
def F176_159 (F : Nat) (t0 : List Int) (t1 : Int) (t2 : Int) (t3 : Int) : Option (Int × Bool × (List Int)) :=
  (at? t0 t3).bind fun x1 =>
  (at? t0 t1).bind fun x3 =>
  (ck t0 t1).bind fun u5 =>
  (ck ((t0.set ((Int.toNat t1)) x1)) t3).bind fun u9 =>
  (iter (F176_159_l0 F t0 t1 t2 t3 x1 x3) F (wrapA .i64 (t1 + 1))).bind fun b32 =>
  (iter (F176_159_l1 F t0 t1 t3 x1 x3 b32) F (wrapA .i64 (t2 - 1))).bind fun b55 =>
  if (decide (b32 > b55)) then
  ((at? ((((t0.set ((Int.toNat t1)) x1)).set ((Int.toNat t3)) x3)) t1).bind fun x60 =>
  (at? ((((t0.set ((Int.toNat t1)) x1)).set ((Int.toNat t3)) x3)) b55).bind fun x62 =>
  (ck ((((t0.set ((Int.toNat t1)) x1)).set ((Int.toNat t3)) x3)) b55).bind fun u64 =>
  (ck ((((((t0.set ((Int.toNat t1)) x1)).set ((Int.toNat t3)) x3)).set ((Int.toNat b55)) x60)) t1).bind fun u68 =>
  some ((b55, true, (((((((t0.set ((Int.toNat t1)) x1)).set ((Int.toNat t3)) x3)).set ((Int.toNat b55)) x60)).set ((Int.toNat t1)) x62))))
  else
  (at? ((((t0.set ((Int.toNat t1)) x1)).set ((Int.toNat t3)) x3)) b55).bind fun x72 =>
  (at? ((((t0.set ((Int.toNat t1)) x1)).set ((Int.toNat t3)) x3)) b32).bind fun x74 =>
  (ck ((((t0.set ((Int.toNat t1)) x1)).set ((Int.toNat t3)) x3)) b32).bind fun u76 =>
  (ck ((((((t0.set ((Int.toNat t1)) x1)).set ((Int.toNat t3)) x3)).set ((Int.toNat b32)) x72)) b55).bind fun u80 =>
  (iter (F176_159_l4 F t1) F ((wrapA .i64 (b32 + 1)), (wrapA .i64 (b55 - 1)), (((((((t0.set ((Int.toNat t1)) x1)).set ((Int.toNat t3)) x3)).set ((Int.toNat b32)) x72)).set ((Int.toNat b55)) x74))).bind fun b148 =>
  (at? b148.2 t1).bind fun x152 =>
  (at? b148.2 b148.1).bind fun x154 =>
  (ck b148.2 b148.1).bind fun u156 =>
  (ck ((b148.2.set ((Int.toNat b148.1)) x152)) t1).bind fun u160 =>
  some ((b148.1, false, (((b148.2.set ((Int.toNat b148.1)) x152)).set ((Int.toNat t1)) x154)))

def F154_159_l0 (F : Nat) (frec : (List Int) → Int → Int → Int → Option ((List Int))) (s1 : Int × Int × Int × Bool × Bool × (List Int)) : Option (Stp (Int × Int × Int × Bool × Bool × (List Int)) ((List Int))) :=
  if (decide ((wrapA .i64 (s1.2.1 - s1.1)) ≤ 12)) then
  ((F169_159 F s1.2.2.2.2.2 s1.1 s1.2.1).bind fun r7 =>
  some (.stop r7))
  else
  if (s1.2.2.1 == 0) then
  ((F170_159 F s1.2.2.2.2.2 s1.1 s1.2.1).bind fun r12 =>
  some (.stop r12))
  else
  (show Option (Int × (List Int)) from (if (!s1.2.2.2.1) then
  ((F171_159 F s1.2.2.2.2.2 s1.1 s1.2.1).bind fun r17 =>
  some (((wrapA .i64 (s1.2.2.1 - 1)), r17)))
  else
  some ((s1.2.2.1, s1.2.2.2.2.2)))).bind fun b21 =>
  (F172_159 F b21.2 s1.1 s1.2.1).bind fun r26 =>
  (show Option (Int × Int × (List Int)) from (if (r26.2 == 2) then
  ((F173_159 F b21.2 s1.1 s1.2.1).bind fun r31 =>
  some (((wrapA .i64 ((wrapA .i64 (s1.2.1 - 1)) - (wrapA .i64 (r26.1 - s1.1)))), 1, r31)))
  else
  some ((r26.1, r26.2, b21.2)))).bind fun b35 =>
  (show Option ((List Int) ⊕ (List Int)) from (if ((s1.2.2.2.1 && s1.2.2.2.2.1) && (b35.2.1 == 1)) then
  ((F174_159 F b35.2.2 s1.1 s1.2.1).bind fun r43 =>
  if r43.1 then
  (some ((.inr r43.2)))
  else
  some ((.inl r43.2)))
  else
  some ((.inl b35.2.2)))).bind fun b48 =>
  match b48 with
  | .inl b53 => ((if (decide (s1.1 > 0)) then 
  ((at? b53 (wrapA .i64 (s1.1 - 1))).bind fun x56 =>
  (at? b53 b35.1).bind fun x58 =>
  (F159 F x56 x58).bind fun r60 =>
  some (!(decide (r60 < 0))))
   else some false).bind fun y65 =>
  if y65 then
  ((F175_159 F b53 s1.1 s1.2.1 b35.1).bind fun r70 =>
  some (.more ((r70.1, s1.2.1, b21.1, s1.2.2.2.1, s1.2.2.2.2.1, r70.2))))
  else
  (F176_159 F b53 s1.1 s1.2.1 b35.1).bind fun r74 =>
  if (decide ((wrapA .i64 (r74.1 - s1.1)) < (wrapA .i64 (s1.2.1 - r74.1)))) then
  ((frec r74.2.2 s1.1 r74.1 b21.1).bind fun r79 =>
  some (.more (((wrapA .i64 (r74.1 + 1)), s1.2.1, b21.1, (decide ((wrapA .i64 (r74.1 - s1.1)) ≥ (wrapA .i64 (Int.tdiv (wrapA .i64 (s1.2.1 - s1.1)) 8)))), r74.2.1, r79))))
  else
  (frec r74.2.2 ((wrapA .i64 (r74.1 + 1))) s1.2.1 b21.1).bind fun r83 =>
  some (.more ((s1.1, r74.1, b21.1, (decide ((wrapA .i64 (s1.2.1 - r74.1)) ≥ (wrapA .i64 (Int.tdiv (wrapA .i64 (s1.2.1 - s1.1)) 8)))), r74.2.1, r83))))
  | .inr b53 => (some (.stop b53))
def F154_159 : Nat → (List Int) → Int → Int → Int → Option ((List Int))
  | 0, _, _, _, _ => none
  | F + 1, t0, t1, t2, t3 =>
  let frec := F154_159 F
  (iter (F154_159_l0 F frec) F (t1, t2, t3, true, true, t0)).bind fun b89 =>
  some b89

def F110_159 (F : Nat) (t0 : List Int) : Option ((List Int)) :=
  (F155 F ((wrapA .u64 (t0.length : Int)))).bind fun r1 =>
  (F154_159 F t0 0 ((t0.length : Int)) r1).bind fun r5 =>
  some r5

def F122_l0 (F : Nat) (t0 : List Int) (s20 : Int × Int × (List Bool)) : Option (Stp (Int × Int × (List Bool)) (Int × (List Bool))) :=
  (at? s20.2.2 s20.2.1).bind fun x25 =>
  if (!x25) then
  ((ck s20.2.2 s20.2.1).bind fun u28 =>
  (at? t0 s20.2.1).bind fun x32 =>
  some (.more (((wrapA .i64 (s20.1 + 1)), x32, (s20.2.2.set ((Int.toNat s20.2.1)) true)))))
  else
  some (.stop ((s20.1, s20.2.2)))
def F122_l1 (F : Nat) (t0 : List Int) (s10 : (List Int) × Int × (List Bool)) : Option (Stp ((List Int) × Int × (List Bool)) ((List Int))) :=
  if (decide (s10.2.1 < (t0.length : Int))) then
  ((iter (F122_l0 F t0) F (0, s10.2.1, s10.2.2)).bind fun b34 =>
  if (decide (b34.1 > 0)) then
  ((app? s10.1 ([b34.1])).bind fun L43 =>
  some (.more ((L43, (wrapA .i64 (s10.2.1 + 1)), b34.2))))
  else
  some (.more ((s10.1, (wrapA .i64 (s10.2.1 + 1)), b34.2))))
  else
  some (.stop s10.1)
def F122 (F : Nat) (t0 : List Int) : Option ((List Int) × Int) :=
  (F101 F t0).bind fun r1 =>
  if (r1 != 0) then
  (some (([], r1)))
  else
  (iter (F122_l1 F t0) F ([], 0, (List.replicate 10 false))).bind fun b49 =>
  (F110_159 F b49).bind fun r54 =>
  some ((r54, 0))

def F137_l0 (F : Nat)  (s16 : Int × Int) : Option (Stp (Int × Int) (Int)) :=
  if (decide (s16.2 > 0)) then
  ((rem? s16.1 s16.2).bind fun x22 =>
  some (.more ((s16.2, x22))))
  else
  some (.stop s16.1)
def F137_l1 (F : Nat) (r1 : (List Int) × Int) (s8 : Int × Int) : Option (Stp (Int × Int) (Int)) :=
  if (decide (s8.2 < (r1.1.length : Int))) then
  ((at? r1.1 s8.2).bind fun x14 =>
  (iter (F137_l0 F) F (s8.1, x14)).bind fun b24 =>
  (quo? .i64 s8.1 b24).bind fun x28 =>
  some (.more (((wrapA .i64 (x28 * x14)), (wrapA .i64 (s8.2 + 1))))))
  else
  some (.stop s8.1)
def F137 (F : Nat) (t0 : List Int) : Option (Int × Int) :=
  (F122 F t0).bind fun r1 =>
  if (r1.2 != 0) then
  (some ((0, r1.2)))
  else
  (iter (F137_l1 F r1) F (1, 0)).bind fun b30 =>
  some ((b30, 0))

def F196 (F : Nat) (t0 : Int × Int) : Option Int :=
  if ((((decide (((t0.1, t0.2)).2 < 1)) || (decide (((t0.1, t0.2)).2 > 1000000000))) || (decide (((t0.1, t0.2)).1 < (-1000000000)))) || (decide (((t0.1, t0.2)).1 > 1000000000))) then
  (some 1)
  else
  (F166 F (((t0.1, t0.2)).1) (((t0.1, t0.2)).2)).bind fun r9 =>
  if (r9 != 1) then
  (some 3)
  else
  some 0

def F163 (F : Nat) (t0 : Int × Int) (t1 : Int × Int) : Option Int :=
  (F196 F ((((t0.1, t0.2)).1, ((t0.1, t0.2)).2))).bind fun r9 =>
  if (r9 != 0) then
  (some r9)
  else
  (F196 F ((((t1.1, t1.2)).1, ((t1.1, t1.2)).2))).bind fun r14 =>
  some r14

def F138 (F : Nat) (t0 : Int × Int) (t1 : Int × Int) : Option ((Int × Int) × Int) :=
  (F163 F ((((t0.1, t0.2)).1, ((t0.1, t0.2)).2)) ((((t1.1, t1.2)).1, ((t1.1, t1.2)).2))).bind fun r13 =>
  if (r13 != 0) then
  (some (((((0, 0)).1, ((0, 0)).2), r13)))
  else
  (F149 F ((wrapA .i64 ((wrapA .i64 (((t0.1, t0.2)).1 * ((t1.1, t1.2)).2)) + (wrapA .i64 (((t1.1, t1.2)).1 * ((t0.1, t0.2)).2))))) ((wrapA .i64 (((t0.1, t0.2)).2 * ((t1.1, t1.2)).2)))).bind fun r20 =>
  some (((((r20.1.1, r20.1.2)).1, ((r20.1.1, r20.1.2)).2), r20.2))

def F73 (F : Nat)  : Option Bool :=
  (F137 F ([1, 2, 0])).bind fun r5 =>
  (F138 F ((1, 2)) ((1, 3))).bind fun r9 =>
  some (((((r5.2 == 0) && (r9.2 == 0)) && (r5.1 == 3)) && (((r9.1.1, r9.1.2)).1 == 5 && (((r9.1.1, r9.1.2)).2 == 6 && true))))

def F141 (F : Nat) (t0 : Int) : Option Bool :=
  some ((t0 != 0))

def F164_141_l0 (F : Nat) (t0 : List Int) (s1 : Int) : Option (Stp (Int) (Unit ⊕ Int)) :=
  if (decide (s1 < (t0.length : Int))) then
  ((at? t0 s1).bind fun x9 =>
  (F141 F x9).bind fun r11 =>
  if r11 then
  (some (.stop ((.inr s1))))
  else
  some (.more ((wrapA .i64 (s1 + 1)))))
  else
  some (.stop ((.inl ())))
def F164_141 (F : Nat) (t0 : List Int) : Option Int :=
  (iter (F164_141_l0 F t0) F 0).bind fun b16 =>
  match b16 with
  | .inl b18 => (some ((-1)))
  | .inr b18 => (some b18)

def F140_141 (F : Nat) (t0 : List Int) : Option Bool :=
  (F164_141 F t0).bind fun r1 =>
  some ((decide (r1 ≥ 0)))

def F76 (F : Nat) (t0 : List Int) : Option Bool :=
  (F140_141 F t0).bind fun r1 =>
  some ((!r1))

def F146_l0 (F : Nat) (t0 : List Int) (s3 : Int × Int) : Option (Stp (Int × Int) (Int ⊕ Int)) :=
  if (decide (s3.2 < (t0.length : Int))) then
  ((at? t0 s3.2).bind fun x11 =>
  if ((decide (x11 < 0)) || (decide (x11 > 100))) then
  (some (.stop ((.inr 1))))
  else
  some (.more (((wrapA .i64 (s3.1 + x11)), (wrapA .i64 (s3.2 + 1))))))
  else
  some (.stop ((.inl s3.1)))
def F146 (F : Nat) (t0 : List Int) : Option Int :=
  if ((decide ((t0.length : Int) < 1)) || (decide ((t0.length : Int) > 12))) then
  (some 2)
  else
  (iter (F146_l0 F t0) F (0, 0)).bind fun b15 =>
  match b15 with
  | .inl b17 => (if (b17 == 0) then
  (some 5)
  else
  some 0)
  | .inr b17 => (some b17)

def F83_l0 (F : Nat) (t0 : List Int) (s6 : Int × Int) : Option (Stp (Int × Int) (Int)) :=
  if (decide (s6.2 < (t0.length : Int))) then
  ((at? t0 s6.2).bind fun x12 =>
  some (.more (((wrapA .i64 (s6.1 + x12)), (wrapA .i64 (s6.2 + 1))))))
  else
  some (.stop s6.1)
def F83_l1 (F : Nat) (t0 : List Int) (s24 : Int × (List Int)) : Option (Stp (Int × (List Int)) ((List Int))) :=
  if (decide (s24.1 < (t0.length : Int))) then
  ((at? t0 s24.1).bind fun x30 =>
  (ck s24.2 s24.1).bind fun u32 =>
  some (.more (((wrapA .i64 (s24.1 + 1)), (s24.2.set ((Int.toNat s24.1)) ((wrapA .i64 (x30 * (t0.length : Int)))))))))
  else
  some (.stop s24.2)
def F83_l2 (F : Nat) (s52 : Int × (List Int) × (List (Int × Int)) × (List Int)) (s58 : Int × Int × Int) : Option (Stp (Int × Int × Int) (Int × Int)) :=
  if (decide (s58.2.2 < (s52.2.1.length : Int))) then
  ((at? s52.2.1 s58.2.2).bind fun x64 =>
  (at? s52.2.2.2 s58.2.2).bind fun x66 =>
  (if (x66 == 0) then 
  ((if (decide (s58.1 < 0)) then some true else 
  ((at? s52.2.1 s58.1).bind fun x68 =>
  some (decide (x64 < x68)))
  ).bind fun y71 =>
  some y71)
   else some false).bind fun y74 =>
  (show Option (Int) from (if y74 then
  (some s58.2.2)
  else
  some s58.1)).bind fun b77 =>
  (at? s52.2.2.2 s58.2.2).bind fun x82 =>
  (if (x82 == 0) then 
  ((if (decide (s58.2.1 < 0)) then some true else 
  ((at? s52.2.1 s58.2.1).bind fun x84 =>
  some (decide (x64 ≥ x84)))
  ).bind fun y87 =>
  some y87)
   else some false).bind fun y90 =>
  if y90 then
  (some (.more ((b77, s58.2.2, (wrapA .i64 (s58.2.2 + 1))))))
  else
  some (.more ((b77, s58.2.1, (wrapA .i64 (s58.2.2 + 1))))))
  else
  some (.stop ((s58.1, s58.2.1)))
def F83_l3 (F : Nat) (t0 : List Int) (b14 : Int) (s52 : Int × (List Int) × (List (Int × Int)) × (List Int)) : Option (Stp (Int × (List Int) × (List (Int × Int)) × (List Int)) ((List (Int × Int)))) :=
  if (decide (s52.1 < (t0.length : Int))) then
  ((iter (F83_l2 F s52) F ((-1), (-1), 0)).bind fun b93 =>
  (at? s52.2.1 b93.1).bind fun x97 =>
  (ck s52.2.2.1 b93.1).bind fun u99 =>
  (at? s52.2.1 b93.2).bind fun x103 =>
  (at? s52.2.1 b93.1).bind fun x105 =>
  (ck s52.2.1 b93.2).bind fun u107 =>
  if (b93.1 == b93.2) then
  ((ck ((s52.2.1.set ((Int.toNat b93.2)) ((wrapA .i64 (x103 - (wrapA .i64 (b14 - x105))))))) b93.2).bind fun u112 =>
  (ck s52.2.2.2 b93.1).bind fun u116 =>
  some (.more (((wrapA .i64 (s52.1 + 1)), (((s52.2.1.set ((Int.toNat b93.2)) ((wrapA .i64 (x103 - (wrapA .i64 (b14 - x105))))))).set ((Int.toNat b93.2)) 0), (s52.2.2.1.set ((Int.toNat b93.1)) ((x97, b93.2))), (s52.2.2.2.set ((Int.toNat b93.1)) 1)))))
  else
  (ck s52.2.2.2 b93.1).bind fun u120 =>
  some (.more (((wrapA .i64 (s52.1 + 1)), (s52.2.1.set ((Int.toNat b93.2)) ((wrapA .i64 (x103 - (wrapA .i64 (b14 - x105)))))), (s52.2.2.1.set ((Int.toNat b93.1)) ((x97, b93.2))), (s52.2.2.2.set ((Int.toNat b93.1)) 1)))))
  else
  some (.stop s52.2.2.1)
def F83 (F : Nat) (t0 : List Int) : Option ((List (Int × Int)) × Int) :=
  (F146 F t0).bind fun r1 =>
  if (r1 != 0) then
  (some (([], r1)))
  else
  (iter (F83_l0 F t0) F (0, 0)).bind fun b14 =>
  (mk? (t0.length : Int) (0 : Int)).bind fun L18 =>
  (iter (F83_l1 F t0) F (0, L18)).bind fun b36 =>
  (mk? (t0.length : Int) ((0, 0) : Int × Int)).bind fun L40 =>
  (mk? (t0.length : Int) (0 : Int)).bind fun L46 =>
  (iter (F83_l3 F t0 b14) F (0, b36, L40, L46)).bind fun b124 =>
  some ((b124, 0))

def F147_l0 (F : Nat) (t0 : List Int) (s2 : Int) : Option (Stp (Int) (Unit ⊕ Int)) :=
  if (decide (s2 < (t0.length : Int))) then
  ((at? t0 s2).bind fun x10 =>
  if (decide (x10 > 1)) then
  (some (.stop ((.inr 3))))
  else
  some (.more ((wrapA .i64 (s2 + 1)))))
  else
  some (.stop ((.inl ())))
def F147 (F : Nat) (t0 : List Int) : Option Int :=
  if (decide ((t0.length : Int) > 200)) then
  (some 2)
  else
  (iter (F147_l0 F t0) F 0).bind fun b13 =>
  match b13 with
  | .inl b15 => (some 0)
  | .inr b15 => (some b15)

def F165_l0 (F : Nat) (t0 : Int) (s3 : Int) : Option (Stp (Int) (Int)) :=
  (shl? .i64 1 s3).bind fun x8 =>
  if (decide (x8 < t0)) then
  (some (.more ((wrapA .i64 (s3 + 1)))))
  else
  some (.stop s3)
def F165 (F : Nat) (t0 : Int) : Option (Int × Int) :=
  if ((decide (t0 < 1)) || (decide (t0 > 1024))) then
  (some ((0, 1)))
  else
  (iter (F165_l0 F t0) F 0).bind fun b11 =>
  some ((b11, 0))

def F148_l0 (F : Nat) (L19 : List Int) (s23 : Int × Int) : Option (Stp (Int × Int) (Int)) :=
  if (decide (s23.2 < (L19.length : Int))) then
  ((at? L19 s23.2).bind fun x29 =>
  some (.more (((wrapA .i64 ((wrapA .i64 (2 * s23.1)) + (wrapA .i64 x29))), (wrapA .i64 (s23.2 + 1))))))
  else
  some (.stop s23.1)
def F148_l1 (F : Nat) (t0 : List Int) (t1 : Int) (r6 : Int × Int) (s11 : Int) : Option (Stp (Int) (Unit ⊕ (Int × Int × Int))) :=
  if (decide ((wrapA .i64 (s11 + r6.1)) ≤ (t0.length : Int))) then
  ((sub? t0 s11 (wrapA .i64 (s11 + r6.1))).bind fun L19 =>
  (iter (F148_l0 F L19) F (0, 0)).bind fun b31 =>
  if (decide (b31 < t1)) then
  (some (.stop ((.inr (b31, (wrapA .i64 (s11 + r6.1)), 0)))))
  else
  some (.more ((wrapA .i64 (s11 + r6.1)))))
  else
  some (.stop ((.inl ())))
def F148 (F : Nat) (t0 : List Int) (t1 : Int) : Option (Int × Int × Int) :=
  (F147 F t0).bind fun r1 =>
  if (r1 != 0) then
  (some ((0, 0, r1)))
  else
  (F165 F t1).bind fun r6 =>
  if (r6.2 != 0) then
  (some ((0, 0, r6.2)))
  else
  (iter (F148_l1 F t0 t1 r6) F 0).bind fun b36 =>
  match b36 with
  | .inl b38 => (some ((0, 0, 6)))
  | .inr b38 => (some ((b38.1, b38.2.1, b38.2.2)))

def F84_l0 (F : Nat) (t0 : List Int) (t1 : List Int) (s7 : (List Int) × Int × Int) : Option (Stp ((List Int) × Int × Int) (((List Int) × Int) ⊕ ((List Int) × Int × Int))) :=
  if (decide (s7.2.2 < (t1.length : Int))) then
  ((at? t1 s7.2.2).bind fun x20 =>
  (sub? t0 s7.2.1 t0.length).bind fun L22 =>
  (F148 F L22 x20).bind fun r26 =>
  if (r26.2.2 != 0) then
  (some (.stop ((.inr ([], 0, r26.2.2)))))
  else
  (app? s7.1 ([r26.1])).bind fun L35 =>
  some (.more ((L35, (wrapA .i64 (s7.2.1 + r26.2.1)), (wrapA .i64 (s7.2.2 + 1))))))
  else
  some (.stop ((.inl (s7.1, s7.2.1))))
def F84 (F : Nat) (t0 : List Int) (t1 : List Int) : Option ((List Int) × Int × Int) :=
  (F147 F t0).bind fun r1 =>
  if (r1 != 0) then
  (some (([], 0, r1)))
  else
  if (decide ((t1.length : Int) > 30)) then
  (some (([], 0, 2)))
  else
  (iter (F84_l0 F t0 t1) F ([], 0, 0)).bind fun b41 =>
  match b41 with
  | .inl b43 => (some ((b43.1, b43.2, 0)))
  | .inr b43 => (some ((b43.1, b43.2.1, b43.2.2)))

def F85 (F : Nat) (t0 : List (Int × Int)) (t1 : Int) (t2 : Int) : Option (Int × Int) :=
  if ((decide ((t0.length : Int) < 1)) || (decide ((t0.length : Int) > 12))) then
  (some ((0, 2)))
  else
  if ((decide (t1 < 0)) || (decide (t1 ≥ (t0.length : Int)))) then
  (some ((0, 1)))
  else
  (at? t0 t1).bind fun x5 =>
  if (decide (t2 < x5.1)) then
  (some ((t1, 0)))
  else
  (at? t0 t1).bind fun x8 =>
  some ((x8.2, 0))

def F11_l0 (F : Nat) (L1 : List Int) (s5 : (List Int) × Int) : Option (Stp ((List Int) × Int) ((List Int))) :=
  if (decide (s5.2 < (L1.length : Int))) then
  ((at? L1 s5.2).bind fun x15 =>
  (app? s5.1 ([(Int.tmod x15 2)])).bind fun L21 =>
  some (.more ((L21, (wrapA .i64 (s5.2 + 1))))))
  else
  some (.stop s5.1)
def F11_l1 (F : Nat) (t1 : List Int) (s51 : Int × Int) : Option (Stp (Int × Int) (Int)) :=
  if (decide (s51.2 < (t1.length : Int))) then
  ((at? t1 s51.2).bind fun x57 =>
  some (.more (((wrapA .i64 (s51.1 + x57)), (wrapA .i64 (s51.2 + 1))))))
  else
  some (.stop s51.1)
def F11_l2 (F : Nat) (t1 : List Int) (t2 : List (List UInt8)) (r32 : (List (Int × Int)) × Int) (b59 : Int) (s63 : (List Int) × (List (List UInt8)) × (List (List UInt8)) × (List (List UInt8)) × Int) : Option (Stp ((List Int) × (List (List UInt8)) × (List (List UInt8)) × (List (List UInt8)) × Int) (((List (List UInt8)) × (List (List UInt8)) × (List (List UInt8))) ⊕ Bool)) :=
  (F84 F s63.1 ([(t1.length : Int), (minI b59 1024)])).bind fun r89 =>
  if ((((r89.2.2 != 0) || ((r89.1.length : Int) != 2)) || (decide (r89.2.1 < 1))) || (decide (r89.2.1 > (s63.1.length : Int)))) then
  (some (.stop ((.inl (s63.2.1, s63.2.2.1, s63.2.2.2.1)))))
  else
  (sub? s63.1 r89.2.1 s63.1.length).bind fun L99 =>
  (at? r89.1 0).bind fun x103 =>
  (at? r89.1 1).bind fun x105 =>
  (F85 F r32.1 x103 x105).bind fun r107 =>
  (if (((r107.2 != 0) || (decide (r107.1 < 0))) || (decide (r107.1 ≥ (t1.length : Int)))) then some true else 
  ((at? t1 r107.1).bind fun x113 =>
  some (x113 == 0))
  ).bind fun y116 =>
  if y116 then
  (some (.stop ((.inr false))))
  else
  (if (decide (r107.1 < (t2.length : Int))) then 
  ((at? t2 r107.1).bind fun x119 =>
  some (decide ((x119.length : Int) ≤ 12)))
   else some false).bind fun y122 =>
  if y122 then
  ((at? t2 r107.1).bind fun x125 =>
  (app? s63.2.1 ([x125])).bind fun L131 =>
  if ((Int.tmod s63.2.2.2.2 2) == 0) then
  ((at? t2 r107.1).bind fun x138 =>
  (app? s63.2.2.2.1 ([x138])).bind fun L144 =>
  some (.more ((L99, L131, s63.2.2.1, L144, (wrapA .i64 (s63.2.2.2.2 + 1))))))
  else
  (at? t2 r107.1).bind fun x150 =>
  (app? s63.2.2.1 ([x150])).bind fun L156 =>
  some (.more ((L99, L131, L156, s63.2.2.2.1, (wrapA .i64 (s63.2.2.2.2 + 1))))))
  else
  some (.more ((L99, s63.2.1, s63.2.2.1, s63.2.2.2.1, (wrapA .i64 (s63.2.2.2.2 + 1)))))
def F11 (F : Nat) (t0 : List Int) (t1 : List Int) (t2 : List (List UInt8)) : Option Bool :=
  (sub? t0 0 (minI (t0.length : Int) 200)).bind fun L1 =>
  (iter (F11_l0 F L1) F ([], 0)).bind fun b27 =>
  (F83 F t1).bind fun r32 =>
  (F73 F).bind fun r38 =>
  if (((!r38) || (r32.2 != 0)) || ((r32.1.length : Int) != (t1.length : Int))) then
  ((F73 F).bind fun r45 =>
  some (((r45 && (r32.2 != 0)) && ((r32.1.length : Int) == 0))))
  else
  (iter (F11_l1 F t1) F (0, 0)).bind fun b59 =>
  (iter (F11_l2 F t1 t2 r32 b59) F (b27, [], [], [], 0)).bind fun b162 =>
  match b162 with
  | .inl b164 => ((F58 F 4 b164.1).bind fun r170 =>
  (F58 F 4 b164.2.2).bind fun r183 =>
  (F58 F 4 b164.2.1).bind fun r196 =>
  (F59 F ((r183.1.1, r183.1.2)) ((r196.1.1, r196.1.2))).bind fun r209 =>
  (F76 F ([r170.2, r183.2, r196.2, r209.2])).bind fun r226 =>
  (if r226 then 
  ((F86 F r170.1.2 r209.1.2).bind fun r230 =>
  some r230)
   else some false).bind fun y235 =>
  some y235)
  | .inr b164 => (some b164)

end Go.Proofs.Ytihmliblbhjlaaa
