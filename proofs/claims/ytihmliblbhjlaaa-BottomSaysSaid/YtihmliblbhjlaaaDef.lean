/- Functional texts of the functions: printed by a program of ours (gen.py). -/
import Derived.Test.YtihmliblbhjlaaaDenJ
set_option linter.unusedVariables false
namespace Go.Proofs.Ytihmliblbhjlaaa
open Go.Am
abbrev Y3 : Lay Int := Lay.one (SV.int .i64)
abbrev Y26 : Lay (Int × Int) := Lay.flat 2 (fun a => [.int .i64 a.1, .int .i64 a.2]) fun _ => rfl
abbrev Y115 : Lay (Int × Int × Bool × Bool) := Lay.flat 4 (fun a => [.int .i64 a.1, .int .i64 a.2.1, .bool a.2.2.1, .bool a.2.2.2]) fun _ => rfl
abbrev Y119 : Lay (Int × Int × Int) := Lay.flat 3 (fun a => [.int .i64 a.1, .int .i64 a.2.1, .int .i64 a.2.2]) fun _ => rfl
abbrev Y117 : Lay ((Int × Int × Bool × Bool) × Int) := Lay.flat 5 (fun a => [.int .i64 a.1.1, .int .i64 a.1.2.1, .bool a.1.2.2.1, .bool a.1.2.2.2, .int .i64 a.2]) fun _ => rfl
abbrev Y22 : Lay (List Int) := Lay.sl Y3
abbrev Y130 : Lay (List Bool) := Lay.arr 10 SV.bool
abbrev Y201 : Lay Int := Lay.one (SV.int .u64)
abbrev Y134 : Lay (List Int) := Lay.arr 41 (SV.int .i64)
abbrev Y9 : Lay (List UInt8) := Lay.one SV.str
abbrev Y5 : Lay Int := Lay.one (SV.int .u8)
abbrev Y78 : Lay (List (List UInt8)) := Lay.sl Y9
abbrev Y27 : Lay Int := Lay.one (SV.int .i64)
abbrev Y4 : Lay Bool := Lay.one SV.bool
abbrev Y167 : Lay (Int × Int) := Lay.flat 2 (fun a => [.int .i64 a.1, .int .i64 a.2]) fun _ => rfl

def F177 (F : Nat) (t0 : Int) : Option Int :=
  (show Option (Int × Int) from (if (decide (t0 ≥ 65536)) then
  ((shr? .u32 t0 16).bind fun x2 =>
  some ((x2, 16)))
  else
  some ((t0, 0)))).bind fun b4 =>
  if (decide (b4.1 ≥ 256)) then
  ((shr? .u32 b4.1 8).bind fun x10 =>
  (at? ([0, 1, 2, 2, 3, 3, 3, 3, 4, 4, 4, 4, 4, 4, 4, 4, 5, 5, 5, 5, 5, 5, 5, 5, 5, 5, 5, 5, 5, 5, 5, 5, 6, 6, 6, 6, 6, 6, 6, 6, 6, 6, 6, 6, 6, 6, 6, 6, 6, 6, 6, 6, 6, 6, 6, 6, 6, 6, 6, 6, 6, 6, 6, 6, 7, 7, 7, 7, 7, 7, 7, 7, 7, 7, 7, 7, 7, 7, 7, 7, 7, 7, 7, 7, 7, 7, 7, 7, 7, 7, 7, 7, 7, 7, 7, 7, 7, 7, 7, 7, 7, 7, 7, 7, 7, 7, 7, 7, 7, 7, 7, 7, 7, 7, 7, 7, 7, 7, 7, 7, 7, 7, 7, 7, 7, 7, 7, 7, 8, 8, 8, 8, 8, 8, 8, 8, 8, 8, 8, 8, 8, 8, 8, 8, 8, 8, 8, 8, 8, 8, 8, 8, 8, 8, 8, 8, 8, 8, 8, 8, 8, 8, 8, 8, 8, 8, 8, 8, 8, 8, 8, 8, 8, 8, 8, 8, 8, 8, 8, 8, 8, 8, 8, 8, 8, 8, 8, 8, 8, 8, 8, 8, 8, 8, 8, 8, 8, 8, 8, 8, 8, 8, 8, 8, 8, 8, 8, 8, 8, 8, 8, 8, 8, 8, 8, 8, 8, 8, 8, 8, 8, 8, 8, 8, 8, 8, 8, 8, 8, 8, 8, 8, 8, 8, 8, 8, 8, 8, 8, 8, 8, 8, 8, 8, 8, 8, 8, 8, 8, 8, 8, 8, 8, 8, 8, 8] : List UInt8) (wrapA .u8 x10)).bind fun x12 =>
  some ((wrapA .i64 ((wrapA .i64 (b4.2 + 8)) + (wrapA .i64 (x12.toNat : Int))))))
  else
  (at? ([0, 1, 2, 2, 3, 3, 3, 3, 4, 4, 4, 4, 4, 4, 4, 4, 5, 5, 5, 5, 5, 5, 5, 5, 5, 5, 5, 5, 5, 5, 5, 5, 6, 6, 6, 6, 6, 6, 6, 6, 6, 6, 6, 6, 6, 6, 6, 6, 6, 6, 6, 6, 6, 6, 6, 6, 6, 6, 6, 6, 6, 6, 6, 6, 7, 7, 7, 7, 7, 7, 7, 7, 7, 7, 7, 7, 7, 7, 7, 7, 7, 7, 7, 7, 7, 7, 7, 7, 7, 7, 7, 7, 7, 7, 7, 7, 7, 7, 7, 7, 7, 7, 7, 7, 7, 7, 7, 7, 7, 7, 7, 7, 7, 7, 7, 7, 7, 7, 7, 7, 7, 7, 7, 7, 7, 7, 7, 7, 8, 8, 8, 8, 8, 8, 8, 8, 8, 8, 8, 8, 8, 8, 8, 8, 8, 8, 8, 8, 8, 8, 8, 8, 8, 8, 8, 8, 8, 8, 8, 8, 8, 8, 8, 8, 8, 8, 8, 8, 8, 8, 8, 8, 8, 8, 8, 8, 8, 8, 8, 8, 8, 8, 8, 8, 8, 8, 8, 8, 8, 8, 8, 8, 8, 8, 8, 8, 8, 8, 8, 8, 8, 8, 8, 8, 8, 8, 8, 8, 8, 8, 8, 8, 8, 8, 8, 8, 8, 8, 8, 8, 8, 8, 8, 8, 8, 8, 8, 8, 8, 8, 8, 8, 8, 8, 8, 8, 8, 8, 8, 8, 8, 8, 8, 8, 8, 8, 8, 8, 8, 8, 8, 8, 8, 8, 8, 8] : List UInt8) (wrapA .u8 b4.1)).bind fun x14 =>
  some ((wrapA .i64 (b4.2 + (wrapA .i64 (x14.toNat : Int)))))

def F178 (F : Nat) (t0 : Int) : Option Int :=
  (show Option (Int × Int) from (if (decide (t0 ≥ 4294967296)) then
  ((shr? .u64 t0 32).bind fun x2 =>
  some ((x2, 32)))
  else
  some ((t0, 0)))).bind fun b4 =>
  (show Option (Int × Int) from (if (decide (b4.1 ≥ 65536)) then
  ((shr? .u64 b4.1 16).bind fun x10 =>
  some ((x10, (wrapA .i64 (b4.2 + 16)))))
  else
  some ((b4.1, b4.2)))).bind fun b12 =>
  if (decide (b12.1 ≥ 256)) then
  ((shr? .u64 b12.1 8).bind fun x18 =>
  (at? ([0, 1, 2, 2, 3, 3, 3, 3, 4, 4, 4, 4, 4, 4, 4, 4, 5, 5, 5, 5, 5, 5, 5, 5, 5, 5, 5, 5, 5, 5, 5, 5, 6, 6, 6, 6, 6, 6, 6, 6, 6, 6, 6, 6, 6, 6, 6, 6, 6, 6, 6, 6, 6, 6, 6, 6, 6, 6, 6, 6, 6, 6, 6, 6, 7, 7, 7, 7, 7, 7, 7, 7, 7, 7, 7, 7, 7, 7, 7, 7, 7, 7, 7, 7, 7, 7, 7, 7, 7, 7, 7, 7, 7, 7, 7, 7, 7, 7, 7, 7, 7, 7, 7, 7, 7, 7, 7, 7, 7, 7, 7, 7, 7, 7, 7, 7, 7, 7, 7, 7, 7, 7, 7, 7, 7, 7, 7, 7, 8, 8, 8, 8, 8, 8, 8, 8, 8, 8, 8, 8, 8, 8, 8, 8, 8, 8, 8, 8, 8, 8, 8, 8, 8, 8, 8, 8, 8, 8, 8, 8, 8, 8, 8, 8, 8, 8, 8, 8, 8, 8, 8, 8, 8, 8, 8, 8, 8, 8, 8, 8, 8, 8, 8, 8, 8, 8, 8, 8, 8, 8, 8, 8, 8, 8, 8, 8, 8, 8, 8, 8, 8, 8, 8, 8, 8, 8, 8, 8, 8, 8, 8, 8, 8, 8, 8, 8, 8, 8, 8, 8, 8, 8, 8, 8, 8, 8, 8, 8, 8, 8, 8, 8, 8, 8, 8, 8, 8, 8, 8, 8, 8, 8, 8, 8, 8, 8, 8, 8, 8, 8, 8, 8, 8, 8, 8, 8] : List UInt8) (wrapA .u8 x18)).bind fun x20 =>
  some ((wrapA .i64 ((wrapA .i64 (b12.2 + 8)) + (wrapA .i64 (x20.toNat : Int))))))
  else
  (at? ([0, 1, 2, 2, 3, 3, 3, 3, 4, 4, 4, 4, 4, 4, 4, 4, 5, 5, 5, 5, 5, 5, 5, 5, 5, 5, 5, 5, 5, 5, 5, 5, 6, 6, 6, 6, 6, 6, 6, 6, 6, 6, 6, 6, 6, 6, 6, 6, 6, 6, 6, 6, 6, 6, 6, 6, 6, 6, 6, 6, 6, 6, 6, 6, 7, 7, 7, 7, 7, 7, 7, 7, 7, 7, 7, 7, 7, 7, 7, 7, 7, 7, 7, 7, 7, 7, 7, 7, 7, 7, 7, 7, 7, 7, 7, 7, 7, 7, 7, 7, 7, 7, 7, 7, 7, 7, 7, 7, 7, 7, 7, 7, 7, 7, 7, 7, 7, 7, 7, 7, 7, 7, 7, 7, 7, 7, 7, 7, 8, 8, 8, 8, 8, 8, 8, 8, 8, 8, 8, 8, 8, 8, 8, 8, 8, 8, 8, 8, 8, 8, 8, 8, 8, 8, 8, 8, 8, 8, 8, 8, 8, 8, 8, 8, 8, 8, 8, 8, 8, 8, 8, 8, 8, 8, 8, 8, 8, 8, 8, 8, 8, 8, 8, 8, 8, 8, 8, 8, 8, 8, 8, 8, 8, 8, 8, 8, 8, 8, 8, 8, 8, 8, 8, 8, 8, 8, 8, 8, 8, 8, 8, 8, 8, 8, 8, 8, 8, 8, 8, 8, 8, 8, 8, 8, 8, 8, 8, 8, 8, 8, 8, 8, 8, 8, 8, 8, 8, 8, 8, 8, 8, 8, 8, 8, 8, 8, 8, 8, 8, 8, 8, 8, 8, 8, 8, 8] : List UInt8) (wrapA .u8 b12.1)).bind fun x22 =>
  some ((wrapA .i64 (b12.2 + (wrapA .i64 (x22.toNat : Int)))))

def F155 (F : Nat) (t0 : Int) : Option Int :=
  if false then
  ((F177 F ((wrapA .u32 t0))).bind fun r2 =>
  some r2)
  else
  (F178 F t0).bind fun r6 =>
  some r6

def F198 (F : Nat) (t0 : Int) : Option Int :=
  (F155 F ((wrapA .u64 t0))).bind fun r1 =>
  (shl? .u64 1 r1).bind fun x5 =>
  some x5

def F199 (F : Nat) (t0 : Int) : Option (Int × Int) :=
  (shl? .u64 t0 13).bind fun x1 =>
  (shr? .u64 ((bit .xor .u64 t0 x1)) 7).bind fun x5 =>
  (shl? .u64 ((bit .xor .u64 ((bit .xor .u64 t0 x1)) x5)) 17).bind fun x9 =>
  some ((((bit .xor .u64 ((bit .xor .u64 ((bit .xor .u64 t0 x1)) x5)) x9)), (bit .xor .u64 ((bit .xor .u64 ((bit .xor .u64 t0 x1)) x5)) x9)))

def F160 (F : Nat) (t0 : (List (List UInt8))) : Option ((List (List UInt8))) := if t0.length ≤ 8796093022208 then some t0 else none

def F61_l0 (F : Nat) (L1 : List Int) (s7 : Int × Int) : Option (Stp (Int × Int) (Int)) :=
  if (decide (s7.2 < (L1.length : Int))) then
  ((at? L1 s7.2).bind fun x13 =>
  some (.more (((wrapA .u32 ((bit .xor .u32 s7.1 (wrapA .u32 x13)) * 16777619)), (wrapA .i64 (s7.2 + 1))))))
  else
  some (.stop s7.1)
def F61 (F : Nat) (t0 : List UInt8) : Option Int :=
  (bytes? t0).bind fun L1 =>
  (iter (F61_l0 F L1) F (2166136261, 0)).bind fun b15 =>
  (shr? .u32 b15 15).bind fun x19 =>
  (shr? .u32 (wrapA .u32 ((bit .xor .u32 b15 x19) * 2246822519)) 13).bind fun x21 =>
  some ((bit .xor .u32 (wrapA .u32 ((bit .xor .u32 b15 x19) * 2246822519)) x21))

def F132 (F : Nat) (t0 : List UInt8) (t1 : List UInt8) : Option Int :=
  (F61 F t0).bind fun r1 =>
  (F61 F t1).bind fun r5 =>
  if ((decide (r1 < r5)) || ((r1 == r5) && (bytesLt t0 t1))) then
  (some ((-1)))
  else
  if (t0 == t1) then
  (some 0)
  else
  some 1

def F208_132_l0 (F : Nat) (t1 : Int) (s7 : Int × (List (List UInt8))) : Option (Stp (Int × (List (List UInt8))) ((List (List UInt8)))) :=
  (if (decide (s7.1 > t1)) then 
  ((at? s7.2 s7.1).bind fun x12 =>
  (at? s7.2 (wrapA .i64 (s7.1 - 1))).bind fun x14 =>
  (F132 F x12 x14).bind fun r16 =>
  some (decide (r16 < 0)))
   else some false).bind fun y21 =>
  if y21 then
  ((at? s7.2 (wrapA .i64 (s7.1 - 1))).bind fun x26 =>
  (at? s7.2 s7.1).bind fun x28 =>
  (ck s7.2 s7.1).bind fun u30 =>
  (ck ((s7.2.set ((Int.toNat s7.1)) x26)) (wrapA .i64 (s7.1 - 1))).bind fun u34 =>
  some (.more (((wrapA .i64 (s7.1 - 1)), (((s7.2.set ((Int.toNat s7.1)) x26)).set ((Int.toNat (wrapA .i64 (s7.1 - 1)))) x28)))))
  else
  some (.stop s7.2)
def F208_132_l1 (F : Nat) (t1 : Int) (t2 : Int) (s1 : Int × (List (List UInt8))) : Option (Stp (Int × (List (List UInt8))) ((List (List UInt8)))) :=
  if (decide (s1.1 < t2)) then
  ((iter (F208_132_l0 F t1) F (s1.1, s1.2)).bind fun b38 =>
  some (.more (((wrapA .i64 (s1.1 + 1)), b38))))
  else
  some (.stop s1.2)
def F208_132 (F : Nat) (t0 : List (List UInt8)) (t1 : Int) (t2 : Int) : Option ((List (List UInt8))) :=
  (iter (F208_132_l1 F t1 t2) F ((wrapA .i64 (t1 + 1)), t0)).bind fun b42 =>
  some b42

def F219_132_l0 (F : Nat) (t2 : Int) (t3 : Int) (s1 : Int × (List (List UInt8))) : Option (Stp (Int × (List (List UInt8))) ((List (List UInt8)) ⊕ (List (List UInt8)))) :=
  if (decide ((wrapA .i64 ((wrapA .i64 (2 * s1.1)) + 1)) ≥ t2)) then
  (some (.stop ((.inl s1.2))))
  else
  (if (decide ((wrapA .i64 ((wrapA .i64 ((wrapA .i64 (2 * s1.1)) + 1)) + 1)) < t2)) then 
  ((at? s1.2 (wrapA .i64 (t3 + (wrapA .i64 ((wrapA .i64 (2 * s1.1)) + 1))))).bind fun x9 =>
  (at? s1.2 (wrapA .i64 ((wrapA .i64 (t3 + (wrapA .i64 ((wrapA .i64 (2 * s1.1)) + 1)))) + 1))).bind fun x11 =>
  (F132 F x9 x11).bind fun r13 =>
  some (decide (r13 < 0)))
   else some false).bind fun y18 =>
  (show Option (Int) from (if y18 then
  (some ((wrapA .i64 ((wrapA .i64 ((wrapA .i64 (2 * s1.1)) + 1)) + 1))))
  else
  some ((wrapA .i64 ((wrapA .i64 (2 * s1.1)) + 1))))).bind fun b23 =>
  (at? s1.2 (wrapA .i64 (t3 + s1.1))).bind fun x28 =>
  (at? s1.2 (wrapA .i64 (t3 + b23))).bind fun x30 =>
  (F132 F x28 x30).bind fun r32 =>
  if (!(decide (r32 < 0))) then
  (some (.stop ((.inr s1.2))))
  else
  (at? s1.2 (wrapA .i64 (t3 + b23))).bind fun x37 =>
  (at? s1.2 (wrapA .i64 (t3 + s1.1))).bind fun x39 =>
  (ck s1.2 (wrapA .i64 (t3 + s1.1))).bind fun u41 =>
  (ck ((s1.2.set ((Int.toNat (wrapA .i64 (t3 + s1.1)))) x37)) (wrapA .i64 (t3 + b23))).bind fun u45 =>
  some (.more ((b23, (((s1.2.set ((Int.toNat (wrapA .i64 (t3 + s1.1)))) x37)).set ((Int.toNat (wrapA .i64 (t3 + b23)))) x39))))
def F219_132 (F : Nat) (t0 : List (List UInt8)) (t1 : Int) (t2 : Int) (t3 : Int) : Option ((List (List UInt8))) :=
  (iter (F219_132_l0 F t2 t3) F (t1, t0)).bind fun b49 =>
  match b49 with
  | .inl b51 => (some b51)
  | .inr b51 => (some b51)

def F209_132_l0 (F : Nat) (t1 : Int) (t2 : Int) (s1 : Int × (List (List UInt8))) : Option (Stp (Int × (List (List UInt8))) ((List (List UInt8)))) :=
  if (decide (s1.1 ≥ 0)) then
  ((F219_132 F s1.2 s1.1 ((wrapA .i64 (t2 - t1))) t1).bind fun r7 =>
  some (.more (((wrapA .i64 (s1.1 - 1)), r7))))
  else
  some (.stop s1.2)
def F209_132_l1 (F : Nat) (t1 : Int) (s15 : Int × (List (List UInt8))) : Option (Stp (Int × (List (List UInt8))) ((List (List UInt8)))) :=
  if (decide (s15.1 ≥ 0)) then
  ((at? s15.2 (wrapA .i64 (t1 + s15.1))).bind fun x21 =>
  (at? s15.2 t1).bind fun x23 =>
  (ck s15.2 t1).bind fun u25 =>
  (ck ((s15.2.set ((Int.toNat t1)) x21)) (wrapA .i64 (t1 + s15.1))).bind fun u29 =>
  (F219_132 F ((((s15.2.set ((Int.toNat t1)) x21)).set ((Int.toNat (wrapA .i64 (t1 + s15.1)))) x23)) 0 s15.1 t1).bind fun r33 =>
  some (.more (((wrapA .i64 (s15.1 - 1)), r33))))
  else
  some (.stop s15.2)
def F209_132 (F : Nat) (t0 : List (List UInt8)) (t1 : Int) (t2 : Int) : Option ((List (List UInt8))) :=
  (iter (F209_132_l0 F t1 t2) F ((wrapA .i64 (Int.tdiv (wrapA .i64 ((wrapA .i64 (t2 - t1)) - 1)) 2)), t0)).bind fun b11 =>
  (iter (F209_132_l1 F t1) F ((wrapA .i64 ((wrapA .i64 (t2 - t1)) - 1)), b11)).bind fun b37 =>
  some b37

def F210_132_l0 (F : Nat) (t1 : Int) (t2 : Int) (r8 : Int) (s12 : Int × (List (List UInt8)) × Int) : Option (Stp (Int × (List (List UInt8)) × Int) ((List (List UInt8)))) :=
  if (decide (s12.1 ≤ (wrapA .i64 ((wrapA .i64 (t1 + (wrapA .i64 ((wrapA .i64 (Int.tdiv (wrapA .i64 (t2 - t1)) 4)) * 2)))) + 1)))) then
  ((F199 F s12.2.2).bind fun r19 =>
  (show Option (Int) from (if (decide ((wrapA .i64 (bit .and .u64 r19.1 (wrapA .u64 (r8 - 1)))) ≥ (wrapA .i64 (t2 - t1)))) then
  (some ((wrapA .i64 ((wrapA .i64 (bit .and .u64 r19.1 (wrapA .u64 (r8 - 1)))) - (wrapA .i64 (t2 - t1))))))
  else
  some ((wrapA .i64 (bit .and .u64 r19.1 (wrapA .u64 (r8 - 1))))))).bind fun b25 =>
  (at? s12.2.1 (wrapA .i64 (t1 + b25))).bind fun x30 =>
  (at? s12.2.1 s12.1).bind fun x32 =>
  (ck s12.2.1 s12.1).bind fun u34 =>
  (ck ((s12.2.1.set ((Int.toNat s12.1)) x30)) (wrapA .i64 (t1 + b25))).bind fun u38 =>
  some (.more (((wrapA .i64 (s12.1 + 1)), (((s12.2.1.set ((Int.toNat s12.1)) x30)).set ((Int.toNat (wrapA .i64 (t1 + b25)))) x32), r19.2))))
  else
  some (.stop s12.2.1)
def F210_132 (F : Nat) (t0 : List (List UInt8)) (t1 : Int) (t2 : Int) : Option ((List (List UInt8))) :=
  if (decide ((wrapA .i64 (t2 - t1)) ≥ 8)) then
  ((F198 F ((wrapA .i64 (t2 - t1)))).bind fun r8 =>
  (iter (F210_132_l0 F t1 t2 r8) F ((wrapA .i64 ((wrapA .i64 (t1 + (wrapA .i64 ((wrapA .i64 (Int.tdiv (wrapA .i64 (t2 - t1)) 4)) * 2)))) - 1)), t0, (wrapA .u64 (wrapA .i64 (t2 - t1))))).bind fun b42 =>
  some b42)
  else
  some t0

def F222_132 (F : Nat) (t0 : List (List UInt8)) (t1 : Int) (t2 : Int) (t3 : Int) : Option (Int × Int × Int) :=
  (at? t0 t2).bind fun x1 =>
  (at? t0 t1).bind fun x3 =>
  (F132 F x1 x3).bind fun r5 =>
  if (decide (r5 < 0)) then
  (some ((t2, t1, (wrapA .i64 (t3 + 1)))))
  else
  some ((t1, t2, t3))

def F221_132 (F : Nat) (t0 : List (List UInt8)) (t1 : Int) (t2 : Int) (t3 : Int) (t4 : Int) : Option (Int × Int) :=
  (F222_132 F t0 t1 t2 t4).bind fun r1 =>
  (F222_132 F t0 r1.2.1 t3 r1.2.2).bind fun r6 =>
  (F222_132 F t0 r1.1 r6.1 r6.2.2).bind fun r11 =>
  some ((r11.2.1, r11.2.2))

def F220_132 (F : Nat) (t0 : List (List UInt8)) (t1 : Int) (t2 : Int) : Option (Int × Int) :=
  (F221_132 F t0 ((wrapA .i64 (t1 - 1))) t1 ((wrapA .i64 (t1 + 1))) t2).bind fun r1 =>
  some ((r1.1, r1.2))

def F211_132 (F : Nat) (t0 : List (List UInt8)) (t1 : Int) (t2 : Int) : Option (Int × Int) :=
  (show Option (Int × Int) from (if (decide ((wrapA .i64 (t2 - t1)) ≥ 8)) then
  (if (decide ((wrapA .i64 (t2 - t1)) ≥ 50)) then
  ((F220_132 F t0 ((wrapA .i64 (t1 + (wrapA .i64 ((wrapA .i64 (Int.tdiv (wrapA .i64 (t2 - t1)) 4)) * 1))))) 0).bind fun r8 =>
  (F220_132 F t0 ((wrapA .i64 (t1 + (wrapA .i64 ((wrapA .i64 (Int.tdiv (wrapA .i64 (t2 - t1)) 4)) * 2))))) r8.2).bind fun r13 =>
  (F220_132 F t0 ((wrapA .i64 (t1 + (wrapA .i64 ((wrapA .i64 (Int.tdiv (wrapA .i64 (t2 - t1)) 4)) * 3))))) r13.2).bind fun r18 =>
  (F221_132 F t0 r8.1 r13.1 r18.1 r18.2).bind fun r23 =>
  some ((r23.1, r23.2)))
  else
  (F221_132 F t0 ((wrapA .i64 (t1 + (wrapA .i64 ((wrapA .i64 (Int.tdiv (wrapA .i64 (t2 - t1)) 4)) * 1))))) ((wrapA .i64 (t1 + (wrapA .i64 ((wrapA .i64 (Int.tdiv (wrapA .i64 (t2 - t1)) 4)) * 2))))) ((wrapA .i64 (t1 + (wrapA .i64 ((wrapA .i64 (Int.tdiv (wrapA .i64 (t2 - t1)) 4)) * 3))))) 0).bind fun r29 =>
  some ((r29.1, r29.2)))
  else
  some (((wrapA .i64 (t1 + (wrapA .i64 ((wrapA .i64 (Int.tdiv (wrapA .i64 (t2 - t1)) 4)) * 2)))), 0)))).bind fun b34 =>
  if (b34.2 == 0) then
  (some ((b34.1, 1)))
  else
  if (b34.2 == 12) then
  (some ((b34.1, 2)))
  else
  some ((b34.1, 0))

def F212_132_l0 (F : Nat)  (s1 : Int × Int × (List (List UInt8))) : Option (Stp (Int × Int × (List (List UInt8))) ((List (List UInt8)))) :=
  if (decide (s1.1 < s1.2.1)) then
  ((at? s1.2.2 s1.2.1).bind fun x7 =>
  (at? s1.2.2 s1.1).bind fun x9 =>
  (ck s1.2.2 s1.1).bind fun u11 =>
  (ck ((s1.2.2.set ((Int.toNat s1.1)) x7)) s1.2.1).bind fun u15 =>
  some (.more (((wrapA .i64 (s1.1 + 1)), (wrapA .i64 (s1.2.1 - 1)), (((s1.2.2.set ((Int.toNat s1.1)) x7)).set ((Int.toNat s1.2.1)) x9)))))
  else
  some (.stop s1.2.2)
def F212_132 (F : Nat) (t0 : List (List UInt8)) (t1 : Int) (t2 : Int) : Option ((List (List UInt8))) :=
  (iter (F212_132_l0 F) F (t1, (wrapA .i64 (t2 - 1)), t0)).bind fun b19 =>
  some b19

def F213_132_l0 (F : Nat) (t2 : Int) (s1 : Int × Int × (List (List UInt8))) (s9 : Int) : Option (Stp (Int) (Int)) :=
  (if (decide (s9 < t2)) then 
  ((at? s1.2.2 s9).bind fun x14 =>
  (at? s1.2.2 (wrapA .i64 (s9 - 1))).bind fun x16 =>
  (F132 F x14 x16).bind fun r18 =>
  some (!(decide (r18 < 0))))
   else some false).bind fun y23 =>
  if y23 then
  (some (.more ((wrapA .i64 (s9 + 1)))))
  else
  some (.stop s9)
def F213_132_l1 (F : Nat)  (s47 : Int × (List (List UInt8))) : Option (Stp (Int × (List (List UInt8))) ((List (List UInt8)))) :=
  if (decide (s47.1 ≥ 1)) then
  ((at? s47.2 s47.1).bind fun x53 =>
  (at? s47.2 (wrapA .i64 (s47.1 - 1))).bind fun x55 =>
  (F132 F x53 x55).bind fun r57 =>
  if (!(decide (r57 < 0))) then
  (some (.stop s47.2))
  else
  (at? s47.2 (wrapA .i64 (s47.1 - 1))).bind fun x62 =>
  (at? s47.2 s47.1).bind fun x64 =>
  (ck s47.2 s47.1).bind fun u66 =>
  (ck ((s47.2.set ((Int.toNat s47.1)) x62)) (wrapA .i64 (s47.1 - 1))).bind fun u70 =>
  some (.more (((wrapA .i64 (s47.1 - 1)), (((s47.2.set ((Int.toNat s47.1)) x62)).set ((Int.toNat (wrapA .i64 (s47.1 - 1)))) x64)))))
  else
  some (.stop s47.2)
def F213_132_l2 (F : Nat) (t2 : Int) (s84 : Int × (List (List UInt8))) : Option (Stp (Int × (List (List UInt8))) ((List (List UInt8)))) :=
  if (decide (s84.1 < t2)) then
  ((at? s84.2 s84.1).bind fun x90 =>
  (at? s84.2 (wrapA .i64 (s84.1 - 1))).bind fun x92 =>
  (F132 F x90 x92).bind fun r94 =>
  if (!(decide (r94 < 0))) then
  (some (.stop s84.2))
  else
  (at? s84.2 (wrapA .i64 (s84.1 - 1))).bind fun x99 =>
  (at? s84.2 s84.1).bind fun x101 =>
  (ck s84.2 s84.1).bind fun u103 =>
  (ck ((s84.2.set ((Int.toNat s84.1)) x99)) (wrapA .i64 (s84.1 - 1))).bind fun u107 =>
  some (.more (((wrapA .i64 (s84.1 + 1)), (((s84.2.set ((Int.toNat s84.1)) x99)).set ((Int.toNat (wrapA .i64 (s84.1 - 1)))) x101)))))
  else
  some (.stop s84.2)
def F213_132_l3 (F : Nat) (t1 : Int) (t2 : Int) (s1 : Int × Int × (List (List UInt8))) : Option (Stp (Int × Int × (List (List UInt8))) ((List (List UInt8)) ⊕ (Bool × (List (List UInt8))))) :=
  if (decide (s1.2.1 < 5)) then
  ((iter (F213_132_l0 F t2 s1) F s1.1).bind fun b28 =>
  if (b28 == t2) then
  (some (.stop ((.inr (true, s1.2.2)))))
  else
  if (decide ((wrapA .i64 (t2 - t1)) < 50)) then
  (some (.stop ((.inr (false, s1.2.2)))))
  else
  (at? s1.2.2 (wrapA .i64 (b28 - 1))).bind fun x34 =>
  (at? s1.2.2 b28).bind fun x36 =>
  (ck s1.2.2 b28).bind fun u38 =>
  (ck ((s1.2.2.set ((Int.toNat b28)) x34)) (wrapA .i64 (b28 - 1))).bind fun u42 =>
  (show Option ((List (List UInt8))) from (if (decide ((wrapA .i64 (b28 - t1)) ≥ 2)) then
  ((iter (F213_132_l1 F) F ((wrapA .i64 (b28 - 1)), (((s1.2.2.set ((Int.toNat b28)) x34)).set ((Int.toNat (wrapA .i64 (b28 - 1)))) x36))).bind fun b74 =>
  some b74)
  else
  some ((((s1.2.2.set ((Int.toNat b28)) x34)).set ((Int.toNat (wrapA .i64 (b28 - 1)))) x36)))).bind fun b78 =>
  if (decide ((wrapA .i64 (t2 - b28)) ≥ 2)) then
  ((iter (F213_132_l2 F t2) F ((wrapA .i64 (b28 + 1)), b78)).bind fun b111 =>
  some (.more ((b28, (wrapA .i64 (s1.2.1 + 1)), b111))))
  else
  some (.more ((b28, (wrapA .i64 (s1.2.1 + 1)), b78))))
  else
  some (.stop ((.inl s1.2.2)))
def F213_132 (F : Nat) (t0 : List (List UInt8)) (t1 : Int) (t2 : Int) : Option (Bool × (List (List UInt8))) :=
  (iter (F213_132_l3 F t1 t2) F ((wrapA .i64 (t1 + 1)), 0, t0)).bind fun b115 =>
  match b115 with
  | .inl b117 => (some ((false, b117)))
  | .inr b117 => (some ((b117.1, b117.2)))

def F214_132_l0 (F : Nat) (t1 : Int) (s13 : Int × Int × (List (List UInt8))) (s18 : Int) : Option (Stp (Int) (Int)) :=
  (if (decide (s18 ≤ s13.2.1)) then 
  ((at? s13.2.2 t1).bind fun x23 =>
  (at? s13.2.2 s18).bind fun x25 =>
  (F132 F x23 x25).bind fun r27 =>
  some (!(decide (r27 < 0))))
   else some false).bind fun y32 =>
  if y32 then
  (some (.more ((wrapA .i64 (s18 + 1)))))
  else
  some (.stop s18)
def F214_132_l1 (F : Nat) (t1 : Int) (s13 : Int × Int × (List (List UInt8))) (b37 : Int) (s41 : Int) : Option (Stp (Int) (Int)) :=
  (if (decide (b37 ≤ s41)) then 
  ((at? s13.2.2 t1).bind fun x46 =>
  (at? s13.2.2 s41).bind fun x48 =>
  (F132 F x46 x48).bind fun r50 =>
  some (decide (r50 < 0)))
   else some false).bind fun y55 =>
  if y55 then
  (some (.more ((wrapA .i64 (s41 - 1)))))
  else
  some (.stop s41)
def F214_132_l2 (F : Nat) (t1 : Int) (s13 : Int × Int × (List (List UInt8))) : Option (Stp (Int × Int × (List (List UInt8))) (Int × (List (List UInt8)))) :=
  (iter (F214_132_l0 F t1 s13) F s13.1).bind fun b37 =>
  (iter (F214_132_l1 F t1 s13 b37) F s13.2.1).bind fun b60 =>
  if (decide (b37 > b60)) then
  (some (.stop ((b37, s13.2.2))))
  else
  (at? s13.2.2 b60).bind fun x65 =>
  (at? s13.2.2 b37).bind fun x67 =>
  (ck s13.2.2 b37).bind fun u69 =>
  (ck ((s13.2.2.set ((Int.toNat b37)) x65)) b60).bind fun u73 =>
  some (.more (((wrapA .i64 (b37 + 1)), (wrapA .i64 (b60 - 1)), (((s13.2.2.set ((Int.toNat b37)) x65)).set ((Int.toNat b60)) x67))))
def F214_132 (F : Nat) (t0 : List (List UInt8)) (t1 : Int) (t2 : Int) (t3 : Int) : Option (Int × (List (List UInt8))) :=
  (at? t0 t3).bind fun x1 =>
  (at? t0 t1).bind fun x3 =>
  (ck t0 t1).bind fun u5 =>
  (ck ((t0.set ((Int.toNat t1)) x1)) t3).bind fun u9 =>
  (iter (F214_132_l2 F t1) F ((wrapA .i64 (t1 + 1)), (wrapA .i64 (t2 - 1)), (((t0.set ((Int.toNat t1)) x1)).set ((Int.toNat t3)) x3))).bind fun b77 =>
  some ((b77.1, b77.2))

def F215_132_l0 (F : Nat) (t0 : List (List UInt8)) (t1 : Int) (t2 : Int) (t3 : Int) (x1 : List UInt8) (x3 : List UInt8) (s13 : Int) : Option (Stp (Int) (Int)) :=
  (if (decide (s13 ≤ (wrapA .i64 (t2 - 1)))) then 
  ((at? ((((t0.set ((Int.toNat t1)) x1)).set ((Int.toNat t3)) x3)) s13).bind fun x18 =>
  (at? ((((t0.set ((Int.toNat t1)) x1)).set ((Int.toNat t3)) x3)) t1).bind fun x20 =>
  (F132 F x18 x20).bind fun r22 =>
  some (decide (r22 < 0)))
   else some false).bind fun y27 =>
  if y27 then
  (some (.more ((wrapA .i64 (s13 + 1)))))
  else
  some (.stop s13)
def F215_132_l1 (F : Nat) (t0 : List (List UInt8)) (t1 : Int) (t3 : Int) (x1 : List UInt8) (x3 : List UInt8) (b32 : Int) (s36 : Int) : Option (Stp (Int) (Int)) :=
  (if (decide (b32 ≤ s36)) then 
  ((at? ((((t0.set ((Int.toNat t1)) x1)).set ((Int.toNat t3)) x3)) s36).bind fun x41 =>
  (at? ((((t0.set ((Int.toNat t1)) x1)).set ((Int.toNat t3)) x3)) t1).bind fun x43 =>
  (F132 F x41 x43).bind fun r45 =>
  some (!(decide (r45 < 0))))
   else some false).bind fun y50 =>
  if y50 then
  (some (.more ((wrapA .i64 (s36 - 1)))))
  else
  some (.stop s36)
def F215_132_l2 (F : Nat) (t1 : Int) (s84 : Int × Int × (List (List UInt8))) (s89 : Int) : Option (Stp (Int) (Int)) :=
  (if (decide (s89 ≤ s84.2.1)) then 
  ((at? s84.2.2 s89).bind fun x94 =>
  (at? s84.2.2 t1).bind fun x96 =>
  (F132 F x94 x96).bind fun r98 =>
  some (decide (r98 < 0)))
   else some false).bind fun y103 =>
  if y103 then
  (some (.more ((wrapA .i64 (s89 + 1)))))
  else
  some (.stop s89)
def F215_132_l3 (F : Nat) (t1 : Int) (s84 : Int × Int × (List (List UInt8))) (b108 : Int) (s112 : Int) : Option (Stp (Int) (Int)) :=
  (if (decide (b108 ≤ s112)) then 
  ((at? s84.2.2 s112).bind fun x117 =>
  (at? s84.2.2 t1).bind fun x119 =>
  (F132 F x117 x119).bind fun r121 =>
  some (!(decide (r121 < 0))))
   else some false).bind fun y126 =>
  if y126 then
  (some (.more ((wrapA .i64 (s112 - 1)))))
  else
  some (.stop s112)
def F215_132_l4 (F : Nat) (t1 : Int) (s84 : Int × Int × (List (List UInt8))) : Option (Stp (Int × Int × (List (List UInt8))) (Int × (List (List UInt8)))) :=
  (iter (F215_132_l2 F t1 s84) F s84.1).bind fun b108 =>
  (iter (F215_132_l3 F t1 s84 b108) F s84.2.1).bind fun b131 =>
  if (decide (b108 > b131)) then
  (some (.stop ((b131, s84.2.2))))
  else
  (at? s84.2.2 b131).bind fun x136 =>
  (at? s84.2.2 b108).bind fun x138 =>
  (ck s84.2.2 b108).bind fun u140 =>
  (ck ((s84.2.2.set ((Int.toNat b108)) x136)) b131).bind fun u144 =>
  some (.more (((wrapA .i64 (b108 + 1)), (wrapA .i64 (b131 - 1)), (((s84.2.2.set ((Int.toNat b108)) x136)).set ((Int.toNat b131)) x138))))
def F215_132 (F : Nat) (t0 : List (List UInt8)) (t1 : Int) (t2 : Int) (t3 : Int) : Option (Int × Bool × (List (List UInt8))) :=
  (at? t0 t3).bind fun x1 =>
  (at? t0 t1).bind fun x3 =>
  (ck t0 t1).bind fun u5 =>
  (ck ((t0.set ((Int.toNat t1)) x1)) t3).bind fun u9 =>
  (iter (F215_132_l0 F t0 t1 t2 t3 x1 x3) F (wrapA .i64 (t1 + 1))).bind fun b32 =>
  (iter (F215_132_l1 F t0 t1 t3 x1 x3 b32) F (wrapA .i64 (t2 - 1))).bind fun b55 =>
  if (decide (b32 > b55)) then
  ((at? ((((t0.set ((Int.toNat t1)) x1)).set ((Int.toNat t3)) x3)) t1).bind fun x60 =>
  (at? ((((t0.set ((Int.toNat t1)) x1)).set ((Int.toNat t3)) x3)) b55).bind fun x62 =>
  (ck ((((t0.set ((Int.toNat t1)) x1)).set ((Int.toNat t3)) x3)) b55).bind fun u64 =>
  (ck ((((((t0.set ((Int.toNat t1)) x1)).set ((Int.toNat t3)) x3)).set ((Int.toNat b55)) x60)) t1).bind fun u68 =>
  some ((b55, true, (((((((t0.set ((Int.toNat t1)) x1)).set ((Int.toNat t3)) x3)).set ((Int.toNat b55)) x60)).set ((Int.toNat t1)) x62))))
  else
  (at? ((((t0.set ((Int.toNat t1)) x1)).set ((Int.toNat t3)) x3)) b55).bind fun x72 =>
  (at? ((((t0.set ((Int.toNat t1)) x1)).set ((Int.toNat t3)) x3)) b32).bind fun x74 =>
  (ck ((((t0.set ((Int.toNat t1)) x1)).set ((Int.toNat t3)) x3)) b32).bind fun u76 =>
  (ck ((((((t0.set ((Int.toNat t1)) x1)).set ((Int.toNat t3)) x3)).set ((Int.toNat b32)) x72)) b55).bind fun u80 =>
  (iter (F215_132_l4 F t1) F ((wrapA .i64 (b32 + 1)), (wrapA .i64 (b55 - 1)), (((((((t0.set ((Int.toNat t1)) x1)).set ((Int.toNat t3)) x3)).set ((Int.toNat b32)) x72)).set ((Int.toNat b55)) x74))).bind fun b148 =>
  (at? b148.2 t1).bind fun x152 =>
  (at? b148.2 b148.1).bind fun x154 =>
  (ck b148.2 b148.1).bind fun u156 =>
  (ck ((b148.2.set ((Int.toNat b148.1)) x152)) t1).bind fun u160 =>
  some ((b148.1, false, (((b148.2.set ((Int.toNat b148.1)) x152)).set ((Int.toNat t1)) x154)))

def F195_132_l0 (F : Nat) (frec : (List (List UInt8)) → Int → Int → Int → Option ((List (List UInt8)))) (s1 : Int × Int × Int × Bool × Bool × (List (List UInt8))) : Option (Stp (Int × Int × Int × Bool × Bool × (List (List UInt8))) ((List (List UInt8)))) :=
  if (decide ((wrapA .i64 (s1.2.1 - s1.1)) ≤ 12)) then
  ((F208_132 F s1.2.2.2.2.2 s1.1 s1.2.1).bind fun r7 =>
  some (.stop r7))
  else
  if (s1.2.2.1 == 0) then
  ((F209_132 F s1.2.2.2.2.2 s1.1 s1.2.1).bind fun r12 =>
  some (.stop r12))
  else
  (show Option (Int × (List (List UInt8))) from (if (!s1.2.2.2.1) then
  ((F210_132 F s1.2.2.2.2.2 s1.1 s1.2.1).bind fun r17 =>
  some (((wrapA .i64 (s1.2.2.1 - 1)), r17)))
  else
  some ((s1.2.2.1, s1.2.2.2.2.2)))).bind fun b21 =>
  (F211_132 F b21.2 s1.1 s1.2.1).bind fun r26 =>
  (show Option (Int × Int × (List (List UInt8))) from (if (r26.2 == 2) then
  ((F212_132 F b21.2 s1.1 s1.2.1).bind fun r31 =>
  some (((wrapA .i64 ((wrapA .i64 (s1.2.1 - 1)) - (wrapA .i64 (r26.1 - s1.1)))), 1, r31)))
  else
  some ((r26.1, r26.2, b21.2)))).bind fun b35 =>
  (show Option ((List (List UInt8)) ⊕ (List (List UInt8))) from (if ((s1.2.2.2.1 && s1.2.2.2.2.1) && (b35.2.1 == 1)) then
  ((F213_132 F b35.2.2 s1.1 s1.2.1).bind fun r43 =>
  if r43.1 then
  (some ((.inr r43.2)))
  else
  some ((.inl r43.2)))
  else
  some ((.inl b35.2.2)))).bind fun b48 =>
  match b48 with
  | .inl b53 => ((if (decide (s1.1 > 0)) then 
  ((at? b53 (wrapA .i64 (s1.1 - 1))).bind fun x56 =>
  (at? b53 b35.1).bind fun x58 =>
  (F132 F x56 x58).bind fun r60 =>
  some (!(decide (r60 < 0))))
   else some false).bind fun y65 =>
  if y65 then
  ((F214_132 F b53 s1.1 s1.2.1 b35.1).bind fun r70 =>
  some (.more ((r70.1, s1.2.1, b21.1, s1.2.2.2.1, s1.2.2.2.2.1, r70.2))))
  else
  (F215_132 F b53 s1.1 s1.2.1 b35.1).bind fun r74 =>
  if (decide ((wrapA .i64 (r74.1 - s1.1)) < (wrapA .i64 (s1.2.1 - r74.1)))) then
  ((frec r74.2.2 s1.1 r74.1 b21.1).bind fun r79 =>
  some (.more (((wrapA .i64 (r74.1 + 1)), s1.2.1, b21.1, (decide ((wrapA .i64 (r74.1 - s1.1)) ≥ (wrapA .i64 (Int.tdiv (wrapA .i64 (s1.2.1 - s1.1)) 8)))), r74.2.1, r79))))
  else
  (frec r74.2.2 ((wrapA .i64 (r74.1 + 1))) s1.2.1 b21.1).bind fun r83 =>
  some (.more ((s1.1, r74.1, b21.1, (decide ((wrapA .i64 (s1.2.1 - r74.1)) ≥ (wrapA .i64 (Int.tdiv (wrapA .i64 (s1.2.1 - s1.1)) 8)))), r74.2.1, r83))))
  | .inr b53 => (some (.stop b53))
def F195_132 : Nat → (List (List UInt8)) → Int → Int → Int → Option ((List (List UInt8)))
  | 0, _, _, _, _ => none
  | F + 1, t0, t1, t2, t3 =>
  let frec := F195_132 F
  (iter (F195_132_l0 F frec) F (t1, t2, t3, true, true, t0)).bind fun b89 =>
  some b89

def F161_132 (F : Nat) (t0 : List (List UInt8)) : Option ((List (List UInt8))) :=
  (F155 F ((wrapA .u64 (t0.length : Int)))).bind fun r1 =>
  (F195_132 F t0 0 ((t0.length : Int)) r1).bind fun r5 =>
  some r5

def F162 (F : Nat) (t0 : (List (List UInt8))) : Option ((List (List UInt8))) := if t0.length ≤ 1152921504606846976 then compF? (fun x p => some (x == p)) t0 else none

def F129 (F : Nat) (t0 : Int) (t1 : List (List UInt8)) : Option ((Int × (List (List UInt8)))) :=
  (F160 F t1).bind fun r5 =>
  (F161_132 F r5).bind fun r11 =>
  (F162 F r11).bind fun r15 =>
  (sub? r15 0 (minI (r15.length : Int) t0)).bind fun L22 =>
  (F160 F L22).bind fun r26 =>
  some ((t0, r26))

def F58_l0 (F : Nat) (t1 : List (List UInt8)) (s10 : Int × Int × (List (List UInt8))) : Option (Stp (Int × Int × (List (List UInt8))) ((Int × (List (List UInt8))) ⊕ (Int × Int × (List (List UInt8))))) :=
  if (decide (s10.1 < (t1.length : Int))) then
  ((at? t1 s10.1).bind fun x23 =>
  if (decide ((x23.length : Int) > 12)) then
  (some (.stop ((.inr (2, 0, [])))))
  else
  some (.more (((wrapA .i64 (s10.1 + 1)), s10.2.1, s10.2.2))))
  else
  some (.stop ((.inl (s10.2.1, s10.2.2))))
def F58 (F : Nat) (t0 : Int) (t1 : List (List UInt8)) : Option ((Int × (List (List UInt8))) × Int) :=
  if ((decide (t0 < 1)) || (decide (t0 > 30))) then
  (some (((0, []), 1)))
  else
  (iter (F58_l0 F t1) F (0, 0, [])).bind fun b28 =>
  match b28 with
  | .inl b30 => ((F129 F t0 t1).bind fun r34 =>
  some (((r34.1, r34.2), 0)))
  | .inr b30 => (some (((b30.2.1, b30.2.2), b30.1)))

def F68_l0 (F : Nat) (t0 : Int × (List (List UInt8))) (s8 : Int) : Option (Stp (Int) (Unit ⊕ Int)) :=
  if (decide (s8 < (t0.2.length : Int))) then
  ((at? t0.2 s8).bind fun x16 =>
  if (decide ((x16.length : Int) > 12)) then
  (some (.stop ((.inr 2))))
  else
  (if (decide (s8 > 0)) then 
  ((at? t0.2 (wrapA .i64 (s8 - 1))).bind fun x19 =>
  (F132 F x19 x16).bind fun r21 =>
  some (decide (r21 ≥ 0)))
   else some false).bind fun y26 =>
  if y26 then
  (some (.stop ((.inr 3))))
  else
  some (.more ((wrapA .i64 (s8 + 1)))))
  else
  some (.stop ((.inl ())))
def F68 (F : Nat) (t0 : Int × (List (List UInt8))) : Option Int :=
  if ((decide (t0.1 < 1)) || (decide (t0.1 > 30))) then
  (some 1)
  else
  if (decide ((t0.2.length : Int) > t0.1)) then
  (some 2)
  else
  (iter (F68_l0 F t0) F 0).bind fun b31 =>
  match b31 with
  | .inl b33 => (some 0)
  | .inr b33 => (some b33)

def F133 (F : Nat) (t0 : (List (List UInt8))) (t1 : Int) : Option ((List (List UInt8))) := if (t0.length == 0 && decide (0 ≤ t1) && decide (t1 ≤ 549755813888)) then some [] else none

def F69_l0 (F : Nat) (t0 : List (List (List UInt8))) (s1 : Int × Int) : Option (Stp (Int × Int) (Int)) :=
  if (decide (s1.2 < (t0.length : Int))) then
  ((at? t0 s1.2).bind fun L7 =>
  if (decide ((wrapA .i64 (s1.1 + (L7.length : Int))) < 0)) then
  (none)
  else
  some (.more (((wrapA .i64 (s1.1 + (L7.length : Int))), (wrapA .i64 (s1.2 + 1))))))
  else
  some (.stop s1.1)
def F69_l1 (F : Nat) (t0 : List (List (List UInt8))) (s22 : (List (List UInt8)) × Int) : Option (Stp ((List (List UInt8)) × Int) ((List (List UInt8)))) :=
  if (decide (s22.2 < (t0.length : Int))) then
  ((at? t0 s22.2).bind fun L32 =>
  (app? s22.1 L32).bind fun L36 =>
  some (.more ((L36, (wrapA .i64 (s22.2 + 1))))))
  else
  some (.stop s22.1)
def F69 (F : Nat) (t0 : List (List (List UInt8))) : Option ((List (List UInt8))) :=
  (iter (F69_l0 F t0) F (0, 0)).bind fun b12 =>
  (F133 F ([]) b12).bind fun r16 =>
  (iter (F69_l1 F t0) F (r16, 0)).bind fun b42 =>
  some b42

def F59 (F : Nat) (t0 : Int × (List (List UInt8))) (t1 : Int × (List (List UInt8))) : Option ((Int × (List (List UInt8))) × Int) :=
  (F68 F ((t0.1, t0.2))).bind fun r13 =>
  if (r13 != 0) then
  (some (((0, []), r13)))
  else
  (F68 F ((t1.1, t1.2))).bind fun r21 =>
  if (r21 != 0) then
  (some (((0, []), r21)))
  else
  if (t0.1 != t1.1) then
  (some (((0, []), 3)))
  else
  (F69 F ([t0.2, t1.2])).bind fun r37 =>
  (F129 F t0.1 r37).bind fun r43 =>
  some (((r43.1, r43.2), 0))

def F134_l0 (F : Nat) (t0 : List (List UInt8)) (t1 : List UInt8) (s1 : Int) : Option (Stp (Int) (Unit ⊕ Int)) :=
  if (decide (s1 < (t0.length : Int))) then
  ((at? t0 s1).bind fun x9 =>
  if (t1 == x9) then
  (some (.stop ((.inr s1))))
  else
  some (.more ((wrapA .i64 (s1 + 1)))))
  else
  some (.stop ((.inl ())))
def F134 (F : Nat) (t0 : List (List UInt8)) (t1 : List UInt8) : Option Int :=
  (iter (F134_l0 F t0 t1) F 0).bind fun b12 =>
  match b12 with
  | .inl b14 => (some ((-1)))
  | .inr b14 => (some b14)

def F70 (F : Nat) (t0 : List (List UInt8)) (t1 : List UInt8) : Option Bool :=
  (F134 F t0 t1).bind fun r1 =>
  some ((decide (r1 ≥ 0)))

def F60_l0 (F : Nat) (t0 : Int × (List (List UInt8))) (t1 : Int × (List (List UInt8))) (r9 : (Int × (List (List UInt8))) × Int) (s23 : Int × Int) : Option (Stp (Int × Int) (Int)) :=
  if (decide (s23.2 < (r9.1.2.length : Int))) then
  ((at? r9.1.2 s23.2).bind fun x29 =>
  (F70 F t0.2 x29).bind fun r31 =>
  (if r31 then 
  ((F70 F t1.2 x29).bind fun r35 =>
  some r35)
   else some false).bind fun y40 =>
  if y40 then
  (some (.more (((wrapA .i64 (s23.1 + 1)), (wrapA .i64 (s23.2 + 1))))))
  else
  some (.more ((s23.1, (wrapA .i64 (s23.2 + 1))))))
  else
  some (.stop s23.1)
def F60 (F : Nat) (t0 : Int × (List (List UInt8))) (t1 : Int × (List (List UInt8))) : Option (Int × Int × Int) :=
  (F59 F ((t0.1, t0.2)) ((t1.1, t1.2))).bind fun r9 =>
  if (r9.2 != 0) then
  (some ((0, 0, r9.2)))
  else
  (iter (F60_l0 F t0 t1 r9) F (0, 0)).bind fun b45 =>
  some ((b45, (r9.1.2.length : Int), 0))

def F62_l0 (F : Nat) (t0 : List UInt8) (s1 : Int × Int) : Option (Stp (Int × Int) (Int)) :=
  if (decide (s1.2 < (t0.length : Int))) then
  ((at? t0 s1.2).bind fun x7 =>
  some (.more (((Int.tmod (wrapA .u64 ((bit .xor .u64 s1.1 (wrapA .u64 (x7.toNat : Int))) * 16777619)) 4294967296), (wrapA .i64 (s1.2 + 1))))))
  else
  some (.stop s1.1)
def F62 (F : Nat) (t0 : List UInt8) : Option Int :=
  (iter (F62_l0 F t0) F (2166136261, 0)).bind fun b9 =>
  some ((wrapA .u32 (bit .xor .u64 (Int.tmod (wrapA .u64 ((bit .xor .u64 b9 (wrapA .u64 (Int.tdiv b9 32768))) * 2246822519)) 4294967296) (wrapA .u64 (Int.tdiv (Int.tmod (wrapA .u64 ((bit .xor .u64 b9 (wrapA .u64 (Int.tdiv b9 32768))) * 2246822519)) 4294967296) 8192)))))

def F64 (F : Nat) (t0 : List UInt8) : Option Bool :=
  some ((decide ((t0.length : Int) > 12)))

def F130_64_l0 (F : Nat) (t0 : List (List UInt8)) (s1 : Int) : Option (Stp (Int) (Unit ⊕ Int)) :=
  if (decide (s1 < (t0.length : Int))) then
  ((at? t0 s1).bind fun x9 =>
  (F64 F x9).bind fun r11 =>
  if r11 then
  (some (.stop ((.inr s1))))
  else
  some (.more ((wrapA .i64 (s1 + 1)))))
  else
  some (.stop ((.inl ())))
def F130_64 (F : Nat) (t0 : List (List UInt8)) : Option Int :=
  (iter (F130_64_l0 F t0) F 0).bind fun b16 =>
  match b16 with
  | .inl b18 => (some ((-1)))
  | .inr b18 => (some b18)

def F63_64 (F : Nat) (t0 : List (List UInt8)) : Option Bool :=
  (F130_64 F t0).bind fun r1 =>
  some ((decide (r1 ≥ 0)))

def F131 (F : Nat) (t0 : List UInt8) (t1 : List UInt8) : Option Bool :=
  (F62 F t0).bind fun r1 =>
  (F62 F t1).bind fun r5 =>
  some (((decide (r1 < r5)) || ((r1 == r5) && (bytesLt t0 t1))))

def F66_l0 (F : Nat) (t1 : List (List UInt8)) (s1 : (List (List UInt8))) (s11 : (List UInt8) × Bool × Int) : Option (Stp ((List UInt8) × Bool × Int) ((List UInt8) × Bool)) :=
  if (decide (s11.2.2 < (t1.length : Int))) then
  ((at? t1 s11.2.2).bind fun x17 =>
  (if ((s1.length : Int) == 0) then some true else 
  ((at? s1 (wrapA .i64 ((s1.length : Int) - 1))).bind fun x19 =>
  (F131 F x19 x17).bind fun r21 =>
  some r21)
  ).bind fun y26 =>
  (if y26 then 
  ((if (!s11.2.1) then some true else 
  ((F131 F x17 s11.1).bind fun r30 =>
  some r30)
  ).bind fun y35 =>
  some y35)
   else some false).bind fun y40 =>
  if y40 then
  (some (.more ((x17, true, (wrapA .i64 (s11.2.2 + 1))))))
  else
  some (.more ((s11.1, s11.2.1, (wrapA .i64 (s11.2.2 + 1))))))
  else
  some (.stop ((s11.1, s11.2.1)))
def F66_l1 (F : Nat) (t0 : Int) (t1 : List (List UInt8)) (s1 : (List (List UInt8))) : Option (Stp ((List (List UInt8))) ((List (List UInt8)))) :=
  if (decide ((s1.length : Int) < t0)) then
  ((iter (F66_l0 F t1 s1) F ([], false, 0)).bind fun b45 =>
  if (!b45.2) then
  (some (.stop s1))
  else
  (app? s1 ([b45.1])).bind fun L54 =>
  some (.more L54))
  else
  some (.stop s1)
def F66 (F : Nat) (t0 : Int) (t1 : List (List UInt8)) : Option ((List (List UInt8))) :=
  (iter (F66_l1 F t0 t1) F []).bind fun b60 =>
  some b60

def F86_l0 (F : Nat) (t0 : List (List UInt8)) (t1 : List (List UInt8)) (s2 : Int) : Option (Stp (Int) (Unit ⊕ Bool)) :=
  if (decide (s2 < (t0.length : Int))) then
  ((at? t0 s2).bind fun x10 =>
  (at? t1 s2).bind fun x12 =>
  if (!(x10 == x12)) then
  (some (.stop ((.inr false))))
  else
  some (.more ((wrapA .i64 (s2 + 1)))))
  else
  some (.stop ((.inl ())))
def F86 (F : Nat) (t0 : List (List UInt8)) (t1 : List (List UInt8)) : Option Bool :=
  if ((t0.length : Int) != (t1.length : Int)) then
  (some false)
  else
  (iter (F86_l0 F t0 t1) F 0).bind fun b15 =>
  match b15 with
  | .inl b17 => (some true)
  | .inr b17 => (some b17)

def F65 (F : Nat) (t0 : List (List UInt8)) (t1 : List (List UInt8)) : Option Bool :=
  (F86 F t0 t1).bind fun r1 =>
  some r1

def F67_l0 (F : Nat) (t0 : Int × (List (List UInt8))) (s8 : Int) : Option (Stp (Int) (Unit ⊕ Int)) :=
  if (decide (s8 < (t0.2.length : Int))) then
  ((at? t0.2 s8).bind fun x16 =>
  if (decide ((x16.length : Int) > 12)) then
  (some (.stop ((.inr 2))))
  else
  (if (decide (s8 > 0)) then 
  ((at? t0.2 (wrapA .i64 (s8 - 1))).bind fun x19 =>
  (F131 F x19 x16).bind fun r21 =>
  some (!r21))
   else some false).bind fun y26 =>
  if y26 then
  (some (.stop ((.inr 3))))
  else
  some (.more ((wrapA .i64 (s8 + 1)))))
  else
  some (.stop ((.inl ())))
def F67 (F : Nat) (t0 : Int × (List (List UInt8))) : Option Int :=
  if ((decide (t0.1 < 1)) || (decide (t0.1 > 30))) then
  (some 1)
  else
  if (decide ((t0.2.length : Int) > t0.1)) then
  (some 2)
  else
  (iter (F67_l0 F t0) F 0).bind fun b31 =>
  match b31 with
  | .inl b33 => (some 0)
  | .inr b33 => (some b33)

def F8_l0 (F : Nat) (t1 : List (List UInt8)) (s39 : Int) : Option (Stp (Int) (Unit ⊕ Bool)) :=
  if (decide (s39 < (t1.length : Int))) then
  ((at? t1 s39).bind fun x47 =>
  (F61 F x47).bind fun r49 =>
  (F62 F x47).bind fun r53 =>
  if (r49 != r53) then
  (some (.stop ((.inr false))))
  else
  some (.more ((wrapA .i64 (s39 + 1)))))
  else
  some (.stop ((.inl ())))
def F8_l1 (F : Nat) (t2 : Int × (List (List UInt8))) (t3 : Int × (List (List UInt8))) (r146 : (List (List UInt8))) (s152 : Int × Int) : Option (Stp (Int × Int) (Int)) :=
  if (decide (s152.2 < (r146.length : Int))) then
  ((at? r146 s152.2).bind fun x158 =>
  (F70 F t2.2 x158).bind fun r160 =>
  (if r160 then 
  ((F70 F t3.2 x158).bind fun r164 =>
  some r164)
   else some false).bind fun y169 =>
  if y169 then
  (some (.more (((wrapA .i64 (s152.1 + 1)), (wrapA .i64 (s152.2 + 1))))))
  else
  some (.more ((s152.1, (wrapA .i64 (s152.2 + 1))))))
  else
  some (.stop s152.1)
def F8 (F : Nat) (t0 : Int) (t1 : List (List UInt8)) (t2 : Int × (List (List UInt8))) (t3 : Int × (List (List UInt8))) : Option Bool :=
  (F58 F t0 t1).bind fun r9 =>
  (F59 F ((t2.1, t2.2)) ((t3.1, t3.2))).bind fun r22 =>
  (F60 F ((t2.1, t2.2)) ((t3.1, t3.2))).bind fun r35 =>
  (iter (F8_l0 F t1) F 0).bind fun b58 =>
  match b58 with
  | .inl b60 => ((show Option (Int) from (if ((decide (t0 < 1)) || (decide (t0 > 30))) then
  (some 1)
  else
  (F63_64 F t1).bind fun r65 =>
  if r65 then
  (some 2)
  else
  some 0)).bind fun b70 =>
  (if ((r9.2 != b70) || ((b70 != 0) && ((r9.1.1 != 0) || (decide ((r9.1.2.length : Int) > 0))))) then some true else 
  ((if (b70 == 0) then 
  ((if (r9.1.1 != t0) then some true else 
  ((F66 F t0 t1).bind fun r78 =>
  (F65 F r9.1.2 r78).bind fun r84 =>
  some (!r84))
  ).bind fun y89 =>
  some y89)
   else some false).bind fun y94 =>
  some y94)
  ).bind fun y99 =>
  if y99 then
  (some false)
  else
  (F67 F ((t2.1, t2.2))).bind fun r104 =>
  (F68 F ((t2.1, t2.2))).bind fun r108 =>
  if (r108 != r104) then
  (some false)
  else
  (show Option (Int) from (if (r104 == 0) then
  ((F67 F ((t3.1, t3.2))).bind fun r114 =>
  some r114)
  else
  some r104)).bind fun b118 =>
  (show Option (Int) from (if ((b118 == 0) && (t2.1 != t3.1)) then
  (some 3)
  else
  some b118)).bind fun b125 =>
  if (b125 != 0) then
  (some (((((((r22.2 == b125) && (r35.2.2 == b125)) && (r22.1.1 == 0)) && ((r22.1.2.length : Int) == 0)) && (r35.1 == 0)) && (r35.2.1 == 0))))
  else
  (F69 F ([t2.2, t3.2])).bind fun r140 =>
  (F66 F t2.1 r140).bind fun r146 =>
  (iter (F8_l1 F t2 t3 r146) F (0, 0)).bind fun b174 =>
  (if ((r22.2 == 0) && (r22.1.1 == t2.1)) then 
  ((F65 F r22.1.2 r146).bind fun r179 =>
  some r179)
   else some false).bind fun y184 =>
  some ((((y184 && (r35.2.2 == 0)) && (r35.1 == b174)) && (r35.2.1 == (r146.length : Int)))))
  | .inr b60 => (some b60)

end Go.Proofs.Ytihmliblbhjlaaa
