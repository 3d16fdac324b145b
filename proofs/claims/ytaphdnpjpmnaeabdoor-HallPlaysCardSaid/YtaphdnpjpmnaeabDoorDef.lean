/- Functional texts of the functions: printed by a program of ours (gen.py). -/
import Derived.Test.YtaphdnpjpmnaeabDoorDenJ
set_option linter.unusedVariables false
namespace Go.Proofs.YtaphdnpjpmnaeabDoor
open Go.Am
abbrev Y32 : Lay (Int × Int × (List UInt8) × (List UInt8)) := Lay.flat 4 (fun a => [.int .i64 a.1, .int .i64 a.2.1, .str a.2.2.1, .str a.2.2.2]) fun _ => rfl
abbrev Y52 : Lay ((List UInt8) × Int × Int) := Lay.flat 3 (fun a => [.str a.1, .int .i64 a.2.1, .int .i64 a.2.2]) fun _ => rfl
abbrev Y82 : Lay ((List UInt8) × (List UInt8) × Int) := Lay.flat 3 (fun a => [.str a.1, .str a.2.1, .int .i64 a.2.2]) fun _ => rfl
abbrev Y9 : Lay (List UInt8) := Lay.one SV.str
abbrev Y41 : Lay ((List UInt8) × Int × Int) := Lay.flat 3 (fun a => [.str a.1, .int .i64 a.2.1, .int .i64 a.2.2]) fun _ => rfl
abbrev Y65 : Lay ((List UInt8) × (List UInt8) × Int) := Lay.flat 3 (fun a => [.str a.1, .str a.2.1, .int .i64 a.2.2]) fun _ => rfl
abbrev Y34 : Lay ((List UInt8) × Int) := Lay.flat 2 (fun a => [.str a.1, .int .i64 a.2]) fun _ => rfl
abbrev Y3 : Lay Int := Lay.one (SV.int .i64)
abbrev Y5 : Lay Int := Lay.one (SV.int .u8)
abbrev Y94 : Lay (List Bool) := Lay.arr 256 SV.bool

def F4 (F : Nat)  : Option ((Option ((List ((List UInt8) × Int × Int)) × (List ((List UInt8) × (List UInt8) × Int))))) :=
  some ((some (([], []))))

def F5_l0 (F : Nat) (t0 : (List ((List UInt8) × Int × Int)) × (List ((List UInt8) × (List UInt8) × Int))) (s1 : (List (List UInt8)) × Int) : Option (Stp ((List (List UInt8)) × Int) ((List (List UInt8)))) :=
  if (decide (s1.2 < (t0.1.length : Int))) then
  ((at? t0.1 s1.2).bind fun x11 =>
  (app? s1.1 ([((x11.1, x11.2.1, x11.2.2)).1])).bind fun L23 =>
  some (.more ((L23, (wrapA .i64 (s1.2 + 1))))))
  else
  some (.stop s1.1)
def F5 (F : Nat) (t0 : (List ((List UInt8) × Int × Int)) × (List ((List UInt8) × (List UInt8) × Int))) : Option ((List (List UInt8))) :=
  (iter (F5_l0 F t0) F ([], 0)).bind fun b29 =>
  some b29

def F13_l0 (F : Nat) (t0 : (List ((List UInt8) × Int × Int)) × (List ((List UInt8) × (List UInt8) × Int))) (s1 : (List Int) × Int) : Option (Stp ((List Int) × Int) ((List Int))) :=
  if (decide (s1.2 < (t0.1.length : Int))) then
  ((at? t0.1 s1.2).bind fun x11 =>
  (app? s1.1 ([((x11.1, x11.2.1, x11.2.2)).2.1])).bind fun L23 =>
  some (.more ((L23, (wrapA .i64 (s1.2 + 1))))))
  else
  some (.stop s1.1)
def F13 (F : Nat) (t0 : (List ((List UInt8) × Int × Int)) × (List ((List UInt8) × (List UInt8) × Int))) : Option ((List Int)) :=
  (iter (F13_l0 F t0) F ([], 0)).bind fun b29 =>
  some b29

def F35_l0 (F : Nat) (t0 : List Int) (s2 : Int) : Option (Stp (Int) (Unit ⊕ Int)) :=
  if (decide (s2 < (t0.length : Int))) then
  ((at? t0 s2).bind fun x10 =>
  if ((decide (x10 < 0)) || (decide (x10 > 100))) then
  (some (.stop ((.inr 1))))
  else
  some (.more ((wrapA .i64 (s2 + 1)))))
  else
  some (.stop ((.inl ())))
def F35 (F : Nat) (t0 : List Int) : Option Int :=
  if (decide ((t0.length : Int) > 8)) then
  (some 2)
  else
  (iter (F35_l0 F t0) F 0).bind fun b14 =>
  match b14 with
  | .inl b16 => (some 0)
  | .inr b16 => (some b16)

def F34_l0 (F : Nat) (t0 : List Int) (s6 : Int × Int) : Option (Stp (Int × Int) (Int)) :=
  if (decide (s6.2 < (t0.length : Int))) then
  ((at? t0 s6.2).bind fun x12 =>
  some (.more (((wrapA .i64 (s6.1 + x12)), (wrapA .i64 (s6.2 + 1))))))
  else
  some (.stop s6.1)
def F34 (F : Nat) (t0 : List Int) : Option (Int × Int) :=
  (F35 F t0).bind fun r1 =>
  if (r1 != 0) then
  (some ((0, r1)))
  else
  (iter (F34_l0 F t0) F (0, 0)).bind fun b14 =>
  some ((b14, 0))

def F12_l0 (F : Nat) (t0 : List Int) (s9 : Int × Int) : Option (Stp (Int × Int) (Int)) :=
  (at? t0 s9.2).bind fun x14 =>
  if (decide (s9.1 ≥ x14)) then
  ((at? t0 s9.2).bind fun x17 =>
  some (.more (((wrapA .i64 (s9.1 - x17)), (wrapA .i64 (s9.2 + 1))))))
  else
  some (.stop s9.2)
def F12 (F : Nat) (t0 : List Int) (t1 : Int) : Option (Int × Int) :=
  (F34 F t0).bind fun r1 =>
  if (r1.2 != 0) then
  (some ((0, r1.2)))
  else
  if (r1.1 == 0) then
  (some ((0, 4)))
  else
  if ((decide (t1 < 0)) || (decide (t1 ≥ r1.1))) then
  (some ((0, 1)))
  else
  (iter (F12_l0 F t0) F (t1, 0)).bind fun b19 =>
  some ((b19, 0))

def F11 (F : Nat) (t0 : (List ((List UInt8) × Int × Int)) × (List ((List UInt8) × (List UInt8) × Int))) (t1 : Int) (t2 : Int) : Option (((List UInt8) × Int) × Int × ((List ((List UInt8) × Int × Int)) × (List ((List UInt8) × (List UInt8) × Int)))) :=
  if (t2 != 0) then
  (some (((((([], 0) : (List UInt8) × Int)).1, ((([], 0) : (List UInt8) × Int)).2), t2, (t0.1, t0.2))))
  else
  (at? t0.1 t1).bind fun x9 =>
  (at? t0.1 t1).bind fun x11 =>
  (at? ((t0.1.set ((Int.toNat t1)) ((x11.1, x11.2.1, (wrapA .i64 (x9.2.2 + 1)))))) t1).bind fun x15 =>
  (at? ((t0.1.set ((Int.toNat t1)) ((x11.1, x11.2.1, (wrapA .i64 (x9.2.2 + 1)))))) t1).bind fun x17 =>
  some (((((x15.1, x17.2.2)).1, ((x15.1, x17.2.2)).2), 0, ((t0.1.set ((Int.toNat t1)) ((x11.1, x11.2.1, (wrapA .i64 (x9.2.2 + 1))))), t0.2)))

def F36_l0 (F : Nat) (t0 : List Int) (t1 : List Int) (s1 : Int × Int) : Option (Stp (Int × Int) (Int)) :=
  if (decide (s1.2 < (t0.length : Int))) then
  ((at? t0 s1.2).bind fun x7 =>
  (if (decide (x7 > 0)) then 
  ((if (decide (s1.1 < 0)) then some true else 
  ((at? t1 s1.2).bind fun x9 =>
  (at? t0 s1.1).bind fun x11 =>
  (at? t1 s1.1).bind fun x13 =>
  some (decide ((wrapA .i64 (x9 * x11)) < (wrapA .i64 (x13 * x7)))))
  ).bind fun y16 =>
  some y16)
   else some false).bind fun y19 =>
  if y19 then
  (some (.more ((s1.2, (wrapA .i64 (s1.2 + 1))))))
  else
  some (.more ((s1.1, (wrapA .i64 (s1.2 + 1))))))
  else
  some (.stop s1.1)
def F36 (F : Nat) (t0 : List Int) (t1 : List Int) : Option Int :=
  (iter (F36_l0 F t0 t1) F ((-1), 0)).bind fun b22 =>
  some b22

def F14_l0 (F : Nat) (t1 : List Int) (s7 : Int) : Option (Stp (Int) (Unit ⊕ (Int × Int))) :=
  if (decide (s7 < (t1.length : Int))) then
  ((at? t1 s7).bind fun x15 =>
  if ((decide (x15 < 0)) || (decide (x15 > 1000000000))) then
  (some (.stop ((.inr (0, 1)))))
  else
  some (.more ((wrapA .i64 (s7 + 1)))))
  else
  some (.stop ((.inl ())))
def F14 (F : Nat) (t0 : List Int) (t1 : List Int) : Option (Int × Int) :=
  (F35 F t0).bind fun r1 =>
  if (r1 != 0) then
  (some ((0, r1)))
  else
  if ((t1.length : Int) != (t0.length : Int)) then
  (some ((0, 3)))
  else
  (iter (F14_l0 F t1) F 0).bind fun b19 =>
  match b19 with
  | .inl b21 => ((F36 F t0 t1).bind fun r24 =>
  if (decide (r24 < 0)) then
  (some ((0, 4)))
  else
  some ((r24, 0)))
  | .inr b21 => (some ((b21.1, b21.2)))

def F15_l0 (F : Nat) (L1 : List Int) (s7 : Int) : Option (Stp (Int) (Unit ⊕ Bool)) :=
  if (decide (s7 < (L1.length : Int))) then
  ((at? L1 s7).bind fun x15 =>
  if ((decide (x15 < 97)) || (decide (x15 > 122))) then
  (some (.stop ((.inr false))))
  else
  some (.more ((wrapA .i64 (s7 + 1)))))
  else
  some (.stop ((.inl ())))
def F15 (F : Nat) (t0 : List UInt8) : Option Bool :=
  (bytes? t0).bind fun L1 =>
  (iter (F15_l0 F L1) F 0).bind fun b19 =>
  match b19 with
  | .inl b21 => (some (((decide ((t0.length : Int) > 0)) && (decide ((t0.length : Int) ≤ 12)))))
  | .inr b21 => (some b21)

def F38 (F : Nat) (t0 : (List UInt8) × Int × Int) (c0 : List UInt8) : Option Bool :=
  some ((((t0.1, t0.2.1, t0.2.2)).1 == c0))

def F37_38_l0 (F : Nat) (t0 : List ((List UInt8) × Int × Int)) (t1c0 : List UInt8) (s1 : Int) : Option (Stp (Int) (Unit ⊕ Int)) :=
  if (decide (s1 < (t0.length : Int))) then
  ((at? t0 s1).bind fun x9 =>
  (F38 F ((x9.1, x9.2.1, x9.2.2)) t1c0).bind fun r11 =>
  if r11 then
  (some (.stop ((.inr s1))))
  else
  some (.more ((wrapA .i64 (s1 + 1)))))
  else
  some (.stop ((.inl ())))
def F37_38 (F : Nat) (t0 : List ((List UInt8) × Int × Int)) (t1c0 : List UInt8) : Option Int :=
  (iter (F37_38_l0 F t0 t1c0) F 0).bind fun b16 =>
  match b16 with
  | .inl b18 => (some ((-1)))
  | .inr b18 => (some b18)

def F16 (F : Nat) (t0 : (List ((List UInt8) × Int × Int)) × (List ((List UInt8) × (List UInt8) × Int))) (t1 : List UInt8) : Option Int :=
  (F37_38 F t0.1 t1).bind fun r6 =>
  some r6

def F17 (F : Nat) (t0 : (List ((List UInt8) × Int × Int)) × (List ((List UInt8) × (List UInt8) × Int))) (t1 : Int) (t2 : Int × Int × (List UInt8) × (List UInt8)) : Option (Int × ((List ((List UInt8) × Int × Int)) × (List ((List UInt8) × (List UInt8) × Int)))) :=
  if (decide (t1 ≥ 0)) then
  (some ((8, (t0.1, t0.2))))
  else
  if ((decide (((t2.1, t2.2.1, t2.2.2.1, t2.2.2.2)).2.1 < 0)) || (decide (((t2.1, t2.2.1, t2.2.2.1, t2.2.2.2)).2.1 > 100))) then
  (some ((1, (t0.1, t0.2))))
  else
  if ((t0.1.length : Int) == 8) then
  (some ((9, (t0.1, t0.2))))
  else
  (appB? 4398046511104 t0.1 ([(((t2.1, t2.2.1, t2.2.2.1, t2.2.2.2)).2.2.1, ((t2.1, t2.2.1, t2.2.2.1, t2.2.2.2)).2.1, 0)])).bind fun L13 =>
  some ((0, (L13, t0.2)))

def F40 (F : Nat) (t0 : (List UInt8) × (List UInt8) × Int) (c0 : List UInt8) : Option Bool :=
  some (((((t0.1, t0.2.1, t0.2.2)).1 == c0) || (((t0.1, t0.2.1, t0.2.2)).2.1 == c0)))

def F47_40_l0 (F : Nat) (t0 : List ((List UInt8) × (List UInt8) × Int)) (t1c0 : List UInt8) (s1 : Int) : Option (Stp (Int) (Unit ⊕ Int)) :=
  if (decide (s1 < (t0.length : Int))) then
  ((at? t0 s1).bind fun x9 =>
  (F40 F ((x9.1, x9.2.1, x9.2.2)) t1c0).bind fun r11 =>
  if r11 then
  (some (.stop ((.inr s1))))
  else
  some (.more ((wrapA .i64 (s1 + 1)))))
  else
  some (.stop ((.inl ())))
def F47_40 (F : Nat) (t0 : List ((List UInt8) × (List UInt8) × Int)) (t1c0 : List UInt8) : Option Int :=
  (iter (F47_40_l0 F t0 t1c0) F 0).bind fun b16 =>
  match b16 with
  | .inl b18 => (some ((-1)))
  | .inr b18 => (some b18)

def F39_40 (F : Nat) (t0 : List ((List UInt8) × (List UInt8) × Int)) (t1c0 : List UInt8) : Option Bool :=
  (F47_40 F t0 t1c0).bind fun r1 =>
  some ((decide (r1 ≥ 0)))

def F41 (F : Nat) (t0 : (List ((List UInt8) × Int × Int))) (t1 : Int) (t2 : Int) : Option ((List ((List UInt8) × Int × Int))) := if 0 ≤ t1 then delB? 4398046511104 t0 t1 t2 else none

def F18 (F : Nat) (t0 : (List ((List UInt8) × Int × Int)) × (List ((List UInt8) × (List UInt8) × Int))) (t1 : Int) : Option (Int × ((List ((List UInt8) × Int × Int)) × (List ((List UInt8) × (List UInt8) × Int)))) :=
  (at? t0.1 t1).bind fun x1 =>
  (F39_40 F t0.2 x1.1).bind fun r10 =>
  if r10 then
  (some ((7, (t0.1, t0.2))))
  else
  (F41 F t0.1 t1 ((wrapA .i64 (t1 + 1)))).bind fun r15 =>
  some ((0, (r15, t0.2)))

def F42 (F : Nat) (t0 : List Int) (t1 : Int) (t2 : Int) (t3 : Int) : Option ((List Int) × Int) :=
  (F35 F t0).bind fun r1 =>
  if (r1 != 0) then
  (some (([], r1)))
  else
  if (((((decide (t1 < 0)) || (decide (t1 ≥ (t0.length : Int)))) || (decide (t2 < 0))) || (decide (t2 ≥ (t0.length : Int)))) || (decide (t3 < 0))) then
  (some (([], 1)))
  else
  (at? t0 t1).bind fun x11 =>
  if (decide (t3 > x11)) then
  (some (([], 4)))
  else
  (app? ([]) t0).bind fun L18 =>
  (at? L18 t1).bind fun x24 =>
  (ck L18 t1).bind fun u26 =>
  (at? ((L18.set ((Int.toNat t1)) ((wrapA .i64 (x24 - t3))))) t2).bind fun x30 =>
  (ck ((L18.set ((Int.toNat t1)) ((wrapA .i64 (x24 - t3))))) t2).bind fun u32 =>
  (at? ((((L18.set ((Int.toNat t1)) ((wrapA .i64 (x24 - t3))))).set ((Int.toNat t2)) ((wrapA .i64 (x30 + t3))))) t2).bind fun x36 =>
  if (decide (x36 > 100)) then
  (some (([], 9)))
  else
  some (((((L18.set ((Int.toNat t1)) ((wrapA .i64 (x24 - t3))))).set ((Int.toNat t2)) ((wrapA .i64 (x30 + t3)))), 0))

def F19 (F : Nat) (t0 : (List ((List UInt8) × Int × Int)) × (List ((List UInt8) × (List UInt8) × Int))) (t1 : Int) (t2 : Int × Int × (List UInt8) × (List UInt8)) : Option (Int × ((List ((List UInt8) × Int × Int)) × (List ((List UInt8) × (List UInt8) × Int)))) :=
  (F16 F ((t0.1, t0.2)) (((t2.1, t2.2.1, t2.2.2.1, t2.2.2.2)).2.2.2)).bind fun r5 =>
  if (decide (r5 < 0)) then
  (some ((4, (t0.1, t0.2))))
  else
  if ((r5 == t1) || (decide (((t2.1, t2.2.1, t2.2.2.1, t2.2.2.2)).2.1 < 1))) then
  (some ((1, (t0.1, t0.2))))
  else
  (F13 F ((t0.1, t0.2))).bind fun r12 =>
  (F42 F r12 t1 r5 (((t2.1, t2.2.1, t2.2.2.1, t2.2.2.2)).2.1)).bind fun r18 =>
  if (r18.2 != 0) then
  (some ((r18.2, (t0.1, t0.2))))
  else
  (at? r18.1 t1).bind fun x25 =>
  (at? r18.1 r5).bind fun x27 =>
  (at? t0.1 t1).bind fun x29 =>
  (at? ((t0.1.set ((Int.toNat t1)) ((x29.1, x25, x29.2.2)))) r5).bind fun x33 =>
  (appB? 3518437208883 t0.2 ([(((t2.1, t2.2.1, t2.2.2.1, t2.2.2.2)).2.2.1, ((t2.1, t2.2.1, t2.2.2.1, t2.2.2.2)).2.2.2, ((t2.1, t2.2.1, t2.2.2.1, t2.2.2.2)).2.1)])).bind fun L41 =>
  some ((0, ((((t0.1.set ((Int.toNat t1)) ((x29.1, x25, x29.2.2)))).set ((Int.toNat r5)) ((x33.1, x27, x33.2.2))), L41)))

def F43 (F : Nat) (t0 : (List ((List UInt8) × (List UInt8) × Int))) (t1 : Int) (t2 : Int) : Option ((List ((List UInt8) × (List UInt8) × Int))) := if 0 ≤ t1 then delB? 3518437208883 t0 t1 t2 else none

def F20_l0 (F : Nat) (t1 : List UInt8) (s5 : Int × Int × (List ((List UInt8) × Int × Int)) × (List ((List UInt8) × (List UInt8) × Int))) : Option (Stp (Int × Int × (List ((List UInt8) × Int × Int)) × (List ((List UInt8) × (List UInt8) × Int))) (Int × (List ((List UInt8) × Int × Int)) × (List ((List UInt8) × (List UInt8) × Int)))) :=
  if (decide (s5.2.1 ≥ 0)) then
  ((at? s5.2.2.2 s5.2.1).bind fun x19 =>
  if (!(((x19.1, x19.2.1, x19.2.2)).1 == t1)) then
  (some (.more ((s5.1, (wrapA .i64 (s5.2.1 - 1)), s5.2.2.1, s5.2.2.2))))
  else
  (F16 F ((s5.2.2.1, s5.2.2.2)) (((x19.1, x19.2.1, x19.2.2)).1)).bind fun r28 =>
  (F16 F ((s5.2.2.1, s5.2.2.2)) (((x19.1, x19.2.1, x19.2.2)).2.1)).bind fun r32 =>
  (at? s5.2.2.1 r32).bind fun x36 =>
  (at? s5.2.2.1 r28).bind fun x38 =>
  (at? s5.2.2.1 r32).bind fun x40 =>
  (at? s5.2.2.1 r32).bind fun x42 =>
  (at? ((s5.2.2.1.set ((Int.toNat r32)) ((x42.1, (wrapA .i64 (x40.2.1 - (minI (minI ((x19.1, x19.2.1, x19.2.2)).2.2 x36.2.1) (wrapA .i64 (100 - x38.2.1))))), x42.2.2)))) r28).bind fun x46 =>
  (at? ((s5.2.2.1.set ((Int.toNat r32)) ((x42.1, (wrapA .i64 (x40.2.1 - (minI (minI ((x19.1, x19.2.1, x19.2.2)).2.2 x36.2.1) (wrapA .i64 (100 - x38.2.1))))), x42.2.2)))) r28).bind fun x48 =>
  (at? s5.2.2.2 s5.2.1).bind fun x52 =>
  (at? s5.2.2.2 s5.2.1).bind fun x54 =>
  (at? ((s5.2.2.2.set ((Int.toNat s5.2.1)) ((x54.1, x54.2.1, (wrapA .i64 (x52.2.2 - (minI (minI ((x19.1, x19.2.1, x19.2.2)).2.2 x36.2.1) (wrapA .i64 (100 - x38.2.1))))))))) s5.2.1).bind fun x58 =>
  if (x58.2.2 == 0) then
  ((F43 F ((s5.2.2.2.set ((Int.toNat s5.2.1)) ((x54.1, x54.2.1, (wrapA .i64 (x52.2.2 - (minI (minI ((x19.1, x19.2.1, x19.2.2)).2.2 x36.2.1) (wrapA .i64 (100 - x38.2.1))))))))) s5.2.1 ((wrapA .i64 (s5.2.1 + 1)))).bind fun r61 =>
  some (.more (((wrapA .i64 (s5.1 + (minI (minI ((x19.1, x19.2.1, x19.2.2)).2.2 x36.2.1) (wrapA .i64 (100 - x38.2.1))))), (wrapA .i64 (s5.2.1 - 1)), (((s5.2.2.1.set ((Int.toNat r32)) ((x42.1, (wrapA .i64 (x40.2.1 - (minI (minI ((x19.1, x19.2.1, x19.2.2)).2.2 x36.2.1) (wrapA .i64 (100 - x38.2.1))))), x42.2.2)))).set ((Int.toNat r28)) ((x48.1, (wrapA .i64 (x46.2.1 + (minI (minI ((x19.1, x19.2.1, x19.2.2)).2.2 x36.2.1) (wrapA .i64 (100 - x38.2.1))))), x48.2.2))), r61))))
  else
  some (.more (((wrapA .i64 (s5.1 + (minI (minI ((x19.1, x19.2.1, x19.2.2)).2.2 x36.2.1) (wrapA .i64 (100 - x38.2.1))))), (wrapA .i64 (s5.2.1 - 1)), (((s5.2.2.1.set ((Int.toNat r32)) ((x42.1, (wrapA .i64 (x40.2.1 - (minI (minI ((x19.1, x19.2.1, x19.2.2)).2.2 x36.2.1) (wrapA .i64 (100 - x38.2.1))))), x42.2.2)))).set ((Int.toNat r28)) ((x48.1, (wrapA .i64 (x46.2.1 + (minI (minI ((x19.1, x19.2.1, x19.2.2)).2.2 x36.2.1) (wrapA .i64 (100 - x38.2.1))))), x48.2.2))), (s5.2.2.2.set ((Int.toNat s5.2.1)) ((x54.1, x54.2.1, (wrapA .i64 (x52.2.2 - (minI (minI ((x19.1, x19.2.1, x19.2.2)).2.2 x36.2.1) (wrapA .i64 (100 - x38.2.1))))))))))))
  else
  some (.stop ((s5.1, s5.2.2.1, s5.2.2.2)))
def F20 (F : Nat) (t0 : (List ((List UInt8) × Int × Int)) × (List ((List UInt8) × (List UInt8) × Int))) (t1 : List UInt8) : Option (((List UInt8) × Int) × ((List ((List UInt8) × Int × Int)) × (List ((List UInt8) × (List UInt8) × Int)))) :=
  (iter (F20_l0 F t1) F (0, (wrapA .i64 ((t0.2.length : Int) - 1)), t0.1, t0.2)).bind fun b69 =>
  some (((((t1, b69.1)).1, ((t1, b69.1)).2), (b69.2.1, b69.2.2)))

def F6_l0 (F : Nat) (t0 : (List ((List UInt8) × Int × Int)) × (List ((List UInt8) × (List UInt8) × Int))) (s41 : (List Int) × Int) : Option (Stp ((List Int) × Int) ((List Int))) :=
  if (decide (s41.2 < (t0.1.length : Int))) then
  ((at? t0.1 s41.2).bind fun x51 =>
  (app? s41.1 ([((x51.1, x51.2.1, x51.2.2)).2.2])).bind fun L63 =>
  some (.more ((L63, (wrapA .i64 (s41.2 + 1))))))
  else
  some (.stop s41.1)
def F6 (F : Nat) (t0 : (List ((List UInt8) × Int × Int)) × (List ((List UInt8) × (List UInt8) × Int))) (t1 : Int × Int × (List UInt8) × (List UInt8)) : Option (((List UInt8) × Int) × Int × ((List ((List UInt8) × Int × Int)) × (List ((List UInt8) × (List UInt8) × Int)))) :=
  if (((t1.1, t1.2.1, t1.2.2.1, t1.2.2.2)).1 == 5) then
  ((F13 F ((t0.1, t0.2))).bind fun r16 =>
  (F12 F r16 (((t1.1, t1.2.1, t1.2.2.1, t1.2.2.2)).2.1)).bind fun r22 =>
  (F11 F ((t0.1, t0.2)) r22.1 r22.2).bind fun r26 =>
  some (((((r26.1.1, r26.1.2)).1, ((r26.1.1, r26.1.2)).2), r26.2.1, (r26.2.2.1, r26.2.2.2))))
  else
  if (((t1.1, t1.2.1, t1.2.2.1, t1.2.2.2)).1 == 7) then
  ((iter (F6_l0 F t0) F ([], 0)).bind fun b69 =>
  (F13 F ((t0.1, t0.2))).bind fun r74 =>
  (F14 F r74 b69).bind fun r80 =>
  (F11 F ((t0.1, t0.2)) r80.1 r80.2).bind fun r84 =>
  some (((((r84.1.1, r84.1.2)).1, ((r84.1.1, r84.1.2)).2), r84.2.1, (r84.2.2.1, r84.2.2.2))))
  else
  (show Option (Bool) from (if (((t1.1, t1.2.1, t1.2.2.1, t1.2.2.2)).1 == 1) then
  (some ((((t1.1, t1.2.1, t1.2.2.1, t1.2.2.2)).1 == 1)))
  else
  if (((t1.1, t1.2.1, t1.2.2.1, t1.2.2.2)).1 == 2) then
  (some ((((t1.1, t1.2.1, t1.2.2.1, t1.2.2.2)).1 == 2)))
  else
  if (((t1.1, t1.2.1, t1.2.2.1, t1.2.2.2)).1 == 3) then
  (some ((((t1.1, t1.2.1, t1.2.2.1, t1.2.2.2)).1 == 3)))
  else
  if (((t1.1, t1.2.1, t1.2.2.1, t1.2.2.2)).1 == 4) then
  (some ((((t1.1, t1.2.1, t1.2.2.1, t1.2.2.2)).1 == 4)))
  else
  some ((((t1.1, t1.2.1, t1.2.2.1, t1.2.2.2)).1 == 6)))).bind fun b102 =>
  if b102 then
  ((F15 F (((t1.1, t1.2.1, t1.2.2.1, t1.2.2.2)).2.2.1)).bind fun r108 =>
  if (!r108) then
  (some ((((((((([], 0) : (List UInt8) × Int)).1, ((([], 0) : (List UInt8) × Int)).2) : (List UInt8) × Int)).1, (((((([], 0) : (List UInt8) × Int)).1, ((([], 0) : (List UInt8) × Int)).2) : (List UInt8) × Int)).2), 3, (t0.1, t0.2))))
  else
  (F16 F ((t0.1, t0.2)) (((t1.1, t1.2.1, t1.2.2.1, t1.2.2.2)).2.2.1)).bind fun r116 =>
  if (((t1.1, t1.2.1, t1.2.2.1, t1.2.2.2)).1 == 1) then
  ((F17 F ((t0.1, t0.2)) r116 ((((t1.1, t1.2.1, t1.2.2.1, t1.2.2.2)).1, ((t1.1, t1.2.1, t1.2.2.1, t1.2.2.2)).2.1, ((t1.1, t1.2.1, t1.2.2.1, t1.2.2.2)).2.2.1, ((t1.1, t1.2.1, t1.2.2.1, t1.2.2.2)).2.2.2))).bind fun r123 =>
  some ((((((((([], 0) : (List UInt8) × Int)).1, ((([], 0) : (List UInt8) × Int)).2) : (List UInt8) × Int)).1, (((((([], 0) : (List UInt8) × Int)).1, ((([], 0) : (List UInt8) × Int)).2) : (List UInt8) × Int)).2), r123.1, (r123.2.1, r123.2.2))))
  else
  if (decide (r116 < 0)) then
  (some ((((((((([], 0) : (List UInt8) × Int)).1, ((([], 0) : (List UInt8) × Int)).2) : (List UInt8) × Int)).1, (((((([], 0) : (List UInt8) × Int)).1, ((([], 0) : (List UInt8) × Int)).2) : (List UInt8) × Int)).2), 4, (t0.1, t0.2))))
  else
  if (((t1.1, t1.2.1, t1.2.2.1, t1.2.2.2)).1 == 2) then
  ((F18 F ((t0.1, t0.2)) r116).bind fun r143 =>
  some ((((((((([], 0) : (List UInt8) × Int)).1, ((([], 0) : (List UInt8) × Int)).2) : (List UInt8) × Int)).1, (((((([], 0) : (List UInt8) × Int)).1, ((([], 0) : (List UInt8) × Int)).2) : (List UInt8) × Int)).2), r143.1, (r143.2.1, r143.2.2))))
  else
  if (((t1.1, t1.2.1, t1.2.2.1, t1.2.2.2)).1 == 3) then
  ((F19 F ((t0.1, t0.2)) r116 ((((t1.1, t1.2.1, t1.2.2.1, t1.2.2.2)).1, ((t1.1, t1.2.1, t1.2.2.1, t1.2.2.2)).2.1, ((t1.1, t1.2.1, t1.2.2.1, t1.2.2.2)).2.2.1, ((t1.1, t1.2.1, t1.2.2.1, t1.2.2.2)).2.2.2))).bind fun r160 =>
  some ((((((((([], 0) : (List UInt8) × Int)).1, ((([], 0) : (List UInt8) × Int)).2) : (List UInt8) × Int)).1, (((((([], 0) : (List UInt8) × Int)).1, ((([], 0) : (List UInt8) × Int)).2) : (List UInt8) × Int)).2), r160.1, (r160.2.1, r160.2.2))))
  else
  if (((t1.1, t1.2.1, t1.2.2.1, t1.2.2.2)).1 == 4) then
  ((F20 F ((t0.1, t0.2)) (((t1.1, t1.2.1, t1.2.2.1, t1.2.2.2)).2.2.1)).bind fun r175 =>
  some (((((r175.1.1, r175.1.2)).1, ((r175.1.1, r175.1.2)).2), 0, (r175.2.1, r175.2.2))))
  else
  (at? t0.1 r116).bind fun x189 =>
  some (((((((t1.1, t1.2.1, t1.2.2.1, t1.2.2.2)).2.2.1, x189.2.2)).1, ((((t1.1, t1.2.1, t1.2.2.1, t1.2.2.2)).2.2.1, x189.2.2)).2), 0, (t0.1, t0.2))))
  else
  some ((((((((([], 0) : (List UInt8) × Int)).1, ((([], 0) : (List UInt8) × Int)).2) : (List UInt8) × Int)).1, (((((([], 0) : (List UInt8) × Int)).1, ((([], 0) : (List UInt8) × Int)).2) : (List UInt8) × Int)).2), 1, (t0.1, t0.2)))

def F21 (F : Nat) (t0 : (List ((List UInt8) × Int × Int))) : Option ((List ((List UInt8) × Int × Int))) := if t0.length ≤ 4398046511104 then some t0 else none

def F22 (F : Nat) (t0 : (List ((List UInt8) × (List UInt8) × Int))) : Option ((List ((List UInt8) × (List UInt8) × Int))) := if t0.length ≤ 3518437208883 then some t0 else none

def F23_l0 (F : Nat) (t0 : (List ((List UInt8) × Int × Int)) × (List ((List UInt8) × (List UInt8) × Int))) (s5 : (List Int) × (List Int) × Int) : Option (Stp ((List Int) × (List Int) × Int) ((List Int) × (List Int))) :=
  if (decide (s5.2.2 < (t0.1.length : Int))) then
  ((at? t0.1 s5.2.2).bind fun x19 =>
  (app? s5.1 ([((x19.1, x19.2.1, x19.2.2)).2.1])).bind fun L42 =>
  (app? s5.2.1 ([((x19.1, x19.2.1, x19.2.2)).2.2])).bind fun L66 =>
  some (.more ((L42, L66, (wrapA .i64 (s5.2.2 + 1))))))
  else
  some (.stop ((s5.1, s5.2.1)))
def F23 (F : Nat) (t0 : (List ((List UInt8) × Int × Int)) × (List ((List UInt8) × (List UInt8) × Int))) : Option ((List Int) × (List Int)) :=
  (iter (F23_l0 F t0) F ([], [], 0)).bind fun b104 =>
  some ((b104.1, b104.2))

def F24_l0 (F : Nat) (s1 : (List Int) × Int) (x11 : Int) (s13 : (List Int) × Int) : Option (Stp ((List Int) × Int) ((List Int))) :=
  if (decide (s13.2 < x11)) then
  ((app? s13.1 ([s1.2])).bind fun L27 =>
  some (.more ((L27, (wrapA .i64 (s13.2 + 1))))))
  else
  some (.stop s13.1)
def F24_l1 (F : Nat) (t0 : List Int) (s1 : (List Int) × Int) : Option (Stp ((List Int) × Int) ((List Int))) :=
  if (decide (s1.2 < (t0.length : Int))) then
  ((at? t0 s1.2).bind fun x11 =>
  (iter (F24_l0 F s1 x11) F (s1.1, 0)).bind fun b33 =>
  some (.more ((b33, (wrapA .i64 (s1.2 + 1))))))
  else
  some (.stop s1.1)
def F24 (F : Nat) (t0 : List Int) (t1 : Int) : Option (Int × Int) :=
  (iter (F24_l1 F t0) F ([], 0)).bind fun b38 =>
  if ((b38.length : Int) == 0) then
  (some ((0, 4)))
  else
  if ((decide (t1 < 0)) || (decide (t1 ≥ (b38.length : Int)))) then
  (some ((0, 1)))
  else
  (at? b38 t1).bind fun x46 =>
  some ((x46, 0))

def F26 (F : Nat) (t0 : Int) : Option Bool :=
  some ((decide (t0 > 1000000000)))

def F44_26_l0 (F : Nat) (t0 : List Int) (s1 : Int) : Option (Stp (Int) (Unit ⊕ Int)) :=
  if (decide (s1 < (t0.length : Int))) then
  ((at? t0 s1).bind fun x9 =>
  (F26 F x9).bind fun r11 =>
  if r11 then
  (some (.stop ((.inr s1))))
  else
  some (.more ((wrapA .i64 (s1 + 1)))))
  else
  some (.stop ((.inl ())))
def F44_26 (F : Nat) (t0 : List Int) : Option Int :=
  (iter (F44_26_l0 F t0) F 0).bind fun b16 =>
  match b16 with
  | .inl b18 => (some ((-1)))
  | .inr b18 => (some b18)

def F25_26 (F : Nat) (t0 : List Int) : Option Bool :=
  (F44_26 F t0).bind fun r1 =>
  some ((decide (r1 ≥ 0)))

def F27_l0 (F : Nat) (t0 : List Int) (t1 : List Int) (s1 : Int) (s12 : Bool × Int) : Option (Stp (Bool × Int) (Bool)) :=
  if (decide (s12.2 < (t0.length : Int))) then
  ((at? t0 s12.2).bind fun x18 =>
  (if (decide (x18 > 0)) then 
  ((at? t1 s12.2).bind fun x20 =>
  (at? t0 s1).bind fun x22 =>
  (at? t1 s1).bind fun x24 =>
  (at? t0 s12.2).bind fun x26 =>
  (if (decide ((wrapA .i64 (x20 * x22)) < (wrapA .i64 (x24 * x26)))) then some true else 
  ((if (decide (s12.2 < s1)) then 
  ((at? t1 s12.2).bind fun x28 =>
  (at? t0 s1).bind fun x30 =>
  (at? t1 s1).bind fun x32 =>
  (at? t0 s12.2).bind fun x34 =>
  some ((wrapA .i64 (x28 * x30)) == (wrapA .i64 (x32 * x34))))
   else some false).bind fun y37 =>
  some y37)
  ).bind fun y40 =>
  some y40)
   else some false).bind fun y43 =>
  if y43 then
  (some (.more ((false, (wrapA .i64 (s12.2 + 1))))))
  else
  some (.more ((s12.1, (wrapA .i64 (s12.2 + 1))))))
  else
  some (.stop s12.1)
def F27_l1 (F : Nat) (t0 : List Int) (t1 : List Int) (s1 : Int) : Option (Stp (Int) (Unit ⊕ Int)) :=
  if (decide (s1 < (t0.length : Int))) then
  ((at? t0 s1).bind fun x9 =>
  if (x9 == 0) then
  (some (.more ((wrapA .i64 (s1 + 1)))))
  else
  (iter (F27_l0 F t0 t1 s1) F (true, 0)).bind fun b46 =>
  if b46 then
  (some (.stop ((.inr s1))))
  else
  some (.more ((wrapA .i64 (s1 + 1)))))
  else
  some (.stop ((.inl ())))
def F27 (F : Nat) (t0 : List Int) (t1 : List Int) : Option Int :=
  (iter (F27_l1 F t0 t1) F 0).bind fun b51 =>
  match b51 with
  | .inl b53 => (some ((-1)))
  | .inr b53 => (some b53)

def F49_l0 (F : Nat) (t1 : Int) (s1 : (List UInt8)) : Option (Stp ((List UInt8)) ((List UInt8))) :=
  (if (decide ((s1.length : Int) > 0)) then 
  ((at? s1 (wrapA .i64 ((s1.length : Int) - 1))).bind fun x6 =>
  some ((x6.toNat : Int) == t1))
   else some false).bind fun y9 =>
  if y9 then
  ((sub? s1 0 (wrapA .i64 ((s1.length : Int) - 1))).bind fun x12 =>
  some (.more x12))
  else
  some (.stop s1)
def F49 (F : Nat) (t0 : List UInt8) (t1 : Int) : Option ((List UInt8)) :=
  (iter (F49_l0 F t1) F t0).bind fun b14 =>
  some b14

def F48_l0 (F : Nat) (t1 : Int) (s1 : (List UInt8)) : Option (Stp ((List UInt8)) ((List UInt8))) :=
  (if (decide ((s1.length : Int) > 0)) then 
  ((at? s1 0).bind fun x6 =>
  some ((x6.toNat : Int) == t1))
   else some false).bind fun y9 =>
  if y9 then
  ((sub? s1 1 s1.length).bind fun x12 =>
  some (.more x12))
  else
  some (.stop s1)
def F48 (F : Nat) (t0 : List UInt8) (t1 : Int) : Option ((List UInt8)) :=
  (iter (F48_l0 F t1) F t0).bind fun b14 =>
  some b14

def F50_l0 (F : Nat) (t0 : List UInt8) (s5 : Int × (List Bool)) : Option (Stp (Int × (List Bool)) ((List Bool) ⊕ (Bool × (List Bool)))) :=
  if (decide (s5.1 < (t0.length : Int))) then
  ((at? t0 s5.1).bind fun x13 =>
  if (decide ((x13.toNat : Int) ≥ 128)) then
  (some (.stop ((.inr (false, s5.2)))))
  else
  (ck s5.2 (x13.toNat : Int)).bind fun u19 =>
  some (.more (((wrapA .i64 (s5.1 + 1)), (s5.2.set ((Int.toNat (x13.toNat : Int))) true)))))
  else
  some (.stop ((.inl s5.2)))
def F50 (F : Nat) (t0 : List UInt8) : Option ((List Bool) × Bool) :=
  (iter (F50_l0 F t0) F (0, (List.replicate 256 false))).bind fun b23 =>
  match b23 with
  | .inl b25 => (some ((b25, true)))
  | .inr b25 => (some ((b25.2, b25.1)))

def F55 (F : Nat) (t0 : List Bool) (t1 : Int) : Option Bool :=
  (at? t0 t1).bind fun x1 =>
  some x1

def F52_l0 (F : Nat) (t1 : List Bool) (s1 : (List UInt8)) : Option (Stp ((List UInt8)) ((List UInt8))) :=
  if (decide ((s1.length : Int) > 0)) then
  ((at? s1 (wrapA .i64 ((s1.length : Int) - 1))).bind fun x7 =>
  (F55 F t1 ((x7.toNat : Int))).bind fun r9 =>
  if (!r9) then
  (some (.stop s1))
  else
  (sub? s1 0 (wrapA .i64 ((s1.length : Int) - 1))).bind fun x14 =>
  some (.more x14))
  else
  some (.stop s1)
def F52 (F : Nat) (t0 : List UInt8) (t1 : List Bool) : Option ((List UInt8)) :=
  (iter (F52_l0 F t1) F t0).bind fun b16 =>
  some b16

def F51_l0 (F : Nat) (t1 : List Bool) (s1 : (List UInt8)) : Option (Stp ((List UInt8)) ((List UInt8))) :=
  if (decide ((s1.length : Int) > 0)) then
  ((at? s1 0).bind fun x7 =>
  (F55 F t1 ((x7.toNat : Int))).bind fun r9 =>
  if (!r9) then
  (some (.stop s1))
  else
  (sub? s1 1 s1.length).bind fun x14 =>
  some (.more x14))
  else
  some (.stop s1)
def F51 (F : Nat) (t0 : List UInt8) (t1 : List Bool) : Option ((List UInt8)) :=
  (iter (F51_l0 F t1) F t0).bind fun b16 =>
  some b16

def F45 (F : Nat) (t0 : List UInt8) (t1 : List UInt8) : Option ((List UInt8)) :=
  if ((t0 == []) || (t1 == [])) then
  (some t0)
  else
  (if ((t1.length : Int) == 1) then 
  ((at? t1 0).bind fun x3 =>
  some (decide ((x3.toNat : Int) < 128)))
   else some false).bind fun y6 =>
  if y6 then
  ((at? t1 0).bind fun x9 =>
  (F49 F t0 ((x9.toNat : Int))).bind fun r11 =>
  (at? t1 0).bind fun x15 =>
  (F48 F r11 ((x15.toNat : Int))).bind fun r17 =>
  some r17)
  else
  (F50 F t1).bind fun r21 =>
  (ckN? 256 r21.1).bind fun u31 =>
  if r21.2 then
  ((F52 F t0 r21.1).bind fun r35 =>
  (F51 F r35 r21.1).bind fun r39 =>
  some r39)
  else
  none

def F28 (F : Nat) (t0 : List UInt8) : Option Bool :=
  (if ((!(t0 == [])) && (decide ((t0.length : Int) < 13))) then 
  ((F45 F t0 ([97, 98, 99, 100, 101, 102, 103, 104, 105, 106, 107, 108, 109, 110, 111, 112, 113, 114, 115, 116, 117, 118, 119, 120, 121, 122])).bind fun r2 =>
  some (r2 == []))
   else some false).bind fun y7 =>
  some y7

def F33 (F : Nat) (t0 : (List UInt8) × Int × Int) (c0 : List UInt8) : Option Bool :=
  some ((((t0.1, t0.2.1, t0.2.2)).1 == c0))

def F32_33_l0 (F : Nat) (t0 : List ((List UInt8) × Int × Int)) (t1c0 : List UInt8) (s1 : Int) : Option (Stp (Int) (Unit ⊕ Int)) :=
  if (decide (s1 < (t0.length : Int))) then
  ((at? t0 s1).bind fun x9 =>
  (F33 F ((x9.1, x9.2.1, x9.2.2)) t1c0).bind fun r11 =>
  if r11 then
  (some (.stop ((.inr s1))))
  else
  some (.more ((wrapA .i64 (s1 + 1)))))
  else
  some (.stop ((.inl ())))
def F32_33 (F : Nat) (t0 : List ((List UInt8) × Int × Int)) (t1c0 : List UInt8) : Option Int :=
  (iter (F32_33_l0 F t0 t1c0) F 0).bind fun b16 =>
  match b16 with
  | .inl b18 => (some ((-1)))
  | .inr b18 => (some b18)

def F10 (F : Nat) (t0 : (List ((List UInt8) × Int × Int)) × (List ((List UInt8) × (List UInt8) × Int))) (t1 : List UInt8) : Option Int :=
  (F32_33 F t0.1 t1).bind fun r10 =>
  some r10

def F30 (F : Nat) (t0 : (List UInt8) × (List UInt8) × Int) : Option Bool :=
  some ((((t0.1, t0.2.1, t0.2.2)).2.2 == 0))

def F46_30_l0 (F : Nat) (t0 : List ((List UInt8) × (List UInt8) × Int)) (s1 : Int) : Option (Stp (Int) (Unit ⊕ Int)) :=
  if (decide (s1 < (t0.length : Int))) then
  ((at? t0 s1).bind fun x9 =>
  (F30 F ((x9.1, x9.2.1, x9.2.2))).bind fun r11 =>
  if r11 then
  (some (.stop ((.inr s1))))
  else
  some (.more ((wrapA .i64 (s1 + 1)))))
  else
  some (.stop ((.inl ())))
def F46_30 (F : Nat) (t0 : List ((List UInt8) × (List UInt8) × Int)) : Option Int :=
  (iter (F46_30_l0 F t0) F 0).bind fun b16 =>
  match b16 with
  | .inl b18 => (some ((-1)))
  | .inr b18 => (some b18)

def F29_30_l0 (F : Nat)  (s6 : Int × Int × (List ((List UInt8) × (List UInt8) × Int))) : Option (Stp (Int × Int × (List ((List UInt8) × (List UInt8) × Int))) (Int × (List ((List UInt8) × (List UInt8) × Int)))) :=
  if (decide (s6.2.1 < (s6.2.2.length : Int))) then
  ((at? s6.2.2 s6.2.1).bind fun x12 =>
  (F30 F ((((x12.1, x12.2.1, x12.2.2)).1, ((x12.1, x12.2.1, x12.2.2)).2.1, ((x12.1, x12.2.1, x12.2.2)).2.2))).bind fun r20 =>
  if (!r20) then
  ((ck s6.2.2 s6.1).bind fun u25 =>
  some (.more (((wrapA .i64 (s6.1 + 1)), (wrapA .i64 (s6.2.1 + 1)), (s6.2.2.set ((Int.toNat s6.1)) ((((x12.1, x12.2.1, x12.2.2)).1, ((x12.1, x12.2.1, x12.2.2)).2.1, ((x12.1, x12.2.1, x12.2.2)).2.2)))))))
  else
  some (.more ((s6.1, (wrapA .i64 (s6.2.1 + 1)), s6.2.2))))
  else
  some (.stop ((s6.1, s6.2.2)))
def F29_30 (F : Nat) (t0 : List ((List UInt8) × (List UInt8) × Int)) : Option ((List ((List UInt8) × (List UInt8) × Int))) :=
  (F46_30 F t0).bind fun r1 =>
  if (r1 == (-1)) then
  (some t0)
  else
  (iter (F29_30_l0 F) F (r1, (wrapA .i64 (r1 + 1)), t0)).bind fun b29 =>
  (sub? b29.2 b29.1 b29.2.length).bind fun L33 =>
  (sub? ((b29.2.take (Int.toNat b29.1) ++ List.replicate L33.length (([], [], 0) : (List UInt8) × (List UInt8) × Int))) 0 b29.1).bind fun L40 =>
  some L40

def F7_l0 (F : Nat) (t1 : Int × Int × (List UInt8) × (List UInt8)) (r17 : List ((List UInt8) × Int × Int)) (r23 : List ((List UInt8) × (List UInt8) × Int)) (s847 : Int × (List ((List UInt8) × Int × Int)) × (List ((List UInt8) × (List UInt8) × Int)) × ((List UInt8) × Int)) : Option (Stp (Int × (List ((List UInt8) × Int × Int)) × (List ((List UInt8) × (List UInt8) × Int)) × ((List UInt8) × Int)) (((List ((List UInt8) × Int × Int)) × (List ((List UInt8) × (List UInt8) × Int)) × ((List UInt8) × Int)) ⊕ (Int × (List ((List UInt8) × Int × Int)) × (List ((List UInt8) × (List UInt8) × Int)) × ((List UInt8) × Int)))) :=
  if (decide (s847.1 < (r23.length : Int))) then
  ((at? r23 s847.1).bind fun x865 =>
  if ((((x865.1, x865.2.1, x865.2.2)).1 == ((t1.1, t1.2.1, t1.2.2.1, t1.2.2.2)).2.2.1) || (((x865.1, x865.2.1, x865.2.2)).2.1 == ((t1.1, t1.2.1, t1.2.2.1, t1.2.2.2)).2.2.1)) then
  (some (.stop ((.inr (7, r17, r23, ((((([], 0) : (List UInt8) × Int)).1, ((([], 0) : (List UInt8) × Int)).2) : (List UInt8) × Int))))))
  else
  some (.more (((wrapA .i64 (s847.1 + 1)), s847.2.1, s847.2.2.1, s847.2.2.2))))
  else
  some (.stop ((.inl (s847.2.1, s847.2.2.1, s847.2.2.2))))
def F7_l1 (F : Nat) (r335 : Int) (s1572 : Int × Int × (List ((List UInt8) × Int × Int)) × (List ((List UInt8) × (List UInt8) × Int))) (r1591 : Int) (s1595 : Int × (List ((List UInt8) × Int × Int)) × (List ((List UInt8) × (List UInt8) × Int))) : Option (Stp (Int × (List ((List UInt8) × Int × Int)) × (List ((List UInt8) × (List UInt8) × Int))) (Int × (List ((List UInt8) × Int × Int)) × (List ((List UInt8) × (List UInt8) × Int)))) :=
  (at? s1595.2.2 s1572.2.1).bind fun x1608 =>
  (if (decide (x1608.2.2 > 0)) then 
  ((at? s1595.2.1 r1591).bind fun x1610 =>
  some (decide (x1610.2.1 > 0)))
   else some false).bind fun y1613 =>
  (if y1613 then 
  ((at? s1595.2.1 r335).bind fun x1615 =>
  some (decide (x1615.2.1 < 100)))
   else some false).bind fun y1618 =>
  if y1618 then
  ((at? s1595.2.2 s1572.2.1).bind fun x1621 =>
  (at? s1595.2.2 s1572.2.1).bind fun x1623 =>
  (at? s1595.2.1 r1591).bind fun x1627 =>
  (at? s1595.2.1 r1591).bind fun x1629 =>
  (at? ((s1595.2.1.set ((Int.toNat r1591)) ((x1629.1, (wrapA .i64 (x1627.2.1 - 1)), x1629.2.2)))) r335).bind fun x1633 =>
  (at? ((s1595.2.1.set ((Int.toNat r1591)) ((x1629.1, (wrapA .i64 (x1627.2.1 - 1)), x1629.2.2)))) r335).bind fun x1635 =>
  some (.more (((wrapA .i64 (s1595.1 + 1)), (((s1595.2.1.set ((Int.toNat r1591)) ((x1629.1, (wrapA .i64 (x1627.2.1 - 1)), x1629.2.2)))).set ((Int.toNat r335)) ((x1635.1, (wrapA .i64 (x1633.2.1 + 1)), x1635.2.2))), (s1595.2.2.set ((Int.toNat s1572.2.1)) ((x1623.1, x1623.2.1, (wrapA .i64 (x1621.2.2 - 1)))))))))
  else
  some (.stop ((s1595.1, s1595.2.1, s1595.2.2)))
def F7_l2 (F : Nat) (t1 : Int × Int × (List UInt8) × (List UInt8)) (r335 : Int) (s1572 : Int × Int × (List ((List UInt8) × Int × Int)) × (List ((List UInt8) × (List UInt8) × Int))) : Option (Stp (Int × Int × (List ((List UInt8) × Int × Int)) × (List ((List UInt8) × (List UInt8) × Int))) (Int × (List ((List UInt8) × Int × Int)) × (List ((List UInt8) × (List UInt8) × Int)))) :=
  if (decide (s1572.2.1 ≥ 0)) then
  ((at? s1572.2.2.2 s1572.2.1).bind fun x1586 =>
  if (!(x1586.1 == ((t1.1, t1.2.1, t1.2.2.1, t1.2.2.2)).2.2.1)) then
  (some (.more ((s1572.1, (wrapA .i64 (s1572.2.1 - 1)), s1572.2.2.1, s1572.2.2.2))))
  else
  (at? s1572.2.2.2 s1572.2.1).bind fun x1589 =>
  (F10 F ((s1572.2.2.1, s1572.2.2.2)) x1589.2.1).bind fun r1591 =>
  (iter (F7_l1 F r335 s1572 r1591) F (s1572.1, s1572.2.2.1, s1572.2.2.2)).bind fun b1639 =>
  some (.more ((b1639.1, (wrapA .i64 (s1572.2.1 - 1)), b1639.2.1, b1639.2.2))))
  else
  some (.stop ((s1572.1, s1572.2.2.1, s1572.2.2.2)))
def F7 (F : Nat) (t0 : (List ((List UInt8) × Int × Int)) × (List ((List UInt8) × (List UInt8) × Int))) (t1 : Int × Int × (List UInt8) × (List UInt8)) : Option (((List ((List UInt8) × Int × Int)) × (List ((List UInt8) × (List UInt8) × Int))) × ((List UInt8) × Int) × Int) :=
  (F21 F t0.1).bind fun r17 =>
  (F22 F t0.2).bind fun r23 =>
  if ((decide (((t1.1, t1.2.1, t1.2.2.1, t1.2.2.2)).1 < 1)) || (decide (((t1.1, t1.2.1, t1.2.2.1, t1.2.2.2)).1 > 7))) then
  (some (((r17, r23), ((((((([], 0) : (List UInt8) × Int)).1, ((([], 0) : (List UInt8) × Int)).2) : (List UInt8) × Int)).1, (((((([], 0) : (List UInt8) × Int)).1, ((([], 0) : (List UInt8) × Int)).2) : (List UInt8) × Int)).2), 1)))
  else
  (F23 F ((r17, r23))).bind fun r111 =>
  if ((((t1.1, t1.2.1, t1.2.2.1, t1.2.2.2)).1 == 5) || (((t1.1, t1.2.1, t1.2.2.1, t1.2.2.2)).1 == 7)) then
  ((show Option (Int × Int) from (if (((t1.1, t1.2.1, t1.2.2.1, t1.2.2.2)).1 == 5) then
  ((F24 F r111.1 (((t1.1, t1.2.1, t1.2.2.1, t1.2.2.2)).2.1)).bind fun r123 =>
  some ((r123.1, r123.2)))
  else
  (F25_26 F r111.2).bind fun r127 =>
  if r127 then
  (some ((0, 1)))
  else
  (F27 F r111.1 r111.2).bind fun r132 =>
  if (decide (r132 < 0)) then
  (some ((r132, 4)))
  else
  some ((r132, 0)))).bind fun b137 =>
  if (b137.2 != 0) then
  (some (((r17, r23), ((((((([], 0) : (List UInt8) × Int)).1, ((([], 0) : (List UInt8) × Int)).2) : (List UInt8) × Int)).1, (((((([], 0) : (List UInt8) × Int)).1, ((([], 0) : (List UInt8) × Int)).2) : (List UInt8) × Int)).2), b137.2)))
  else
  (at? r17 b137.1).bind fun x184 =>
  (at? r17 b137.1).bind fun x186 =>
  (at? ((r17.set ((Int.toNat b137.1)) ((x186.1, x186.2.1, (wrapA .i64 (x184.2.2 + 1)))))) b137.1).bind fun x196 =>
  (at? ((r17.set ((Int.toNat b137.1)) ((x186.1, x186.2.1, (wrapA .i64 (x184.2.2 + 1)))))) b137.1).bind fun x198 =>
  some ((((r17.set ((Int.toNat b137.1)) ((x186.1, x186.2.1, (wrapA .i64 (x184.2.2 + 1))))), r23), (((x196.1, x198.2.2)).1, ((x196.1, x198.2.2)).2), 0)))
  else
  (F28 F (((t1.1, t1.2.1, t1.2.2.1, t1.2.2.2)).2.2.1)).bind fun r235 =>
  if (!r235) then
  (some (((r17, r23), ((((((([], 0) : (List UInt8) × Int)).1, ((([], 0) : (List UInt8) × Int)).2) : (List UInt8) × Int)).1, (((((([], 0) : (List UInt8) × Int)).1, ((([], 0) : (List UInt8) × Int)).2) : (List UInt8) × Int)).2), 3)))
  else
  (F10 F ((r17, r23)) (((t1.1, t1.2.1, t1.2.2.1, t1.2.2.2)).2.2.1)).bind fun r335 =>
  if (((t1.1, t1.2.1, t1.2.2.1, t1.2.2.2)).1 == 1) then
  (if (decide (r335 ≥ 0)) then
  (some (((r17, r23), ((((((([], 0) : (List UInt8) × Int)).1, ((([], 0) : (List UInt8) × Int)).2) : (List UInt8) × Int)).1, (((((([], 0) : (List UInt8) × Int)).1, ((([], 0) : (List UInt8) × Int)).2) : (List UInt8) × Int)).2), 8)))
  else
  if ((decide (((t1.1, t1.2.1, t1.2.2.1, t1.2.2.2)).2.1 < 0)) || (decide (((t1.1, t1.2.1, t1.2.2.1, t1.2.2.2)).2.1 > 100))) then
  (some (((r17, r23), ((((((([], 0) : (List UInt8) × Int)).1, ((([], 0) : (List UInt8) × Int)).2) : (List UInt8) × Int)).1, (((((([], 0) : (List UInt8) × Int)).1, ((([], 0) : (List UInt8) × Int)).2) : (List UInt8) × Int)).2), 1)))
  else
  if (decide ((r17.length : Int) ≥ 8)) then
  (some (((r17, r23), ((((((([], 0) : (List UInt8) × Int)).1, ((([], 0) : (List UInt8) × Int)).2) : (List UInt8) × Int)).1, (((((([], 0) : (List UInt8) × Int)).1, ((([], 0) : (List UInt8) × Int)).2) : (List UInt8) × Int)).2), 9)))
  else
  (appB? 4398046511104 r17 ([(((t1.1, t1.2.1, t1.2.2.1, t1.2.2.2)).2.2.1, ((t1.1, t1.2.1, t1.2.2.1, t1.2.2.2)).2.1, 0)])).bind fun L633 =>
  some (((L633, r23), ((((((([], 0) : (List UInt8) × Int)).1, ((([], 0) : (List UInt8) × Int)).2) : (List UInt8) × Int)).1, (((((([], 0) : (List UInt8) × Int)).1, ((([], 0) : (List UInt8) × Int)).2) : (List UInt8) × Int)).2), 0)))
  else
  if (decide (r335 < 0)) then
  (some (((r17, r23), ((((((([], 0) : (List UInt8) × Int)).1, ((([], 0) : (List UInt8) × Int)).2) : (List UInt8) × Int)).1, (((((([], 0) : (List UInt8) × Int)).1, ((([], 0) : (List UInt8) × Int)).2) : (List UInt8) × Int)).2), 4)))
  else
  if (((t1.1, t1.2.1, t1.2.2.1, t1.2.2.2)).1 == 2) then
  ((iter (F7_l0 F t1 r17 r23) F (0, [], [], (([], 0) : (List UInt8) × Int))).bind fun b955 =>
  match b955 with
  | .inl b957 => ((sub? r17 0 r335).bind fun L962 =>
  (sub? r17 (wrapA .i64 (r335 + 1)) r17.length).bind fun L967 =>
  (appB? 4398046511104 L962 L967).bind fun L971 =>
  some (((L971, r23), ((((((([], 0) : (List UInt8) × Int)).1, ((([], 0) : (List UInt8) × Int)).2) : (List UInt8) × Int)).1, (((((([], 0) : (List UInt8) × Int)).1, ((([], 0) : (List UInt8) × Int)).2) : (List UInt8) × Int)).2), 0)))
  | .inr b957 => (some (((b957.2.1, b957.2.2.1), (b957.2.2.2.1, b957.2.2.2.2), b957.1))))
  else
  if (((t1.1, t1.2.1, t1.2.2.1, t1.2.2.2)).1 == 3) then
  ((F10 F ((r17, r23)) (((t1.1, t1.2.1, t1.2.2.1, t1.2.2.2)).2.2.2)).bind fun r1045 =>
  if (decide (r1045 < 0)) then
  (some (((r17, r23), ((((((([], 0) : (List UInt8) × Int)).1, ((([], 0) : (List UInt8) × Int)).2) : (List UInt8) × Int)).1, (((((([], 0) : (List UInt8) × Int)).1, ((([], 0) : (List UInt8) × Int)).2) : (List UInt8) × Int)).2), 4)))
  else
  if ((r1045 == r335) || (decide (((t1.1, t1.2.1, t1.2.2.1, t1.2.2.2)).2.1 < 1))) then
  (some (((r17, r23), ((((((([], 0) : (List UInt8) × Int)).1, ((([], 0) : (List UInt8) × Int)).2) : (List UInt8) × Int)).1, (((((([], 0) : (List UInt8) × Int)).1, ((([], 0) : (List UInt8) × Int)).2) : (List UInt8) × Int)).2), 1)))
  else
  (at? r111.1 r335).bind fun x1242 =>
  if (decide (((t1.1, t1.2.1, t1.2.2.1, t1.2.2.2)).2.1 > x1242)) then
  (some (((r17, r23), ((((((([], 0) : (List UInt8) × Int)).1, ((([], 0) : (List UInt8) × Int)).2) : (List UInt8) × Int)).1, (((((([], 0) : (List UInt8) × Int)).1, ((([], 0) : (List UInt8) × Int)).2) : (List UInt8) × Int)).2), 4)))
  else
  (at? r111.1 r1045).bind fun x1340 =>
  if (decide ((wrapA .i64 (x1340 + ((t1.1, t1.2.1, t1.2.2.1, t1.2.2.2)).2.1)) > 100)) then
  (some (((r17, r23), ((((((([], 0) : (List UInt8) × Int)).1, ((([], 0) : (List UInt8) × Int)).2) : (List UInt8) × Int)).1, (((((([], 0) : (List UInt8) × Int)).1, ((([], 0) : (List UInt8) × Int)).2) : (List UInt8) × Int)).2), 9)))
  else
  (at? r17 r335).bind fun x1438 =>
  (at? r17 r335).bind fun x1440 =>
  (at? ((r17.set ((Int.toNat r335)) ((x1440.1, (wrapA .i64 (x1438.2.1 - ((t1.1, t1.2.1, t1.2.2.1, t1.2.2.2)).2.1)), x1440.2.2)))) r1045).bind fun x1444 =>
  (at? ((r17.set ((Int.toNat r335)) ((x1440.1, (wrapA .i64 (x1438.2.1 - ((t1.1, t1.2.1, t1.2.2.1, t1.2.2.2)).2.1)), x1440.2.2)))) r1045).bind fun x1446 =>
  (appB? 3518437208883 r23 ([(((t1.1, t1.2.1, t1.2.2.1, t1.2.2.2)).2.2.1, ((t1.1, t1.2.1, t1.2.2.1, t1.2.2.2)).2.2.2, ((t1.1, t1.2.1, t1.2.2.1, t1.2.2.2)).2.1)])).bind fun L1454 =>
  some ((((((r17.set ((Int.toNat r335)) ((x1440.1, (wrapA .i64 (x1438.2.1 - ((t1.1, t1.2.1, t1.2.2.1, t1.2.2.2)).2.1)), x1440.2.2)))).set ((Int.toNat r1045)) ((x1446.1, (wrapA .i64 (x1444.2.1 + ((t1.1, t1.2.1, t1.2.2.1, t1.2.2.2)).2.1)), x1446.2.2))), L1454), ((((((([], 0) : (List UInt8) × Int)).1, ((([], 0) : (List UInt8) × Int)).2) : (List UInt8) × Int)).1, (((((([], 0) : (List UInt8) × Int)).1, ((([], 0) : (List UInt8) × Int)).2) : (List UInt8) × Int)).2), 0)))
  else
  if (((t1.1, t1.2.1, t1.2.2.1, t1.2.2.2)).1 == 4) then
  ((iter (F7_l2 F t1 r335) F (0, (wrapA .i64 ((r23.length : Int) - 1)), r17, r23)).bind fun b1645 =>
  (F29_30 F b1645.2.2).bind fun r1651 =>
  some (((b1645.2.1, r1651), (((((t1.1, t1.2.1, t1.2.2.1, t1.2.2.2)).2.2.1, b1645.1)).1, ((((t1.1, t1.2.1, t1.2.2.1, t1.2.2.2)).2.2.1, b1645.1)).2), 0)))
  else
  if (((t1.1, t1.2.1, t1.2.2.1, t1.2.2.2)).1 == 6) then
  ((at? r111.2 r335).bind fun x1713 =>
  some (((r17, r23), (((((t1.1, t1.2.1, t1.2.2.1, t1.2.2.2)).2.2.1, x1713)).1, ((((t1.1, t1.2.1, t1.2.2.1, t1.2.2.2)).2.2.1, x1713)).2), 0)))
  else
  some (((r17, r23), ((((((([], 0) : (List UInt8) × Int)).1, ((([], 0) : (List UInt8) × Int)).2) : (List UInt8) × Int)).1, (((((([], 0) : (List UInt8) × Int)).1, ((([], 0) : (List UInt8) × Int)).2) : (List UInt8) × Int)).2), 0))

def F8 (F : Nat) (t0 : (List ((List UInt8) × Int × Int)) × (List ((List UInt8) × (List UInt8) × Int))) (t1 : List UInt8) : Option (Int × Int) :=
  (F16 F ((t0.1, t0.2)) t1).bind fun r1 =>
  if (decide (r1 < 0)) then
  (some ((0, 4)))
  else
  (at? t0.1 r1).bind fun x6 =>
  some ((x6.2.1, 0))

def F31_l0 (F : Nat) (t0 : List (List UInt8)) (t1 : List (List UInt8)) (s2 : Int) : Option (Stp (Int) (Unit ⊕ Bool)) :=
  if (decide (s2 < (t0.length : Int))) then
  ((at? t0 s2).bind fun x10 =>
  (at? t1 s2).bind fun x12 =>
  if (!(x10 == x12)) then
  (some (.stop ((.inr false))))
  else
  some (.more ((wrapA .i64 (s2 + 1)))))
  else
  some (.stop ((.inl ())))
def F31 (F : Nat) (t0 : List (List UInt8)) (t1 : List (List UInt8)) : Option Bool :=
  if ((t0.length : Int) != (t1.length : Int)) then
  (some false)
  else
  (iter (F31_l0 F t0 t1) F 0).bind fun b15 =>
  match b15 with
  | .inl b17 => (some true)
  | .inr b17 => (some b17)

def F9 (F : Nat) (t0 : List (List UInt8)) (t1 : List (List UInt8)) : Option Bool :=
  (F31 F t0 t1).bind fun r1 =>
  some r1

def F3_l0 (F : Nat) (r64 : ((List UInt8) × Int) × Int × ((List ((List UInt8) × Int × Int)) × (List ((List UInt8) × (List UInt8) × Int)))) (r81 : ((List ((List UInt8) × Int × Int)) × (List ((List UInt8) × (List UInt8) × Int))) × ((List UInt8) × Int) × Int) (s104 : (List (List UInt8)) × Int) : Option (Stp ((List (List UInt8)) × Int) ((List (List UInt8)) ⊕ Bool)) :=
  if (decide (s104.2 < (r81.1.1.length : Int))) then
  ((at? r81.1.1 s104.2).bind fun x116 =>
  (app? s104.1 ([((x116.1, x116.2.1, x116.2.2)).1])).bind fun L128 =>
  (F8 F ((r64.2.2.1, r64.2.2.2)) (((x116.1, x116.2.1, x116.2.2)).1)).bind fun r134 =>
  if ((r134.2 != 0) || (r134.1 != ((x116.1, x116.2.1, x116.2.2)).2.1)) then
  (some (.stop ((.inr false))))
  else
  some (.more ((L128, (wrapA .i64 (s104.2 + 1))))))
  else
  some (.stop ((.inl s104.1)))
def F3_l1 (F : Nat) (t0 : List (Int × Int × (List UInt8) × (List UInt8))) (s32 : Int × (List ((List UInt8) × Int × Int)) × (List ((List UInt8) × (List UInt8) × Int)) × (List ((List UInt8) × Int × Int)) × (List ((List UInt8) × (List UInt8) × Int))) : Option (Stp (Int × (List ((List UInt8) × Int × Int)) × (List ((List UInt8) × (List UInt8) × Int)) × (List ((List UInt8) × Int × Int)) × (List ((List UInt8) × (List UInt8) × Int))) (((List ((List UInt8) × Int × Int)) × (List ((List UInt8) × (List UInt8) × Int)) × (List ((List UInt8) × Int × Int)) × (List ((List UInt8) × (List UInt8) × Int))) ⊕ Bool)) :=
  if (decide (s32.1 < (t0.length : Int))) then
  ((at? t0 s32.1).bind fun x56 =>
  (F6 F ((s32.2.1, s32.2.2.1)) ((((x56.1, x56.2.1, x56.2.2.1, x56.2.2.2)).1, ((x56.1, x56.2.1, x56.2.2.1, x56.2.2.2)).2.1, ((x56.1, x56.2.1, x56.2.2.1, x56.2.2.2)).2.2.1, ((x56.1, x56.2.1, x56.2.2.1, x56.2.2.2)).2.2.2))).bind fun r64 =>
  (F7 F ((s32.2.2.2.1, s32.2.2.2.2)) ((((x56.1, x56.2.1, x56.2.2.1, x56.2.2.2)).1, ((x56.1, x56.2.1, x56.2.2.1, x56.2.2.2)).2.1, ((x56.1, x56.2.1, x56.2.2.1, x56.2.2.2)).2.2.1, ((x56.1, x56.2.1, x56.2.2.1, x56.2.2.2)).2.2.2))).bind fun r81 =>
  (iter (F3_l0 F r64 r81) F ([], 0)).bind fun b140 =>
  match b140 with
  | .inl b142 => ((if ((!(((r64.1.1, r64.1.2)).1 == ((r81.2.1.1, r81.2.1.2)).1 && (((r64.1.1, r64.1.2)).2 == ((r81.2.1.1, r81.2.1.2)).2 && true))) || (r64.2.1 != r81.2.2)) then some true else 
  ((F5 F ((r64.2.2.1, r64.2.2.2))).bind fun r147 =>
  (F9 F r147 b142).bind fun r153 =>
  some (!r153))
  ).bind fun y158 =>
  if y158 then
  (some (.stop ((.inr false))))
  else
  some (.more (((wrapA .i64 (s32.1 + 1)), r64.2.2.1, r64.2.2.2, r81.1.1, r81.1.2))))
  | .inr b142 => (some (.stop ((.inr b142)))))
  else
  some (.stop ((.inl (s32.2.1, s32.2.2.1, s32.2.2.2.1, s32.2.2.2.2))))
def F3 (F : Nat) (t0 : List (Int × Int × (List UInt8) × (List UInt8))) (t1 : List UInt8) : Option Bool :=
  (F4 F).bind fun r1 =>
  match r1 with
  | none => (none)
  | some x7 => ((if false then some true else 
  ((F5 F ((x7.1, x7.2))).bind fun r14 =>
  some (decide ((r14.length : Int) > 0)))
  ).bind fun y21 =>
  if y21 then
  (some false)
  else
  (iter (F3_l1 F t0) F (0, x7.1, x7.2, [], [])).bind fun b165 =>
  match b165 with
  | .inl b167 => ((F8 F ((b167.1, b167.2.1)) t1).bind fun r174 =>
  (F10 F ((b167.2.2.1, b167.2.2.2)) t1).bind fun r178 =>
  (if ((decide (r178 ≥ 0)) && (r174.2 == 0)) then some true else 
  ((if ((r174.2 == 4) && (r174.1 == 0)) then 
  ((F10 F ((b167.2.2.1, b167.2.2.2)) t1).bind fun r184 =>
  some (decide (r184 < 0)))
   else some false).bind fun y189 =>
  some y189)
  ).bind fun y194 =>
  some y194)
  | .inr b167 => (some b167))

end Go.Proofs.YtaphdnpjpmnaeabDoor
