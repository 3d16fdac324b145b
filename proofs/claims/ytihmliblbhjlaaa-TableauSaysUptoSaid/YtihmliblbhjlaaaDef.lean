/- Functional texts of the functions: printed by a program of ours (gen.py). -/
import Derived.Test.YtihmliblbhjlaaaDenJ
set_option linter.unusedVariables false
namespace Go.Proofs.Ytihmliblbhjlaaa
open Go.Am
abbrev Y3 : Lay Int := Lay.one (SV.int .i64)
abbrev Y26 : Lay (Int × Int) := Lay.flat 2 (fun a => [.int .i64 a.1, .int .i64 a.2]) fun _ => rfl
abbrev Y115 : Lay (Int × Int × Bool × Bool) := Lay.flat 4 (fun a => [.int .i64 a.1, .int .i64 a.2.1, .bool a.2.2.1, .bool a.2.2.2]) fun _ => rfl
abbrev Y119 : Lay (Int × Int × Int) := Lay.flat 3 (fun a => [.int .i64 a.1, .int .i64 a.2.1, .int .i64 a.2.2]) fun _ => rfl
abbrev Y117 : Lay ((Int × Int × Bool × Bool) × Int) := Lay.flat 5 (fun a => [.int .i64 a.1.1, .int .i64 a.1.2.1, .bool a.1.2.2.1, .bool a.1.2.2.2, .int .i64 a.2]) fun _ => rfl
abbrev Y22 : Lay (List Int) := Lay.sl Y3
abbrev Y130 : Lay (List Bool) := Lay.arr 10 SV.bool
abbrev Y134 : Lay (List Int) := Lay.arr 41 (SV.int .i64)
abbrev Y9 : Lay (List UInt8) := Lay.one SV.str
abbrev Y5 : Lay Int := Lay.one (SV.int .u8)
abbrev Y27 : Lay Int := Lay.one (SV.int .i64)
abbrev Y4 : Lay Bool := Lay.one SV.bool
abbrev Y167 : Lay (Int × Int) := Lay.flat 2 (fun a => [.int .i64 a.1, .int .i64 a.2]) fun _ => rfl
abbrev Y78 : Lay (List (List UInt8)) := Lay.sl Y9
abbrev Y201 : Lay Int := Lay.one (SV.int .u64)

def F17_l0 (F : Nat) (t0 : (List Int) × (List Int)) (s8 : Int) : Option (Stp (Int) (Unit ⊕ Int)) :=
  if (decide (s8 < (t0.1.length : Int))) then
  ((at? t0.1 s8).bind fun x16 =>
  (if ((decide (x16 < (-20))) || (decide (x16 > 20))) then some true else 
  ((at? t0.2 s8).bind fun x19 =>
  some (decide (x19 < 1)))
  ).bind fun y22 =>
  (if y22 then some true else 
  ((at? t0.2 s8).bind fun x24 =>
  some (decide (x24 > 100)))
  ).bind fun y27 =>
  if y27 then
  (some (.stop ((.inr 1))))
  else
  some (.more ((wrapA .i64 (s8 + 1)))))
  else
  some (.stop ((.inl ())))
def F17 (F : Nat) (t0 : (List Int) × (List Int)) : Option Int :=
  if ((decide ((t0.1.length : Int) < 1)) || (decide ((t0.1.length : Int) > 12))) then
  (some 2)
  else
  if ((t0.2.length : Int) != (t0.1.length : Int)) then
  (some 3)
  else
  (iter (F17_l0 F t0) F 0).bind fun b30 =>
  match b30 with
  | .inl b32 => (some 0)
  | .inr b32 => (some b32)

def F89 (F : Nat) (t0 : Int) : Option Int :=
  some t0

def F88_89_l0 (F : Nat) (t0 : (List Int) × (List Int)) (s5 : Int × Int) : Option (Stp (Int × Int) (Int)) :=
  if (decide (s5.2 < (t0.1.length : Int))) then
  ((at? t0.1 s5.2).bind fun x11 =>
  (at? t0.2 s5.2).bind fun x13 =>
  (F89 F x11).bind fun r15 =>
  some (.more (((wrapA .i64 (s5.1 + (wrapA .i64 (x13 * r15)))), (wrapA .i64 (s5.2 + 1))))))
  else
  some (.stop s5.1)
def F88_89 (F : Nat) (t0 : (List Int) × (List Int)) : Option Int :=
  (iter (F88_89_l0 F t0) F (0, 0)).bind fun b19 =>
  some b19

def F90 (F : Nat) (t0 : Int) : Option Int :=
  some 1

def F88_90_l0 (F : Nat) (t0 : (List Int) × (List Int)) (s5 : Int × Int) : Option (Stp (Int × Int) (Int)) :=
  if (decide (s5.2 < (t0.1.length : Int))) then
  ((at? t0.1 s5.2).bind fun x11 =>
  (at? t0.2 s5.2).bind fun x13 =>
  (F90 F x11).bind fun r15 =>
  some (.more (((wrapA .i64 (s5.1 + (wrapA .i64 (x13 * r15)))), (wrapA .i64 (s5.2 + 1))))))
  else
  some (.stop s5.1)
def F88_90 (F : Nat) (t0 : (List Int) × (List Int)) : Option Int :=
  (iter (F88_90_l0 F t0) F (0, 0)).bind fun b19 =>
  some b19

def F166_l0 (F : Nat)  (s1 : Int × Int) : Option (Stp (Int × Int) (Int)) :=
  if (decide (s1.2 > 0)) then
  ((rem? s1.1 s1.2).bind fun x7 =>
  some (.more ((s1.2, x7))))
  else
  some (.stop s1.1)
def F166 (F : Nat) (t0 : Int) (t1 : Int) : Option Int :=
  (iter (F166_l0 F) F ((maxI t0 (wrapA .i64 (0 - t0))), t1)).bind fun b9 =>
  some b9

def F149 (F : Nat) (t0 : Int) (t1 : Int) : Option ((Int × Int) × Int) :=
  (F166 F t0 t1).bind fun r5 =>
  (quo? .i64 t0 r5).bind fun x9 =>
  (quo? .i64 t1 r5).bind fun x11 =>
  if (((decide (((x9, x11)).2 > 1000000000)) || (decide (((x9, x11)).1 < (-1000000000)))) || (decide (((x9, x11)).1 > 1000000000))) then
  (some (((((0, 0)).1, ((0, 0)).2), 2)))
  else
  some (((((((x9, x11)).1, ((x9, x11)).2)).1, ((((x9, x11)).1, ((x9, x11)).2)).2), 0))

def F87 (F : Nat) (t0 : Int) (t1 : Int) : Option ((Int × Int) × Int) :=
  if ((((decide (t0 < (-1000000000))) || (decide (t0 > 1000000000))) || (decide (t1 < (-1000000000)))) || (decide (t1 > 1000000000))) then
  (some (((((0, 0)).1, ((0, 0)).2), 1)))
  else
  if (t1 == 0) then
  (some (((((0, 0)).1, ((0, 0)).2), 5)))
  else
  if (decide (t1 < 0)) then
  ((F149 F ((wrapA .i64 (0 - t0))) ((wrapA .i64 (0 - t1)))).bind fun r15 =>
  some (((((r15.1.1, r15.1.2)).1, ((r15.1.1, r15.1.2)).2), r15.2)))
  else
  (F149 F t0 t1).bind fun r21 =>
  some (((((r21.1.1, r21.1.2)).1, ((r21.1.1, r21.1.2)).2), r21.2))

def F12 (F : Nat) (t0 : (List Int) × (List Int)) : Option ((Int × Int) × Int) :=
  (F17 F ((t0.1, t0.2))).bind fun r9 =>
  if (r9 != 0) then
  (some (((((0, 0)).1, ((0, 0)).2), r9)))
  else
  (F88_89 F ((t0.1, t0.2))).bind fun r16 =>
  (F88_90 F ((t0.1, t0.2))).bind fun r20 =>
  (F87 F r16 r20).bind fun r24 =>
  some (((((r24.1.1, r24.1.2)).1, ((r24.1.1, r24.1.2)).2), r24.2))

def F91 (F : Nat) (t0 : Int) : Option Int :=
  some t0

def F88_91_l0 (F : Nat) (t0 : (List Int) × (List Int)) (s5 : Int × Int) : Option (Stp (Int × Int) (Int)) :=
  if (decide (s5.2 < (t0.1.length : Int))) then
  ((at? t0.1 s5.2).bind fun x11 =>
  (at? t0.2 s5.2).bind fun x13 =>
  (F91 F x11).bind fun r15 =>
  some (.more (((wrapA .i64 (s5.1 + (wrapA .i64 (x13 * r15)))), (wrapA .i64 (s5.2 + 1))))))
  else
  some (.stop s5.1)
def F88_91 (F : Nat) (t0 : (List Int) × (List Int)) : Option Int :=
  (iter (F88_91_l0 F t0) F (0, 0)).bind fun b19 =>
  some b19

def F92 (F : Nat) (t0 : Int) : Option Int :=
  some ((wrapA .i64 (t0 * t0)))

def F88_92_l0 (F : Nat) (t0 : (List Int) × (List Int)) (s5 : Int × Int) : Option (Stp (Int × Int) (Int)) :=
  if (decide (s5.2 < (t0.1.length : Int))) then
  ((at? t0.1 s5.2).bind fun x11 =>
  (at? t0.2 s5.2).bind fun x13 =>
  (F92 F x11).bind fun r15 =>
  some (.more (((wrapA .i64 (s5.1 + (wrapA .i64 (x13 * r15)))), (wrapA .i64 (s5.2 + 1))))))
  else
  some (.stop s5.1)
def F88_92 (F : Nat) (t0 : (List Int) × (List Int)) : Option Int :=
  (iter (F88_92_l0 F t0) F (0, 0)).bind fun b19 =>
  some b19

def F13_l0 (F : Nat) (r16 : Int) (r20 : Int) (r24 : Int) (s28 : Int × Int × (Int × Int)) : Option (Stp (Int × Int × (Int × Int)) (Int × (Int × Int))) :=
  if (s28.2.1 == 0) then
  ((quo? .i64 (wrapA .i64 ((wrapA .i64 (r16 * r24)) - (wrapA .i64 (r20 * r20)))) s28.1).bind fun x34 =>
  (quo? .i64 (wrapA .i64 (r16 * r16)) s28.1).bind fun x36 =>
  (F87 F x34 x36).bind fun r38 =>
  some (.stop ((r38.2, (r38.1.1, r38.1.2)))))
  else
  (rem? s28.1 s28.2.1).bind fun x44 =>
  some (.more ((s28.2.1, x44, s28.2.2)))
def F13 (F : Nat) (t0 : (List Int) × (List Int)) : Option ((Int × Int) × Int) :=
  (F17 F ((t0.1, t0.2))).bind fun r9 =>
  if (r9 != 0) then
  (some (((((0, 0)).1, ((0, 0)).2), r9)))
  else
  (F88_90 F ((t0.1, t0.2))).bind fun r16 =>
  (F88_91 F ((t0.1, t0.2))).bind fun r20 =>
  (F88_92 F ((t0.1, t0.2))).bind fun r24 =>
  (iter (F13_l0 F r16 r20 r24) F ((wrapA .i64 ((wrapA .i64 (r16 * r24)) - (wrapA .i64 (r20 * r20)))), (wrapA .i64 (r16 * r16)), (0, 0))).bind fun b46 =>
  some (((b46.2.1, b46.2.2), b46.1))

def F93 (F : Nat) (t0 : Int) (c0 : Int) : Option Int :=
  if (decide (t0 ≥ c0)) then
  (some 1)
  else
  some 0

def F88_93_l0 (F : Nat) (t0 : (List Int) × (List Int)) (t1c0 : Int) (s5 : Int × Int) : Option (Stp (Int × Int) (Int)) :=
  if (decide (s5.2 < (t0.1.length : Int))) then
  ((at? t0.1 s5.2).bind fun x11 =>
  (at? t0.2 s5.2).bind fun x13 =>
  (F93 F x11 t1c0).bind fun r15 =>
  some (.more (((wrapA .i64 (s5.1 + (wrapA .i64 (x13 * r15)))), (wrapA .i64 (s5.2 + 1))))))
  else
  some (.stop s5.1)
def F88_93 (F : Nat) (t0 : (List Int) × (List Int)) (t1c0 : Int) : Option Int :=
  (iter (F88_93_l0 F t0 t1c0) F (0, 0)).bind fun b19 =>
  some b19

def F14 (F : Nat) (t0 : (List Int) × (List Int)) (t1 : Int) : Option ((Int × Int) × Int) :=
  (F17 F ((t0.1, t0.2))).bind fun r13 =>
  if (r13 != 0) then
  (some (((((0, 0)).1, ((0, 0)).2), r13)))
  else
  (F88_93 F ((t0.1, t0.2)) t1).bind fun r21 =>
  (F88_90 F ((t0.1, t0.2))).bind fun r25 =>
  (F87 F r21 r25).bind fun r29 =>
  some (((((r29.1.1, r29.1.2)).1, ((r29.1.1, r29.1.2)).2), r29.2))

def F15_l0 (F : Nat) (t0 : (List Int) × (List Int)) (t1 : (List Int) × (List Int)) (s33 : Int × (List Int) × (List Int)) (x47 : Int) (s49 : Int × (List Int) × (List Int)) : Option (Stp (Int × (List Int) × (List Int)) ((List Int) × (List Int))) :=
  if (decide (s49.1 < (t1.1.length : Int))) then
  ((at? t1.1 s49.1).bind fun x63 =>
  (app? s49.2.1 ([(wrapA .i64 (x47 + x63))])).bind fun L92 =>
  (at? t0.2 s33.1).bind fun x110 =>
  (at? t1.2 s49.1).bind fun x112 =>
  (app? s49.2.2 ([(wrapA .i64 (x110 * x112))])).bind fun L132 =>
  some (.more (((wrapA .i64 (s49.1 + 1)), L92, L132))))
  else
  some (.stop ((s49.2.1, s49.2.2)))
def F15_l1 (F : Nat) (t0 : (List Int) × (List Int)) (t1 : (List Int) × (List Int)) (s33 : Int × (List Int) × (List Int)) : Option (Stp (Int × (List Int) × (List Int)) ((List Int) × (List Int))) :=
  if (decide (s33.1 < (t0.1.length : Int))) then
  ((at? t0.1 s33.1).bind fun x47 =>
  (iter (F15_l0 F t0 t1 s33 x47) F (0, s33.2.1, s33.2.2)).bind fun b263 =>
  some (.more (((wrapA .i64 (s33.1 + 1)), b263.1, b263.2))))
  else
  some (.stop ((s33.2.1, s33.2.2)))
def F15 (F : Nat) (t0 : (List Int) × (List Int)) (t1 : (List Int) × (List Int)) : Option (((List Int) × (List Int)) × Int) :=
  (F17 F ((t0.1, t0.2))).bind fun r13 =>
  if (r13 != 0) then
  (some ((([], []), r13)))
  else
  (F17 F ((t1.1, t1.2))).bind fun r21 =>
  if (r21 != 0) then
  (some ((([], []), r21)))
  else
  (iter (F15_l1 F t0 t1) F (0, [], [])).bind fun b269 =>
  (F17 F ((b269.1, b269.2))).bind fun r275 =>
  if (r275 != 0) then
  (some ((([], []), 9)))
  else
  some (((b269.1, b269.2), 0))

def F16_l0 (F : Nat) (t0 : (List Int) × (List Int)) (s8 : Int) : Option (Stp (Int) (Unit ⊕ Int)) :=
  if (decide (s8 < (t0.1.length : Int))) then
  ((at? t0.1 s8).bind fun x16 =>
  (at? t0.1 s8).bind fun x18 =>
  (if (decide ((maxI x16 (wrapA .i64 (0 - x18))) > 20)) then some true else 
  ((at? t0.1 s8).bind fun x20 =>
  some (decide (x20 < (-20))))
  ).bind fun y23 =>
  (if y23 then some true else 
  ((at? t0.2 s8).bind fun x25 =>
  some (decide (x25 < 1)))
  ).bind fun y28 =>
  (if y28 then some true else 
  ((at? t0.2 s8).bind fun x30 =>
  some (decide (x30 > 100)))
  ).bind fun y33 =>
  if y33 then
  (some (.stop ((.inr 1))))
  else
  some (.more ((wrapA .i64 (s8 + 1)))))
  else
  some (.stop ((.inl ())))
def F16 (F : Nat) (t0 : (List Int) × (List Int)) : Option Int :=
  if (((t0.1.length : Int) == 0) || (decide ((t0.1.length : Int) > 12))) then
  (some 2)
  else
  if ((t0.2.length : Int) != (t0.1.length : Int)) then
  (some 3)
  else
  (iter (F16_l0 F t0) F 0).bind fun b36 =>
  match b36 with
  | .inl b38 => (some 0)
  | .inr b38 => (some b38)

def F18_l0 (F : Nat) (t0 : (List Int) × (List Int)) (s5 : Int × Int × Int) : Option (Stp (Int × Int × Int) (Int × Int)) :=
  if (decide (s5.2.2 < (t0.2.length : Int))) then
  ((at? t0.2 s5.2.2).bind fun x11 =>
  (at? t0.1 s5.2.2).bind fun x13 =>
  some (.more (((wrapA .i64 (s5.1 + x11)), (wrapA .i64 (s5.2.1 + (wrapA .i64 (x11 * x13)))), (wrapA .i64 (s5.2.2 + 1))))))
  else
  some (.stop ((s5.1, s5.2.1)))
def F18 (F : Nat) (t0 : (List Int) × (List Int)) : Option (Int × Int) :=
  (iter (F18_l0 F t0) F (0, 0, 0)).bind fun b15 =>
  some ((b15.1, b15.2))

def F95 : Nat → Int → Int → Option Int
  | 0, _, _ => none
  | F + 1, t0, t1 =>
  let frec := F95 F
  if ((maxI t1 (wrapA .i64 (0 - t1))) == 0) then
  (some ((maxI t0 (wrapA .i64 (0 - t0)))))
  else
  (rem? (maxI t0 (wrapA .i64 (0 - t0))) (maxI t1 (wrapA .i64 (0 - t1)))).bind fun x2 =>
  (frec ((maxI t1 (wrapA .i64 (0 - t1)))) x2).bind fun r4 =>
  some r4

def F94 (F : Nat) (t0 : Int) (t1 : Int) : Option ((Int × Int) × Int) :=
  (F95 F t0 t1).bind fun r5 =>
  (show Option (Int) from (if (decide (t1 < 0)) then
  (some ((wrapA .i64 (0 - r5))))
  else
  some r5)).bind fun b10 =>
  (quo? .i64 t0 b10).bind fun x15 =>
  (quo? .i64 t1 b10).bind fun x17 =>
  if ((decide (x17 > 1000000000)) || (decide ((maxI x15 (wrapA .i64 (0 - x15))) > 1000000000))) then
  (some (((((0, 0)).1, ((0, 0)).2), 2)))
  else
  some (((((x15, x17)).1, ((x15, x17)).2), 0))

def F19 (F : Nat) (t0 : Int) (t1 : Int) : Option ((Int × Int)) :=
  (F94 F t0 t1).bind fun r5 =>
  some ((((((r5.1.1, r5.1.2)).1, ((r5.1.1, r5.1.2)).2)).1, ((((r5.1.1, r5.1.2)).1, ((r5.1.1, r5.1.2)).2)).2))

def F20_l0 (F : Nat) (t0 : (List Int) × (List Int)) (r9 : Int × Int) (s13 : Int × Int) : Option (Stp (Int × Int) (Int)) :=
  if (decide (s13.2 < (t0.2.length : Int))) then
  ((at? t0.2 s13.2).bind fun x19 =>
  (at? t0.1 s13.2).bind fun x21 =>
  some (.more (((wrapA .i64 (s13.1 + (wrapA .i64 ((wrapA .i64 (x19 * (wrapA .i64 ((wrapA .i64 (r9.1 * x21)) - r9.2)))) * (wrapA .i64 ((wrapA .i64 (r9.1 * x21)) - r9.2)))))), (wrapA .i64 (s13.2 + 1))))))
  else
  some (.stop s13.1)
def F20 (F : Nat) (t0 : (List Int) × (List Int)) : Option ((Int × Int)) :=
  (F18 F ((t0.1, t0.2))).bind fun r9 =>
  (iter (F20_l0 F t0 r9) F (0, 0)).bind fun b23 =>
  (F95 F b23 ((wrapA .i64 ((wrapA .i64 (r9.1 * r9.1)) * r9.1)))).bind fun r27 =>
  (quo? .i64 b23 r27).bind fun x31 =>
  (quo? .i64 (wrapA .i64 ((wrapA .i64 (r9.1 * r9.1)) * r9.1)) r27).bind fun x33 =>
  some ((((x31, x33)).1, ((x31, x33)).2))

def F21_l0 (F : Nat) (t0 : List Int) (t1 : List Int) (s2 : Int) : Option (Stp (Int) (Unit ⊕ Bool)) :=
  if (decide (s2 < (t0.length : Int))) then
  ((at? t0 s2).bind fun x10 =>
  (at? t1 s2).bind fun x12 =>
  if (x10 != x12) then
  (some (.stop ((.inr false))))
  else
  some (.more ((wrapA .i64 (s2 + 1)))))
  else
  some (.stop ((.inl ())))
def F21 (F : Nat) (t0 : List Int) (t1 : List Int) : Option Bool :=
  if ((t0.length : Int) != (t1.length : Int)) then
  (some false)
  else
  (iter (F21_l0 F t0 t1) F 0).bind fun b15 =>
  match b15 with
  | .inl b17 => (some true)
  | .inr b17 => (some b17)

def F3_l0 (F : Nat) (t0 : (List Int) × (List Int)) (t2 : Int) (s75 : Int × Int) : Option (Stp (Int × Int) (Int)) :=
  if (decide (s75.2 < (t0.2.length : Int))) then
  ((at? t0.2 s75.2).bind fun x81 =>
  (at? t0.1 s75.2).bind fun x83 =>
  if (decide (x83 ≥ t2)) then
  (some (.more (((wrapA .i64 (s75.1 + x81)), (wrapA .i64 (s75.2 + 1))))))
  else
  some (.more ((s75.1, (wrapA .i64 (s75.2 + 1))))))
  else
  some (.stop s75.1)
def F3_l1 (F : Nat) (t0 : (List Int) × (List Int)) (t1 : (List Int) × (List Int)) (s130 : Int × (List Int) × (List Int)) (s144 : Int × (List Int) × (List Int)) : Option (Stp (Int × (List Int) × (List Int)) ((List Int) × (List Int))) :=
  if (decide (s144.1 < (t1.1.length : Int))) then
  ((at? t0.1 s130.1).bind fun x158 =>
  (at? t1.1 s144.1).bind fun x160 =>
  (app? s144.2.1 ([(wrapA .i64 (x158 + x160))])).bind fun L166 =>
  (at? t0.2 s130.1).bind fun x174 =>
  (at? t1.2 s144.1).bind fun x176 =>
  (app? s144.2.2 ([(wrapA .i64 (x174 * x176))])).bind fun L182 =>
  some (.more (((wrapA .i64 (s144.1 + 1)), L166, L182))))
  else
  some (.stop ((s144.2.1, s144.2.2)))
def F3_l2 (F : Nat) (t0 : (List Int) × (List Int)) (t1 : (List Int) × (List Int)) (s130 : Int × (List Int) × (List Int)) : Option (Stp (Int × (List Int) × (List Int)) ((List Int) × (List Int))) :=
  if (decide (s130.1 < (t0.1.length : Int))) then
  ((iter (F3_l1 F t0 t1 s130) F (0, s130.2.1, s130.2.2)).bind fun b190 =>
  some (.more (((wrapA .i64 (s130.1 + 1)), b190.1, b190.2))))
  else
  some (.stop ((s130.2.1, s130.2.2)))
def F3 (F : Nat) (t0 : (List Int) × (List Int)) (t1 : (List Int) × (List Int)) (t2 : Int) : Option Bool :=
  (F12 F ((t0.1, t0.2))).bind fun r9 =>
  (F13 F ((t0.1, t0.2))).bind fun r19 =>
  (F14 F ((t0.1, t0.2)) t2).bind fun r29 =>
  (F15 F ((t0.1, t0.2)) ((t1.1, t1.2))).bind fun r39 =>
  (F16 F ((t0.1, t0.2))).bind fun r54 =>
  (F17 F ((t0.1, t0.2))).bind fun r58 =>
  if (r58 != r54) then
  (some false)
  else
  if (r54 != 0) then
  (some (((((((((r9.2 == r54) && (r19.2 == r54)) && (r29.2 == r54)) && (r39.2 == r54)) && (((r9.1.1, r9.1.2)).1 == 0 && (((r9.1.1, r9.1.2)).2 == 0 && true))) && (((r19.1.1, r19.1.2)).1 == 0 && (((r19.1.1, r19.1.2)).2 == 0 && true))) && (((r29.1.1, r29.1.2)).1 == 0 && (((r29.1.1, r29.1.2)).2 == 0 && true))) && ((wrapA .i64 ((r39.1.1.length : Int) + (r39.1.2.length : Int))) == 0))))
  else
  (F18 F ((t0.1, t0.2))).bind fun r71 =>
  (iter (F3_l0 F t0 t2) F (0, 0)).bind fun b86 =>
  (if (r9.2 != 0) then some true else 
  ((F19 F r71.2 r71.1).bind fun r90 =>
  some (!(((r9.1.1, r9.1.2)).1 == r90.1 && (((r9.1.1, r9.1.2)).2 == r90.2 && true))))
  ).bind fun y95 =>
  (if (y95 || (r19.2 != 0)) then some true else 
  ((F20 F ((t0.1, t0.2))).bind fun r100 =>
  some (!(((r19.1.1, r19.1.2)).1 == r100.1 && (((r19.1.1, r19.1.2)).2 == r100.2 && true))))
  ).bind fun y105 =>
  (if (y105 || (r29.2 != 0)) then some true else 
  ((F19 F b86 r71.1).bind fun r110 =>
  some (!(((r29.1.1, r29.1.2)).1 == r110.1 && (((r29.1.1, r29.1.2)).2 == r110.2 && true))))
  ).bind fun y115 =>
  if y115 then
  (some false)
  else
  (F16 F ((t1.1, t1.2))).bind fun r120 =>
  if (r120 != 0) then
  (some (((r39.2 == r120) && ((wrapA .i64 ((r39.1.1.length : Int) + (r39.1.2.length : Int))) == 0))))
  else
  (iter (F3_l2 F t0 t1) F (0, [], [])).bind fun b196 =>
  (F16 F ((b196.1, b196.2))).bind fun r202 =>
  if (r202 != 0) then
  (some (((r39.2 == 9) && ((wrapA .i64 ((r39.1.1.length : Int) + (r39.1.2.length : Int))) == 0))))
  else
  (if (r39.2 == 0) then 
  ((F21 F r39.1.1 b196.1).bind fun r208 =>
  some r208)
   else some false).bind fun y213 =>
  (if y213 then 
  ((F21 F r39.1.2 b196.2).bind fun r217 =>
  some r217)
   else some false).bind fun y222 =>
  some y222

def F24_l0 (F : Nat) (t0 : List (Int × Int × Bool × Bool)) (s3 : Int) : Option (Stp (Int) (Unit ⊕ Int)) :=
  if (decide (s3 < (t0.length : Int))) then
  ((at? t0 s3).bind fun x11 =>
  if ((((decide (((x11.1, x11.2.1, x11.2.2.1, x11.2.2.2)).1 < 1)) || (decide (((x11.1, x11.2.1, x11.2.2.1, x11.2.2.2)).1 > 10))) || (decide (((x11.1, x11.2.1, x11.2.2.1, x11.2.2.2)).2.1 < 0))) || (decide (((x11.1, x11.2.1, x11.2.2.1, x11.2.2.2)).2.1 > 100000))) then
  (some (.stop ((.inr 1))))
  else
  some (.more ((wrapA .i64 (s3 + 1)))))
  else
  some (.stop ((.inl ())))
def F24_l1 (F : Nat) (t0 : List (Int × Int × Bool × Bool)) (t1 : List (Int × Int × Int)) (s28 : Int) : Option (Stp (Int) (Unit ⊕ Int)) :=
  if (decide (s28 < (t1.length : Int))) then
  ((at? t1 s28).bind fun x36 =>
  if ((((((decide (((x36.1, x36.2.1, x36.2.2)).1 < 0)) || (decide (((x36.1, x36.2.1, x36.2.2)).1 > 200))) || (decide (((x36.1, x36.2.1, x36.2.2)).2.1 < 0))) || (decide (((x36.1, x36.2.1, x36.2.2)).2.1 ≥ (t0.length : Int)))) || (decide (((x36.1, x36.2.1, x36.2.2)).2.2 < 1))) || (decide (((x36.1, x36.2.1, x36.2.2)).2.2 > 4))) then
  (some (.stop ((.inr 1))))
  else
  (if (decide (s28 > 0)) then 
  ((at? t1 (wrapA .i64 (s28 - 1))).bind fun x50 =>
  some (decide (((x36.1, x36.2.1, x36.2.2)).1 < x50.1)))
   else some false).bind fun y53 =>
  if y53 then
  (some (.stop ((.inr 3))))
  else
  some (.more ((wrapA .i64 (s28 + 1)))))
  else
  some (.stop ((.inl ())))
def F24 (F : Nat) (t0 : List (Int × Int × Bool × Bool)) (t1 : List (Int × Int × Int)) : Option Int :=
  if ((decide ((t0.length : Int) > 8)) || (decide ((t1.length : Int) > 30))) then
  (some 2)
  else
  (iter (F24_l0 F t0) F 0).bind fun b23 =>
  match b23 with
  | .inl b25 => ((iter (F24_l1 F t0 t1) F 0).bind fun b56 =>
  match b56 with
  | .inl b58 => (some 0)
  | .inr b58 => (some b58))
  | .inr b25 => (some b25)

def F96_l0 (F : Nat) (t0 : List ((Int × Int × Bool × Bool) × Int)) (s16 : Int × Bool × Int) : Option (Stp (Int × Bool × Int) (Int × Bool)) :=
  if (decide (s16.2.2 < (t0.length : Int))) then
  ((at? t0 s16.2.2).bind fun x22 =>
  if ((((x22.1.1, x22.1.2.1, x22.1.2.2.1, x22.1.2.2.2), x22.2)).1.2.2.1 && ((!s16.2.1) || (decide ((((x22.1.1, x22.1.2.1, x22.1.2.2.1, x22.1.2.2.2), x22.2)).2 < s16.1)))) then
  (some (.more (((((x22.1.1, x22.1.2.1, x22.1.2.2.1, x22.1.2.2.2), x22.2)).2, true, (wrapA .i64 (s16.2.2 + 1))))))
  else
  some (.more ((s16.1, s16.2.1, (wrapA .i64 (s16.2.2 + 1))))))
  else
  some (.stop ((s16.1, s16.2.1)))
def F96 (F : Nat) (t0 : List ((Int × Int × Bool × Bool) × Int)) (t1 : Int × Int × Int) : Option ((List ((Int × Int × Bool × Bool) × Int))) :=
  (ck t0 ((t1.1, t1.2.1, t1.2.2)).2.1).bind fun u5 =>
  if (((t1.1, t1.2.1, t1.2.2)).2.2 == 1) then
  ((at? t0 ((t1.1, t1.2.1, t1.2.2)).2.1).bind fun x10 =>
  some ((t0.set ((Int.toNat ((t1.1, t1.2.1, t1.2.2)).2.1)) (((x10.1.1, x10.1.2.1, false, x10.1.2.2.2), x10.2)))))
  else
  if (((t1.1, t1.2.1, t1.2.2)).2.2 == 2) then
  ((at? t0 ((t1.1, t1.2.1, t1.2.2)).2.1).bind fun x13 =>
  if x13.1.2.2.1 then
  (some t0)
  else
  (iter (F96_l0 F t0) F (0, false, 0)).bind fun b33 =>
  if b33.2 then
  ((at? t0 ((t1.1, t1.2.1, t1.2.2)).2.1).bind fun x38 =>
  (at? t0 ((t1.1, t1.2.1, t1.2.2)).2.1).bind fun x42 =>
  (ck ((t0.set ((Int.toNat ((t1.1, t1.2.1, t1.2.2)).2.1)) (((x42.1.1, x42.1.2.1, x42.1.2.2.1, x42.1.2.2.2), (maxI x38.2 b33.1))))) ((t1.1, t1.2.1, t1.2.2)).2.1).bind fun u44 =>
  (at? ((t0.set ((Int.toNat ((t1.1, t1.2.1, t1.2.2)).2.1)) (((x42.1.1, x42.1.2.1, x42.1.2.2.1, x42.1.2.2.2), (maxI x38.2 b33.1))))) ((t1.1, t1.2.1, t1.2.2)).2.1).bind fun x48 =>
  some ((((t0.set ((Int.toNat ((t1.1, t1.2.1, t1.2.2)).2.1)) (((x42.1.1, x42.1.2.1, x42.1.2.2.1, x42.1.2.2.2), (maxI x38.2 b33.1))))).set ((Int.toNat ((t1.1, t1.2.1, t1.2.2)).2.1)) (((x48.1.1, x48.1.2.1, true, x48.1.2.2.2), x48.2)))))
  else
  (at? t0 ((t1.1, t1.2.1, t1.2.2)).2.1).bind fun x52 =>
  some ((t0.set ((Int.toNat ((t1.1, t1.2.1, t1.2.2)).2.1)) (((x52.1.1, x52.1.2.1, true, x52.1.2.2.2), x52.2)))))
  else
  if (((t1.1, t1.2.1, t1.2.2)).2.2 == 3) then
  ((at? t0 ((t1.1, t1.2.1, t1.2.2)).2.1).bind fun x57 =>
  some ((t0.set ((Int.toNat ((t1.1, t1.2.1, t1.2.2)).2.1)) (((x57.1.1, x57.1.2.1, x57.1.2.2.1, true), x57.2)))))
  else
  if (((t1.1, t1.2.1, t1.2.2)).2.2 == 4) then
  ((at? t0 ((t1.1, t1.2.1, t1.2.2)).2.1).bind fun x62 =>
  some ((t0.set ((Int.toNat ((t1.1, t1.2.1, t1.2.2)).2.1)) (((x62.1.1, x62.1.2.1, x62.1.2.2.1, false), x62.2)))))
  else
  some t0

def F97_l0 (F : Nat) (t0 : List ((Int × Int × Bool × Bool) × Int)) (s1 : Int × Int × Int) : Option (Stp (Int × Int × Int) (Int)) :=
  if (decide (s1.2.2 < (t0.length : Int))) then
  ((at? t0 s1.2.2).bind fun x7 =>
  if (!(((x7.1.1, x7.1.2.1, x7.1.2.2.1, x7.1.2.2.2), x7.2)).1.2.2.1) then
  (some (.more ((s1.1, s1.2.1, (wrapA .i64 (s1.2.2 + 1))))))
  else
  (show Option (Int) from (if (((x7.1.1, x7.1.2.1, x7.1.2.2.1, x7.1.2.2.2), x7.2)).1.2.2.2 then
  (some ((wrapA .i64 ((((x7.1.1, x7.1.2.1, x7.1.2.2.1, x7.1.2.2.2), x7.2)).2 - (((x7.1.1, x7.1.2.1, x7.1.2.2.1, x7.1.2.2.2), x7.2)).1.2.1))))
  else
  some ((((x7.1.1, x7.1.2.1, x7.1.2.2.1, x7.1.2.2.2), x7.2)).2))).bind fun b17 =>
  if ((decide (s1.1 < 0)) || (decide (b17 < s1.2.1))) then
  (some (.more ((s1.2.2, b17, (wrapA .i64 (s1.2.2 + 1))))))
  else
  some (.more ((s1.1, s1.2.1, (wrapA .i64 (s1.2.2 + 1))))))
  else
  some (.stop s1.1)
def F97 (F : Nat) (t0 : List ((Int × Int × Bool × Bool) × Int)) : Option Int :=
  (iter (F97_l0 F t0) F ((-1), 0, 0)).bind fun b24 =>
  some b24

def F22_l0 (F : Nat) (t0 : List (Int × Int × Bool × Bool)) (s8 : (List ((Int × Int × Bool × Bool) × Int)) × Int) : Option (Stp ((List ((Int × Int × Bool × Bool) × Int)) × Int) ((List ((Int × Int × Bool × Bool) × Int)))) :=
  if (decide (s8.2 < (t0.length : Int))) then
  ((at? t0 s8.2).bind fun x18 =>
  (app? s8.1 ([((((x18.1, x18.2.1, x18.2.2.1, x18.2.2.2)).1, ((x18.1, x18.2.1, x18.2.2.1, x18.2.2.2)).2.1, ((x18.1, x18.2.1, x18.2.2.1, x18.2.2.2)).2.2.1, ((x18.1, x18.2.1, x18.2.2.1, x18.2.2.2)).2.2.2), 0)])).bind fun L30 =>
  some (.more ((L30, (wrapA .i64 (s8.2 + 1))))))
  else
  some (.stop s8.1)
def F22_l1 (F : Nat) (s41 : (List (Int × Int × Int)) × (List Int) × Int × (List ((Int × Int × Bool × Bool) × Int))) (s54 : (List (Int × Int × Int)) × (List ((Int × Int × Bool × Bool) × Int))) : Option (Stp ((List (Int × Int × Int)) × (List ((Int × Int × Bool × Bool) × Int))) ((List (Int × Int × Int)) × (List ((Int × Int × Bool × Bool) × Int)))) :=
  (if (decide ((s54.1.length : Int) > 0)) then 
  ((at? s54.1 0).bind fun x63 =>
  some (x63.1 == s41.2.2.1))
   else some false).bind fun y66 =>
  if y66 then
  ((at? s54.1 0).bind fun x69 =>
  (F96 F s54.2 ((x69.1, x69.2.1, x69.2.2))).bind fun r71 =>
  (sub? s54.1 1 s54.1.length).bind fun L75 =>
  some (.more ((L75, r71))))
  else
  some (.stop ((s54.1, s54.2)))
def F22_l2 (F : Nat) (t2 : Int) (s41 : (List (Int × Int × Int)) × (List Int) × Int × (List ((Int × Int × Bool × Bool) × Int))) : Option (Stp ((List (Int × Int × Int)) × (List Int) × Int × (List ((Int × Int × Bool × Bool) × Int))) ((List Int) × (List ((Int × Int × Bool × Bool) × Int)))) :=
  if (decide (s41.2.2.1 < t2)) then
  ((iter (F22_l1 F s41) F (s41.1, s41.2.2.2)).bind fun b79 =>
  (F97 F b79.2).bind fun r84 =>
  if (decide (r84 ≥ 0)) then
  ((at? b79.2 r84).bind fun x89 =>
  (at? b79.2 r84).bind fun x91 =>
  (quo? .i64 2520 x91.1.1).bind fun x93 =>
  (at? b79.2 r84).bind fun x95 =>
  (app? s41.2.1 ([r84])).bind fun L103 =>
  some (.more ((b79.1, L103, (wrapA .i64 (s41.2.2.1 + 1)), (b79.2.set ((Int.toNat r84)) (((x95.1.1, x95.1.2.1, x95.1.2.2.1, x95.1.2.2.2), (wrapA .i64 (x89.2 + x93)))))))))
  else
  (app? s41.2.1 ([r84])).bind fun L113 =>
  some (.more ((b79.1, L113, (wrapA .i64 (s41.2.2.1 + 1)), b79.2))))
  else
  some (.stop ((s41.2.1, s41.2.2.2)))
def F22_l3 (F : Nat) (b119 : (List Int) × (List ((Int × Int × Bool × Bool) × Int))) (s124 : (List Int) × Int) : Option (Stp ((List Int) × Int) ((List Int))) :=
  if (decide (s124.2 < (b119.2.length : Int))) then
  ((at? b119.2 s124.2).bind fun x134 =>
  (app? s124.1 ([(((x134.1.1, x134.1.2.1, x134.1.2.2.1, x134.1.2.2.2), x134.2)).2])).bind fun L146 =>
  some (.more ((L146, (wrapA .i64 (s124.2 + 1))))))
  else
  some (.stop s124.1)
def F22 (F : Nat) (t0 : List (Int × Int × Bool × Bool)) (t1 : List (Int × Int × Int)) (t2 : Int) : Option ((List Int) × (List Int) × Int) :=
  (F24 F t0 t1).bind fun r1 =>
  if (r1 != 0) then
  (some (([], [], r1)))
  else
  if ((decide (t2 < 0)) || (decide (t2 > 200))) then
  (some (([], [], 1)))
  else
  (iter (F22_l0 F t0) F ([], 0)).bind fun b36 =>
  (iter (F22_l2 F t2) F (t1, [], 0, b36)).bind fun b119 =>
  (iter (F22_l3 F b119) F ([], 0)).bind fun b152 =>
  some ((b119.1, b152, 0))

def F23_l0 (F : Nat) (t0 : List (Int × Int × Bool × Bool)) (s3 : Int) : Option (Stp (Int) (Unit ⊕ Int)) :=
  if (decide (s3 < (t0.length : Int))) then
  ((at? t0 s3).bind fun x11 =>
  if ((((decide (((x11.1, x11.2.1, x11.2.2.1, x11.2.2.2)).1 < 1)) || (decide (((x11.1, x11.2.1, x11.2.2.1, x11.2.2.2)).1 > 10))) || (decide (((x11.1, x11.2.1, x11.2.2.1, x11.2.2.2)).2.1 < 0))) || (decide (((x11.1, x11.2.1, x11.2.2.1, x11.2.2.2)).2.1 > 100000))) then
  (some (.stop ((.inr 1))))
  else
  some (.more ((wrapA .i64 (s3 + 1)))))
  else
  some (.stop ((.inl ())))
def F23_l1 (F : Nat) (t0 : List (Int × Int × Bool × Bool)) (t1 : List (Int × Int × Int)) (s28 : Int × Int) : Option (Stp (Int × Int) (Unit ⊕ Int)) :=
  if (decide (s28.2 < (t1.length : Int))) then
  ((at? t1 s28.2).bind fun x36 =>
  if ((((((decide (((x36.1, x36.2.1, x36.2.2)).1 < 0)) || (decide (((x36.1, x36.2.1, x36.2.2)).1 > 200))) || (decide (((x36.1, x36.2.1, x36.2.2)).2.1 < 0))) || (decide (((x36.1, x36.2.1, x36.2.2)).2.1 ≥ (t0.length : Int)))) || (decide (((x36.1, x36.2.1, x36.2.2)).2.2 < 1))) || (decide (((x36.1, x36.2.1, x36.2.2)).2.2 > 4))) then
  (some (.stop ((.inr 1))))
  else
  if (decide (((x36.1, x36.2.1, x36.2.2)).1 < s28.1)) then
  (some (.stop ((.inr 3))))
  else
  some (.more ((((x36.1, x36.2.1, x36.2.2)).1, (wrapA .i64 (s28.2 + 1))))))
  else
  some (.stop ((.inl ())))
def F23 (F : Nat) (t0 : List (Int × Int × Bool × Bool)) (t1 : List (Int × Int × Int)) : Option Int :=
  if ((decide ((t0.length : Int) > 8)) || (decide ((t1.length : Int) > 30))) then
  (some 2)
  else
  (iter (F23_l0 F t0) F 0).bind fun b23 =>
  match b23 with
  | .inl b25 => ((iter (F23_l1 F t0 t1) F (0, 0)).bind fun b51 =>
  match b51 with
  | .inl b53 => (some 0)
  | .inr b53 => (some b53))
  | .inr b25 => (some b25)

def F98 (F : Nat) (t0 : (List (Int × Int × Bool × Bool))) : Option ((List (Int × Int × Bool × Bool))) := if t0.length ≤ 549755813888 then some t0 else none

def F99_l0 (F : Nat) (t0 : List Int) (s9 : Int × Int) : Option (Stp (Int × Int) (Int)) :=
  if (decide (s9.2 < (t0.length : Int))) then
  ((at? t0 s9.2).bind fun x15 =>
  some (.more (((minI s9.1 x15), (wrapA .i64 (s9.2 + 1))))))
  else
  some (.stop s9.1)
def F99 (F : Nat) (t0 : List Int) : Option Int :=
  (show Option (Unit) from (if (decide ((t0.length : Int) < 1)) then
  (none)
  else
  some (()))).bind fun b2 =>
  (at? t0 0).bind fun x7 =>
  (iter (F99_l0 F t0) F (x7, 1)).bind fun b17 =>
  some b17

def F100 (F : Nat) (t0 : Int) (c0 : (List (Int × Int × Bool × Bool))) (c1 : (List Int)) : Option Int :=
  (at? c0 t0).bind fun x1 =>
  if x1.2.2.2 then
  ((at? c1 t0).bind fun x4 =>
  (at? c0 t0).bind fun x6 =>
  some ((wrapA .i64 (x4 - x6.2.1))))
  else
  (at? c1 t0).bind fun x8 =>
  some x8

def F25_l0 (F : Nat) (s42 : Int × (List (Int × Int × Bool × Bool)) × (List Int)) (s73 : (List Int) × Int) : Option (Stp ((List Int) × Int) ((List Int))) :=
  if (decide (s73.2 < (s42.2.1.length : Int))) then
  ((at? s42.2.1 s73.2).bind fun x83 =>
  if x83.2.2.1 then
  ((at? s42.2.2 s73.2).bind fun x86 =>
  (app? s73.1 ([x86])).bind fun L92 =>
  some (.more ((L92, (wrapA .i64 (s73.2 + 1))))))
  else
  some (.more ((s73.1, (wrapA .i64 (s73.2 + 1))))))
  else
  some (.stop s73.1)
def F25_l1 (F : Nat) (t1 : List (Int × Int × Int)) (s25 : (List Int) × Int × (List (Int × Int × Bool × Bool)) × (List Int)) (s42 : Int × (List (Int × Int × Bool × Bool)) × (List Int)) : Option (Stp (Int × (List (Int × Int × Bool × Bool)) × (List Int)) ((List (Int × Int × Bool × Bool)) × (List Int))) :=
  if (decide (s42.1 < (t1.length : Int))) then
  ((at? t1 s42.1).bind fun x56 =>
  if (((x56.1, x56.2.1, x56.2.2)).1 != s25.2.1) then
  (some (.more (((wrapA .i64 (s42.1 + 1)), s42.2.1, s42.2.2))))
  else
  (ck s42.2.1 ((x56.1, x56.2.1, x56.2.2)).2.1).bind fun u65 =>
  if (((x56.1, x56.2.1, x56.2.2)).2.2 == 1) then
  ((at? s42.2.1 ((x56.1, x56.2.1, x56.2.2)).2.1).bind fun x70 =>
  some (.more (((wrapA .i64 (s42.1 + 1)), (s42.2.1.set ((Int.toNat ((x56.1, x56.2.1, x56.2.2)).2.1)) ((x70.1, x70.2.1, false, x70.2.2.2))), s42.2.2))))
  else
  if (((x56.1, x56.2.1, x56.2.2)).2.2 == 2) then
  ((iter (F25_l0 F s42) F ([], 0)).bind fun b98 =>
  (at? s42.2.1 ((x56.1, x56.2.1, x56.2.2)).2.1).bind fun x103 =>
  if ((!x103.2.2.1) && (decide ((b98.length : Int) > 0))) then
  ((at? s42.2.2 ((x56.1, x56.2.1, x56.2.2)).2.1).bind fun x107 =>
  (F99 F b98).bind fun r109 =>
  (ck s42.2.2 ((x56.1, x56.2.1, x56.2.2)).2.1).bind fun u113 =>
  (at? s42.2.1 ((x56.1, x56.2.1, x56.2.2)).2.1).bind fun x119 =>
  some (.more (((wrapA .i64 (s42.1 + 1)), (s42.2.1.set ((Int.toNat ((x56.1, x56.2.1, x56.2.2)).2.1)) ((x119.1, x119.2.1, true, x119.2.2.2))), (s42.2.2.set ((Int.toNat ((x56.1, x56.2.1, x56.2.2)).2.1)) ((maxI x107 r109)))))))
  else
  (at? s42.2.1 ((x56.1, x56.2.1, x56.2.2)).2.1).bind fun x123 =>
  some (.more (((wrapA .i64 (s42.1 + 1)), (s42.2.1.set ((Int.toNat ((x56.1, x56.2.1, x56.2.2)).2.1)) ((x123.1, x123.2.1, true, x123.2.2.2))), s42.2.2))))
  else
  if (((x56.1, x56.2.1, x56.2.2)).2.2 == 3) then
  ((at? s42.2.1 ((x56.1, x56.2.1, x56.2.2)).2.1).bind fun x128 =>
  some (.more (((wrapA .i64 (s42.1 + 1)), (s42.2.1.set ((Int.toNat ((x56.1, x56.2.1, x56.2.2)).2.1)) ((x128.1, x128.2.1, x128.2.2.1, true))), s42.2.2))))
  else
  if (((x56.1, x56.2.1, x56.2.2)).2.2 == 4) then
  ((at? s42.2.1 ((x56.1, x56.2.1, x56.2.2)).2.1).bind fun x133 =>
  some (.more (((wrapA .i64 (s42.1 + 1)), (s42.2.1.set ((Int.toNat ((x56.1, x56.2.1, x56.2.2)).2.1)) ((x133.1, x133.2.1, x133.2.2.1, false))), s42.2.2))))
  else
  some (.more (((wrapA .i64 (s42.1 + 1)), s42.2.1, s42.2.2))))
  else
  some (.stop ((s42.2.1, s42.2.2)))
def F25_l2 (F : Nat) (b135 : (List (Int × Int × Bool × Bool)) × (List Int)) (s141 : Int × Int) : Option (Stp (Int × Int) (Int)) :=
  if (decide (s141.2 ≥ 0)) then
  ((at? b135.1 s141.2).bind fun x147 =>
  (if x147.2.2.1 then 
  ((if (decide (s141.1 < 0)) then some true else 
  ((F100 F s141.2 b135.1 b135.2).bind fun r149 =>
  (F100 F s141.1 b135.1 b135.2).bind fun r154 =>
  some (decide (r149 ≤ r154)))
  ).bind fun y160 =>
  some y160)
   else some false).bind fun y165 =>
  if y165 then
  (some (.more ((s141.2, (wrapA .i64 (s141.2 - 1))))))
  else
  some (.more ((s141.1, (wrapA .i64 (s141.2 - 1))))))
  else
  some (.stop s141.1)
def F25_l3 (F : Nat) (t1 : List (Int × Int × Int)) (t2 : Int) (s25 : (List Int) × Int × (List (Int × Int × Bool × Bool)) × (List Int)) : Option (Stp ((List Int) × Int × (List (Int × Int × Bool × Bool)) × (List Int)) ((List Int) × (List Int))) :=
  if (decide (s25.2.1 < t2)) then
  ((iter (F25_l1 F t1 s25) F (0, s25.2.2.1, s25.2.2.2)).bind fun b135 =>
  (iter (F25_l2 F b135) F ((-1), (wrapA .i64 ((b135.1.length : Int) - 1)))).bind fun b170 =>
  if (decide (b170 ≥ 0)) then
  ((at? b135.2 b170).bind fun x175 =>
  (at? b135.1 b170).bind fun x177 =>
  (quo? .i64 2520 x177.1).bind fun x179 =>
  (ck b135.2 b170).bind fun u181 =>
  (app? s25.1 ([b170])).bind fun L189 =>
  some (.more ((L189, (wrapA .i64 (s25.2.1 + 1)), b135.1, (b135.2.set ((Int.toNat b170)) ((wrapA .i64 (x175 + x179))))))))
  else
  (app? s25.1 ([b170])).bind fun L199 =>
  some (.more ((L199, (wrapA .i64 (s25.2.1 + 1)), b135.1, b135.2))))
  else
  some (.stop ((s25.1, s25.2.2.2)))
def F25 (F : Nat) (t0 : List (Int × Int × Bool × Bool)) (t1 : List (Int × Int × Int)) (t2 : Int) : Option ((List Int) × (List Int)) :=
  (F98 F t0).bind fun r5 =>
  (mk? (r5.length : Int) (0 : Int)).bind fun L13 =>
  (iter (F25_l3 F t1 t2) F ([], 0, r5, L13)).bind fun b205 =>
  some ((b205.1, b205.2))

def F26 (F : Nat) (t0 : List Int) (t1 : List Int) : Option Bool :=
  (F21 F t0 t1).bind fun r1 =>
  some r1

def F4 (F : Nat) (t0 : List (Int × Int × Bool × Bool)) (t1 : List (Int × Int × Int)) (t2 : Int) : Option Bool :=
  (F22 F t0 t1 t2).bind fun r1 =>
  (F23 F t0 t1).bind fun r10 =>
  (F24 F t0 t1).bind fun r14 =>
  if (r14 != r10) then
  (some false)
  else
  (show Option (Int) from (if ((r10 == 0) && ((decide (t2 < 0)) || (decide (t2 > 200)))) then
  (some 1)
  else
  some r10)).bind fun b22 =>
  if (b22 != 0) then
  (some (((r1.2.2 == b22) && ((wrapA .i64 ((r1.1.length : Int) + (r1.2.1.length : Int))) == 0))))
  else
  (F25 F t0 t1 t2).bind fun r29 =>
  (if (r1.2.2 == 0) then 
  ((F26 F r1.1 r29.1).bind fun r38 =>
  some r38)
   else some false).bind fun y43 =>
  (if y43 then 
  ((F26 F r1.2.1 r29.2).bind fun r47 =>
  some r47)
   else some false).bind fun y52 =>
  some y52

def F101_l0 (F : Nat) (t0 : List Int) (s6 : Int × (List Bool)) : Option (Stp (Int × (List Bool)) (Unit ⊕ Int)) :=
  if (decide (s6.1 < (t0.length : Int))) then
  ((at? t0 s6.1).bind fun x14 =>
  (if ((decide (x14 < 0)) || (decide (x14 ≥ (t0.length : Int)))) then some true else 
  ((at? s6.2 x14).bind fun x17 =>
  some x17)
  ).bind fun y20 =>
  if y20 then
  (some (.stop ((.inr 3))))
  else
  (ck s6.2 x14).bind fun u23 =>
  some (.more (((wrapA .i64 (s6.1 + 1)), (s6.2.set ((Int.toNat x14)) true)))))
  else
  some (.stop ((.inl ())))
def F101 (F : Nat) (t0 : List Int) : Option Int :=
  if (decide ((t0.length : Int) > 10)) then
  (some 2)
  else
  (iter (F101_l0 F t0) F (0, (List.replicate 10 false))).bind fun b27 =>
  match b27 with
  | .inl b29 => (some 0)
  | .inr b29 => (some b29)

def F150 (F : Nat) (t0 : Int) (c0 : Int) : Option Bool :=
  some ((decide (t0 > c0)))

def F116_150_l0 (F : Nat) (t0 : List Int) (t1c0 : Int) (s1 : Int) : Option (Stp (Int) (Unit ⊕ Int)) :=
  if (decide (s1 < (t0.length : Int))) then
  ((at? t0 s1).bind fun x9 =>
  (F150 F x9 t1c0).bind fun r11 =>
  if r11 then
  (some (.stop ((.inr s1))))
  else
  some (.more ((wrapA .i64 (s1 + 1)))))
  else
  some (.stop ((.inl ())))
def F116_150 (F : Nat) (t0 : List Int) (t1c0 : Int) : Option Int :=
  (iter (F116_150_l0 F t0 t1c0) F 0).bind fun b16 =>
  match b16 with
  | .inl b18 => (some ((-1)))
  | .inr b18 => (some b18)

def F102_l0 (F : Nat) (t0 : List (List Int)) (s5 : Int × (List (List Int)) × Int) : Option (Stp (Int × (List (List Int)) × Int) (((List (List Int)) × Int) ⊕ ((List (List Int)) × Int))) :=
  if (decide (s5.1 < (t0.length : Int))) then
  ((at? s5.2.1 s5.1).bind fun L14 =>
  (F116_150 F L14 s5.2.2).bind fun r19 =>
  if (decide (r19 < 0)) then
  ((at? s5.2.1 s5.1).bind fun L24 =>
  (app? L24 ([s5.2.2])).bind fun L35 =>
  (ck s5.2.1 s5.1).bind fun u41 =>
  some (.stop ((.inr ((s5.2.1.set ((Int.toNat s5.1)) L35), s5.1)))))
  else
  (at? s5.2.1 s5.1).bind fun L47 =>
  (ck s5.2.1 s5.1).bind fun u54 =>
  (at? L47 r19).bind fun x56 =>
  (ck L47 r19).bind fun u58 =>
  some (.more (((wrapA .i64 (s5.1 + 1)), (s5.2.1.set ((Int.toNat s5.1)) ((L47.set ((Int.toNat r19)) s5.2.2))), x56))))
  else
  some (.stop ((.inl (s5.2.1, s5.2.2))))
def F102 (F : Nat) (t0 : List (List Int)) (t1 : Int) : Option ((List (List Int)) × Int) :=
  (iter (F102_l0 F t0) F (0, t0, t1)).bind fun b64 =>
  match b64 with
  | .inl b66 => ((app? b66.1 [[b66.2]]).bind fun L77 =>
  some ((L77, (b66.1.length : Int))))
  | .inr b66 => (some ((b66.1, b66.2)))

def F27_l0 (F : Nat) (t0 : List Int) (s17 : Int × (List (List Int)) × (List (List Int))) : Option (Stp (Int × (List (List Int)) × (List (List Int))) ((List (List Int)) × (List (List Int)))) :=
  if (decide (s17.1 < (t0.length : Int))) then
  ((at? t0 s17.1).bind fun x31 =>
  (F102 F s17.2.1 x31).bind fun r33 =>
  (show Option ((List (List Int)) × (List (List Int))) from (if (r33.2 == (s17.2.2.length : Int)) then
  ((app? s17.2.2 [[]]).bind fun L48 =>
  some ((r33.1, L48)))
  else
  some ((r33.1, s17.2.2)))).bind fun b58 =>
  (at? b58.2 r33.2).bind fun L72 =>
  (app? L72 ([s17.1])).bind fun L99 =>
  (ck b58.2 r33.2).bind fun u113 =>
  some (.more (((wrapA .i64 (s17.1 + 1)), b58.1, (b58.2.set ((Int.toNat r33.2)) L99)))))
  else
  some (.stop ((s17.2.1, s17.2.2)))
def F27 (F : Nat) (t0 : List Int) : Option (((List (List Int)) × (List (List Int))) × Int) :=
  (F101 F t0).bind fun r5 =>
  if (r5 != 0) then
  (some ((([], []), r5)))
  else
  (iter (F27_l0 F t0) F (0, [], [])).bind fun b154 =>
  some (((b154.1, b154.2), 0))

def F29_l0 (F : Nat) (t0 : List (List Int)) (s1 : Int × Int) : Option (Stp (Int × Int) (Int)) :=
  if (decide (s1.2 < (t0.length : Int))) then
  ((at? t0 s1.2).bind fun L7 =>
  some (.more (((wrapA .i64 (s1.1 + (L7.length : Int))), (wrapA .i64 (s1.2 + 1))))))
  else
  some (.stop s1.1)
def F29_l1 (F : Nat) (t0 : List (List Int)) (b11 : Int) (s21 : Int × (List Bool)) (L29 : List Int) (s44 : Int × (List Bool)) : Option (Stp (Int × (List Bool)) ((List Bool) ⊕ Int)) :=
  if (decide (s44.1 < (L29.length : Int))) then
  ((at? L29 s44.1).bind fun x52 =>
  (if ((decide (x52 < 0)) || (decide (x52 ≥ b11))) then some true else 
  ((at? s44.2 x52).bind fun x55 =>
  some x55)
  ).bind fun y58 =>
  (if y58 then some true else 
  ((if (decide (s44.1 > 0)) then 
  ((at? L29 (wrapA .i64 (s44.1 - 1))).bind fun x60 =>
  some (decide (x52 < x60)))
   else some false).bind fun y63 =>
  some y63)
  ).bind fun y66 =>
  (if y66 then some true else 
  ((if (decide (s21.1 > 0)) then 
  ((at? t0 (wrapA .i64 (s21.1 - 1))).bind fun L68 =>
  (at? L68 s44.1).bind fun x72 =>
  some (decide (x52 < x72)))
   else some false).bind fun y75 =>
  some y75)
  ).bind fun y78 =>
  if y78 then
  (some (.stop ((.inr 3))))
  else
  (ck s44.2 x52).bind fun u81 =>
  some (.more (((wrapA .i64 (s44.1 + 1)), (s44.2.set ((Int.toNat x52)) true)))))
  else
  some (.stop ((.inl s44.2)))
def F29_l2 (F : Nat) (t0 : List (List Int)) (b11 : Int) (s21 : Int × (List Bool)) : Option (Stp (Int × (List Bool)) (Unit ⊕ Int)) :=
  if (decide (s21.1 < (t0.length : Int))) then
  ((at? t0 s21.1).bind fun L29 =>
  (if ((L29.length : Int) == 0) then some true else 
  ((if (decide (s21.1 > 0)) then 
  ((at? t0 (wrapA .i64 (s21.1 - 1))).bind fun L33 =>
  some (decide ((L29.length : Int) > (L33.length : Int))))
   else some false).bind fun y38 =>
  some y38)
  ).bind fun y41 =>
  if y41 then
  (some (.stop ((.inr 3))))
  else
  (iter (F29_l1 F t0 b11 s21 L29) F (0, s21.2)).bind fun b85 =>
  match b85 with
  | .inl b87 => (some (.more (((wrapA .i64 (s21.1 + 1)), b87))))
  | .inr b87 => (some (.stop ((.inr b87)))))
  else
  some (.stop ((.inl ())))
def F29 (F : Nat) (t0 : List (List Int)) : Option Int :=
  (iter (F29_l0 F t0) F (0, 0)).bind fun b11 =>
  if ((decide (b11 > 10)) || (decide ((t0.length : Int) > 10))) then
  (some 2)
  else
  (iter (F29_l2 F t0 b11) F (0, (List.replicate 10 false))).bind fun b92 =>
  match b92 with
  | .inl b94 => (some 0)
  | .inr b94 => (some b94)

def F45 (F : Nat) (t0 : (List Int)) : Option ((List Int)) := if t0.length ≤ 549755813888 then some t0 else none

def F103_l0 (F : Nat) (t0 : List (List Int)) (s1 : (List (List Int)) × Int) : Option (Stp ((List (List Int)) × Int) ((List (List Int)))) :=
  if (decide (s1.2 < (t0.length : Int))) then
  ((at? t0 s1.2).bind fun L11 =>
  (F45 F L11).bind fun r15 =>
  (app? s1.1 [r15]).bind fun L25 =>
  some (.more ((L25, (wrapA .i64 (s1.2 + 1))))))
  else
  some (.stop s1.1)
def F103 (F : Nat) (t0 : List (List Int)) : Option ((List (List Int))) :=
  (iter (F103_l0 F t0) F ([], 0)).bind fun b33 =>
  some b33

def F105 (F : Nat) (t0 : List Int) (c0 : Int) : Option Bool :=
  (if (decide ((t0.length : Int) > 0)) then 
  ((at? t0 (wrapA .i64 ((t0.length : Int) - 1))).bind fun x1 =>
  some (x1 == c0))
   else some false).bind fun y4 =>
  some y4

def F104_105_l0 (F : Nat) (t0 : List (List Int)) (t1c0 : Int) (s1 : Int) : Option (Stp (Int) (Unit ⊕ Int)) :=
  if (decide (s1 < (t0.length : Int))) then
  ((at? t0 s1).bind fun L9 =>
  (F105 F L9 t1c0).bind fun r13 =>
  if r13 then
  (some (.stop ((.inr s1))))
  else
  some (.more ((wrapA .i64 (s1 + 1)))))
  else
  some (.stop ((.inl ())))
def F104_105 (F : Nat) (t0 : List (List Int)) (t1c0 : Int) : Option Int :=
  (iter (F104_105_l0 F t0 t1c0) F 0).bind fun b18 =>
  match b18 with
  | .inl b20 => (some ((-1)))
  | .inr b20 => (some b20)

def F28_l0 (F : Nat) (t0 : (List (List Int)) × (List (List Int))) (s16 : Int × Int) : Option (Stp (Int × Int) (Int ⊕ ((List Int) × Int))) :=
  if (decide (s16.2 < (t0.1.length : Int))) then
  ((at? t0.1 s16.2).bind fun L25 =>
  (at? t0.2 s16.2).bind fun L29 =>
  if ((L25.length : Int) != (L29.length : Int)) then
  (some (.stop ((.inr ([], 1)))))
  else
  some (.more (((wrapA .i64 (s16.1 + (L25.length : Int))), (wrapA .i64 (s16.2 + 1))))))
  else
  some (.stop ((.inl s16.1)))
def F28_l1 (F : Nat) (s123 : Int × Int × (List (List Int))) (s133 : Int) : Option (Stp (Int) (Int)) :=
  (at? s123.2.2 s123.1).bind fun L138 =>
  (at? L138 s133).bind fun x142 =>
  if (decide (x142 > s123.2.1)) then
  (some (.more ((wrapA .i64 (s133 - 1)))))
  else
  some (.stop s133)
def F28_l2 (F : Nat)  (s123 : Int × Int × (List (List Int))) : Option (Stp (Int × Int × (List (List Int))) (Int × (List (List Int)))) :=
  if (decide (s123.1 ≥ 0)) then
  ((at? s123.2.2 s123.1).bind fun L129 =>
  (iter (F28_l1 F s123) F (wrapA .i64 ((L129.length : Int) - 1))).bind fun b145 =>
  (at? s123.2.2 s123.1).bind fun L149 =>
  (ck s123.2.2 s123.1).bind fun u156 =>
  (at? L149 b145).bind fun x158 =>
  (ck L149 b145).bind fun u160 =>
  some (.more (((wrapA .i64 (s123.1 - 1)), x158, (s123.2.2.set ((Int.toNat s123.1)) ((L149.set ((Int.toNat b145)) s123.2.1)))))))
  else
  some (.stop ((s123.2.1, s123.2.2)))
def F28_l3 (F : Nat)  (s65 : Int × (List (List Int)) × (List (List Int)) × (List Int)) : Option (Stp (Int × (List (List Int)) × (List (List Int)) × (List Int)) ((List Int))) :=
  if (decide (s65.1 ≥ 0)) then
  ((F104_105 F s65.2.2.1 s65.1).bind fun r75 =>
  (at? s65.2.1 r75).bind fun L79 =>
  (at? s65.2.1 r75).bind fun L83 =>
  (at? L83 (wrapA .i64 ((L79.length : Int) - 1))).bind fun x87 =>
  (at? s65.2.1 r75).bind fun L89 =>
  (sub? L89 0 (wrapA .i64 ((L79.length : Int) - 1))).bind fun L96 =>
  (at? s65.2.2.1 r75).bind fun L100 =>
  (sub? L100 0 (wrapA .i64 ((L79.length : Int) - 1))).bind fun L107 =>
  (ck s65.2.1 r75).bind fun u111 =>
  (ck s65.2.2.1 r75).bind fun u117 =>
  (iter (F28_l2 F) F ((wrapA .i64 (r75 - 1)), x87, (s65.2.1.set ((Int.toNat r75)) L96))).bind fun b164 =>
  (ck s65.2.2.2 s65.1).bind fun u168 =>
  some (.more (((wrapA .i64 (s65.1 - 1)), b164.2, (s65.2.2.1.set ((Int.toNat r75)) L107), (s65.2.2.2.set ((Int.toNat s65.1)) b164.1)))))
  else
  some (.stop s65.2.2.2)
def F28 (F : Nat) (t0 : (List (List Int)) × (List (List Int))) : Option ((List Int) × Int) :=
  (F29 F t0.1).bind fun r5 =>
  if (r5 != 0) then
  (some (([], r5)))
  else
  (F29 F t0.2).bind fun r10 =>
  if (r10 != 0) then
  (some (([], r10)))
  else
  if ((t0.1.length : Int) != (t0.2.length : Int)) then
  (some (([], 1)))
  else
  (iter (F28_l0 F t0) F (0, 0)).bind fun b34 =>
  match b34 with
  | .inl b36 => ((F103 F t0.1).bind fun r39 =>
  (F103 F t0.2).bind fun r46 =>
  (mk? b36 (0 : Int)).bind fun L53 =>
  (iter (F28_l3 F) F ((wrapA .i64 (b36 - 1)), r39, r46, L53)).bind fun b180 =>
  some ((b180, 0)))
  | .inr b36 => (some ((b36.1, b36.2)))

def F152_l0 (F : Nat) (t0 : List Int) (t1 : Int) (s1 : Int) : Option (Stp (Int) (Unit ⊕ Int)) :=
  if (decide (s1 < (t0.length : Int))) then
  ((at? t0 s1).bind fun x9 =>
  if (t1 == x9) then
  (some (.stop ((.inr s1))))
  else
  some (.more ((wrapA .i64 (s1 + 1)))))
  else
  some (.stop ((.inl ())))
def F152 (F : Nat) (t0 : List Int) (t1 : Int) : Option Int :=
  (iter (F152_l0 F t0 t1) F 0).bind fun b12 =>
  match b12 with
  | .inl b14 => (some ((-1)))
  | .inr b14 => (some b14)

def F107 (F : Nat) (t0 : List Int) (t1 : Int) : Option Bool :=
  (F152 F t0 t1).bind fun r1 =>
  some ((decide (r1 ≥ 0)))

def F31_l0 (F : Nat) (t0 : List Int) (s2 : Int) : Option (Stp (Int) (Unit ⊕ Int)) :=
  if (decide (s2 < (t0.length : Int))) then
  ((F107 F t0 s2).bind fun r10 =>
  if (!r10) then
  (some (.stop ((.inr 3))))
  else
  some (.more ((wrapA .i64 (s2 + 1)))))
  else
  some (.stop ((.inl ())))
def F31 (F : Nat) (t0 : List Int) : Option Int :=
  if (decide ((t0.length : Int) > 10)) then
  (some 2)
  else
  (iter (F31_l0 F t0) F 0).bind fun b15 =>
  match b15 with
  | .inl b17 => (some 0)
  | .inr b17 => (some b17)

def F167 (F : Nat) (t0 : Int) : Option Bool :=
  some ((t0 != t0))

def F151 (F : Nat) (t0 : Int) (t1 : Int) : Option Bool :=
  (F167 F t0).bind fun r1 =>
  (if r1 then 
  ((F167 F t1).bind fun r5 =>
  some (!r5))
   else some false).bind fun y10 =>
  some ((y10 || (decide (t0 < t1))))

def F106_l0 (F : Nat) (t0 : List Int) (s1 : Int) : Option (Stp (Int) (Unit ⊕ Bool)) :=
  if (decide (s1 > 0)) then
  ((at? t0 s1).bind fun x9 =>
  (at? t0 (wrapA .i64 (s1 - 1))).bind fun x11 =>
  (F151 F x9 x11).bind fun r13 =>
  if r13 then
  (some (.stop ((.inr false))))
  else
  some (.more ((wrapA .i64 (s1 - 1)))))
  else
  some (.stop ((.inl ())))
def F106 (F : Nat) (t0 : List Int) : Option Bool :=
  (iter (F106_l0 F t0) F (wrapA .i64 ((t0.length : Int) - 1))).bind fun b18 =>
  match b18 with
  | .inl b20 => (some true)
  | .inr b20 => (some b20)

def F30_l0 (F : Nat) (t0 : List (List Int)) (s1 : (List Int) × Int) : Option (Stp ((List Int) × Int) ((List Int))) :=
  if (decide (s1.2 < (t0.length : Int))) then
  ((at? t0 s1.2).bind fun L11 =>
  (app? s1.1 L11).bind fun L15 =>
  some (.more ((L15, (wrapA .i64 (s1.2 + 1))))))
  else
  some (.stop s1.1)
def F30_l1 (F : Nat) (t0 : List (List Int)) (s33 : Int) (L41 : List Int) (s65 : Int) : Option (Stp (Int) (Unit ⊕ Int)) :=
  if (decide (s65 < (L41.length : Int))) then
  ((at? L41 s65).bind fun x73 =>
  (if (decide (s33 > 0)) then 
  ((at? t0 (wrapA .i64 (s33 - 1))).bind fun L75 =>
  (at? L75 s65).bind fun x79 =>
  some (decide (x79 > x73)))
   else some false).bind fun y82 =>
  if y82 then
  (some (.stop ((.inr 3))))
  else
  some (.more ((wrapA .i64 (s65 + 1)))))
  else
  some (.stop ((.inl ())))
def F30_l2 (F : Nat) (t0 : List (List Int)) (s33 : Int) : Option (Stp (Int) (Unit ⊕ Int)) :=
  if (decide (s33 < (t0.length : Int))) then
  ((at? t0 s33).bind fun L41 =>
  (if ((L41.length : Int) == 0) then some true else 
  ((F106 F L41).bind fun r45 =>
  some (!r45))
  ).bind fun y50 =>
  (if y50 then some true else 
  ((if (decide (s33 > 0)) then 
  ((at? t0 (wrapA .i64 (s33 - 1))).bind fun L54 =>
  some (decide ((L41.length : Int) > (L54.length : Int))))
   else some false).bind fun y59 =>
  some y59)
  ).bind fun y62 =>
  if y62 then
  (some (.stop ((.inr 3))))
  else
  (iter (F30_l1 F t0 s33 L41) F 0).bind fun b85 =>
  match b85 with
  | .inl b87 => (some (.more ((wrapA .i64 (s33 + 1)))))
  | .inr b87 => (some (.stop ((.inr b87)))))
  else
  some (.stop ((.inl ())))
def F30 (F : Nat) (t0 : List (List Int)) : Option Int :=
  (iter (F30_l0 F t0) F ([], 0)).bind fun b21 =>
  if ((decide ((b21.length : Int) > 10)) || (decide ((t0.length : Int) > 10))) then
  (some 2)
  else
  (F31 F b21).bind fun r28 =>
  if (r28 != 0) then
  (some 3)
  else
  (iter (F30_l2 F t0) F 0).bind fun b92 =>
  match b92 with
  | .inl b94 => (some 0)
  | .inr b94 => (some b94)

def F168 (F : Nat) (t0 : Int) : Option Bool :=
  some ((t0 != t0))

def F153_l0 (F : Nat) (t0 : List Int) (t1 : Int) (s1 : Int × Int) : Option (Stp (Int × Int) (Int)) :=
  if (decide (s1.1 < s1.2)) then
  ((shr? .u64 (wrapA .u64 (wrapA .i64 (s1.1 + s1.2))) 1).bind fun x7 =>
  (at? t0 (wrapA .i64 x7)).bind fun x9 =>
  (F151 F x9 t1).bind fun r11 =>
  if r11 then
  (some (.more (((wrapA .i64 ((wrapA .i64 x7) + 1)), s1.2))))
  else
  some (.more ((s1.1, (wrapA .i64 x7)))))
  else
  some (.stop s1.1)
def F153 (F : Nat) (t0 : List Int) (t1 : Int) : Option (Int × Bool) :=
  (iter (F153_l0 F t0 t1) F (0, (t0.length : Int))).bind fun b16 =>
  (if (decide (b16 < (t0.length : Int))) then 
  ((at? t0 b16).bind fun x20 =>
  (if (x20 == t1) then some true else 
  ((at? t0 b16).bind fun x22 =>
  (F168 F x22).bind fun r24 =>
  (if r24 then 
  ((F168 F t1).bind fun r28 =>
  some r28)
   else some false).bind fun y33 =>
  some y33)
  ).bind fun y38 =>
  some y38)
   else some false).bind fun y43 =>
  some ((b16, y43))

def F108 : Nat → (List (List Int)) → Int → Option ((List (List Int)))
  | 0, _, _ => none
  | F + 1, t0, t1 =>
  let frec := F108 F
  if ((t0.length : Int) == 0) then
  (some ([[t1]]))
  else
  (at? t0 0).bind fun L10 =>
  (F45 F L10).bind fun r14 =>
  (F153 F r14 t1).bind fun r20 =>
  if (r20.1 == (r14.length : Int)) then
  ((app? r14 ([t1])).bind fun L29 =>
  (sub? t0 1 t0.length).bind fun L39 =>
  (app? ([L29]) L39).bind fun L43 =>
  some L43)
  else
  (at? r14 r20.1).bind fun x49 =>
  (ck r14 r20.1).bind fun u51 =>
  (sub? t0 1 t0.length).bind fun L59 =>
  (frec L59 x49).bind fun r63 =>
  (app? ([(r14.set ((Int.toNat r20.1)) t1)]) r63).bind fun L70 =>
  some L70

def F109 (F : Nat) (t0 : (List (List Int))) : Option ((List (List Int))) := if t0.length ≤ 549755813888 then some t0 else none

def F33_l0 (F : Nat) (s9 : Int × (List (List Int)) × (List (List Int))) (r25 : (List (List Int))) (s41 : (List (List Int)) × Int) : Option (Stp ((List (List Int)) × Int) ((List (List Int)))) :=
  if (decide (s41.2 < (r25.length : Int))) then
  ((at? r25 s41.2).bind fun L51 =>
  if (s41.2 == (s9.2.1.length : Int)) then
  ((app? s41.1 ([[s9.1]])).bind fun L64 =>
  some (.more ((L64, (wrapA .i64 (s41.2 + 1))))))
  else
  (at? s9.2.1 s41.2).bind fun L70 =>
  if (decide ((L51.length : Int) > (L70.length : Int))) then
  ((at? s41.1 s41.2).bind fun L75 =>
  (F45 F L75).bind fun r79 =>
  (app? r79 ([s9.1])).bind fun L89 =>
  (ck s41.1 s41.2).bind fun u95 =>
  some (.more (((s41.1.set ((Int.toNat s41.2)) L89), (wrapA .i64 (s41.2 + 1))))))
  else
  some (.more ((s41.1, (wrapA .i64 (s41.2 + 1))))))
  else
  some (.stop s41.1)
def F33_l1 (F : Nat) (t0 : List Int) (s9 : Int × (List (List Int)) × (List (List Int))) : Option (Stp (Int × (List (List Int)) × (List (List Int))) ((List (List Int)) × (List (List Int)))) :=
  if (decide (s9.1 < (t0.length : Int))) then
  ((at? t0 s9.1).bind fun x23 =>
  (F108 F s9.2.1 x23).bind fun r25 =>
  (F109 F s9.2.2).bind fun r34 =>
  (iter (F33_l0 F s9 r25) F (r34, 0)).bind fun b99 =>
  some (.more (((wrapA .i64 (s9.1 + 1)), r25, b99))))
  else
  some (.stop ((s9.2.1, s9.2.2)))
def F33 (F : Nat) (t0 : List Int) : Option (((List (List Int)) × (List (List Int)))) :=
  (iter (F33_l1 F t0) F (0, [], [])).bind fun b106 =>
  some ((b106.1, b106.2))

def F34_21_l0 (F : Nat) (t0 : List (List Int)) (t1 : List (List Int)) (s2 : Int) : Option (Stp (Int) (Unit ⊕ Bool)) :=
  if (decide (s2 < (t0.length : Int))) then
  ((at? t0 s2).bind fun L10 =>
  (at? t1 s2).bind fun L14 =>
  (F21 F L10 L14).bind fun r18 =>
  if (!r18) then
  (some (.stop ((.inr false))))
  else
  some (.more ((wrapA .i64 (s2 + 1)))))
  else
  some (.stop ((.inl ())))
def F34_21 (F : Nat) (t0 : List (List Int)) (t1 : List (List Int)) : Option Bool :=
  if ((t0.length : Int) != (t1.length : Int)) then
  (some false)
  else
  (iter (F34_21_l0 F t0 t1) F 0).bind fun b23 =>
  match b23 with
  | .inl b25 => (some true)
  | .inr b25 => (some b25)

def F32 (F : Nat) (t0 : (List (List Int)) × (List (List Int))) (t1 : (List (List Int)) × (List (List Int))) : Option Bool :=
  (F34_21 F t0.1 t1.1).bind fun r9 =>
  (if r9 then 
  ((F34_21 F t0.2 t1.2).bind fun r13 =>
  some r13)
   else some false).bind fun y18 =>
  some y18

def F35 (F : Nat) (t0 : List Int) (t1 : List Int) : Option Bool :=
  some (((t0.length : Int) == (t1.length : Int)))

def F34_35_l0 (F : Nat) (t0 : List (List Int)) (t1 : List (List Int)) (s2 : Int) : Option (Stp (Int) (Unit ⊕ Bool)) :=
  if (decide (s2 < (t0.length : Int))) then
  ((at? t0 s2).bind fun L10 =>
  (at? t1 s2).bind fun L14 =>
  (F35 F L10 L14).bind fun r18 =>
  if (!r18) then
  (some (.stop ((.inr false))))
  else
  some (.more ((wrapA .i64 (s2 + 1)))))
  else
  some (.stop ((.inl ())))
def F34_35 (F : Nat) (t0 : List (List Int)) (t1 : List (List Int)) : Option Bool :=
  if ((t0.length : Int) != (t1.length : Int)) then
  (some false)
  else
  (iter (F34_35_l0 F t0 t1) F 0).bind fun b23 =>
  match b23 with
  | .inl b25 => (some true)
  | .inr b25 => (some b25)

def F5 (F : Nat) (t0 : List Int) (t1 : (List (List Int)) × (List (List Int))) : Option Bool :=
  (F27 F t0).bind fun r5 =>
  (F28 F ((t1.1, t1.2))).bind fun r20 =>
  (F29 F t1.1).bind fun r26 =>
  (F30 F t1.1).bind fun r30 =>
  (if (r26 != r30) then some true else 
  ((F29 F t1.2).bind fun r34 =>
  (F30 F t1.2).bind fun r38 =>
  some (r34 != r38))
  ).bind fun y43 =>
  if y43 then
  (some false)
  else
  (F31 F t0).bind fun r48 =>
  (if ((r5.2 != r48) || ((r48 != 0) && (decide ((wrapA .i64 ((r5.1.1.length : Int) + (r5.1.2.length : Int))) > 0)))) then some true else 
  ((if (r48 == 0) then 
  ((F33 F t0).bind fun r54 =>
  (F32 F ((r5.1.1, r5.1.2)) ((r54.1, r54.2))).bind fun r63 =>
  some (!r63))
   else some false).bind fun y68 =>
  some y68)
  ).bind fun y73 =>
  if y73 then
  (some false)
  else
  (F30 F t1.1).bind fun r78 =>
  (show Option (Int) from (if (r78 == 0) then
  ((F30 F t1.2).bind fun r83 =>
  some r83)
  else
  some r78)).bind fun b87 =>
  (if (b87 == 0) then 
  ((F34_35 F t1.1 t1.2).bind fun r92 =>
  some (!r92))
   else some false).bind fun y97 =>
  (show Option (Int) from (if y97 then
  (some 1)
  else
  some b87)).bind fun b102 =>
  if (b102 != 0) then
  (some (((r20.2 == b102) && ((r20.1.length : Int) == 0))))
  else
  (if (r20.2 == 0) then 
  ((F31 F r20.1).bind fun r109 =>
  some (r109 == 0))
   else some false).bind fun y114 =>
  (if y114 then 
  ((F33 F r20.1).bind fun r118 =>
  (F32 F ((r118.1, r118.2)) ((t1.1, t1.2))).bind fun r127 =>
  some r127)
   else some false).bind fun y132 =>
  some y132

def F36_l0 (F : Nat) (t0 : Int) (s15 : Int × (List Int)) (s21 : Int × (List Int)) : Option (Stp (Int × (List Int)) ((List Int))) :=
  if (decide (s21.1 ≤ t0)) then
  ((at? s21.2 s21.1).bind fun x27 =>
  (at? s21.2 (wrapA .i64 (s21.1 - s15.1))).bind fun x29 =>
  (ck s21.2 s21.1).bind fun u31 =>
  some (.more (((wrapA .i64 (s21.1 + 1)), (s21.2.set ((Int.toNat s21.1)) ((wrapA .i64 (x27 + x29))))))))
  else
  some (.stop s21.2)
def F36_l1 (F : Nat) (t0 : Int) (t1 : Int) (s15 : Int × (List Int)) : Option (Stp (Int × (List Int)) ((List Int))) :=
  if (decide (s15.1 ≤ t1)) then
  ((iter (F36_l0 F t0 s15) F (s15.1, s15.2)).bind fun b35 =>
  some (.more (((wrapA .i64 (s15.1 + 1)), b35))))
  else
  some (.stop s15.2)
def F36 (F : Nat) (t0 : Int) (t1 : Int) : Option (Int × Int) :=
  if ((((decide (t0 < 0)) || (decide (t0 > 40))) || (decide (t1 < 0))) || (decide (t1 > 40))) then
  (some ((0, 1)))
  else
  (mk? (wrapA .i64 (t0 + 1)) (0 : Int)).bind fun L5 =>
  (ck L5 0).bind fun u11 =>
  (iter (F36_l1 F t0 t1) F (1, (L5.set ((Int.toNat 0)) 1))).bind fun b39 =>
  (at? b39 t0).bind fun x43 =>
  some ((x43, 0))

def F42_l0 (F : Nat) (t0 : List Int) (s1 : Int × Int) : Option (Stp (Int × Int) (Unit ⊕ Int)) :=
  if (decide (s1.2 < (t0.length : Int))) then
  ((at? t0 s1.2).bind fun x9 =>
  if ((decide (x9 < 1)) || (decide (x9 > 40))) then
  (some (.stop ((.inr 1))))
  else
  (if (decide (s1.2 > 0)) then 
  ((at? t0 (wrapA .i64 (s1.2 - 1))).bind fun x13 =>
  some (decide (x9 > x13)))
   else some false).bind fun y16 =>
  if y16 then
  (some (.stop ((.inr 3))))
  else
  if (decide ((wrapA .i64 (s1.1 + x9)) > 40)) then
  (some (.stop ((.inr 2))))
  else
  some (.more (((wrapA .i64 (s1.1 + x9)), (wrapA .i64 (s1.2 + 1))))))
  else
  some (.stop ((.inl ())))
def F42 (F : Nat) (t0 : List Int) : Option Int :=
  (iter (F42_l0 F t0) F (0, 0)).bind fun b20 =>
  match b20 with
  | .inl b22 => (some 0)
  | .inr b22 => (some b22)

def F37_l0 (F : Nat) (x16 : Int) (s18 : (List Int)) : Option (Stp ((List Int)) ((List Int))) :=
  if (decide ((s18.length : Int) < x16)) then
  ((app? s18 ([0])).bind fun L32 =>
  some (.more L32))
  else
  some (.stop s18)
def F37_l1 (F : Nat) (x16 : Int) (s43 : Int × (List Int)) : Option (Stp (Int × (List Int)) ((List Int))) :=
  if (decide (s43.1 < x16)) then
  ((at? s43.2 s43.1).bind fun x49 =>
  (ck s43.2 s43.1).bind fun u51 =>
  some (.more (((wrapA .i64 (s43.1 + 1)), (s43.2.set ((Int.toNat s43.1)) ((wrapA .i64 (x49 + 1))))))))
  else
  some (.stop s43.2)
def F37_l2 (F : Nat) (t0 : List Int) (s6 : (List Int) × Int) : Option (Stp ((List Int) × Int) ((List Int))) :=
  if (decide (s6.2 < (t0.length : Int))) then
  ((at? t0 s6.2).bind fun x16 =>
  (iter (F37_l0 F x16) F s6.1).bind fun b38 =>
  (iter (F37_l1 F x16) F (0, b38)).bind fun b55 =>
  some (.more ((b55, (wrapA .i64 (s6.2 + 1))))))
  else
  some (.stop s6.1)
def F37 (F : Nat) (t0 : List Int) : Option ((List Int) × Int) :=
  (F42 F t0).bind fun r1 =>
  if (r1 != 0) then
  (some (([], r1)))
  else
  (iter (F37_l2 F t0) F ([], 0)).bind fun b59 =>
  some ((b59, 0))

def F177 (F : Nat) (t0 : Int) : Option Int :=
  (show Option (Int × Int) from (if (decide (t0 ≥ 65536)) then
  ((shr? .u32 t0 16).bind fun x2 =>
  some ((x2, 16)))
  else
  some ((t0, 0)))).bind fun b4 =>
  if (decide (b4.1 ≥ 256)) then
  ((shr? .u32 b4.1 8).bind fun x10 =>
  (at? ([0, 1, 2, 2, 3, 3, 3, 3, 4, 4, 4, 4, 4, 4, 4, 4, 5, 5, 5, 5, 5, 5, 5, 5, 5, 5, 5, 5, 5, 5, 5, 5, 6, 6, 6, 6, 6, 6, 6, 6, 6, 6, 6, 6, 6, 6, 6, 6, 6, 6, 6, 6, 6, 6, 6, 6, 6, 6, 6, 6, 6, 6, 6, 6, 7, 7, 7, 7, 7, 7, 7, 7, 7, 7, 7, 7, 7, 7, 7, 7, 7, 7, 7, 7, 7, 7, 7, 7, 7, 7, 7, 7, 7, 7, 7, 7, 7, 7, 7, 7, 7, 7, 7, 7, 7, 7, 7, 7, 7, 7, 7, 7, 7, 7, 7, 7, 7, 7, 7, 7, 7, 7, 7, 7, 7, 7, 7, 7, 8, 8, 8, 8, 8, 8, 8, 8, 8, 8, 8, 8, 8, 8, 8, 8, 8, 8, 8, 8, 8, 8, 8, 8, 8, 8, 8, 8, 8, 8, 8, 8, 8, 8, 8, 8, 8, 8, 8, 8, 8, 8, 8, 8, 8, 8, 8, 8, 8, 8, 8, 8, 8, 8, 8, 8, 8, 8, 8, 8, 8, 8, 8, 8, 8, 8, 8, 8, 8, 8, 8, 8, 8, 8, 8, 8, 8, 8, 8, 8, 8, 8, 8, 8, 8, 8, 8, 8, 8, 8, 8, 8, 8, 8, 8, 8, 8, 8, 8, 8, 8, 8, 8, 8, 8, 8, 8, 8, 8, 8, 8, 8, 8, 8, 8, 8, 8, 8, 8, 8, 8, 8, 8, 8, 8, 8, 8, 8] : List UInt8) (wrapA .u8 x10)).bind fun x12 =>
  some ((wrapA .i64 ((wrapA .i64 (b4.2 + 8)) + (wrapA .i64 (x12.toNat : Int))))))
  else
  (at? ([0, 1, 2, 2, 3, 3, 3, 3, 4, 4, 4, 4, 4, 4, 4, 4, 5, 5, 5, 5, 5, 5, 5, 5, 5, 5, 5, 5, 5, 5, 5, 5, 6, 6, 6, 6, 6, 6, 6, 6, 6, 6, 6, 6, 6, 6, 6, 6, 6, 6, 6, 6, 6, 6, 6, 6, 6, 6, 6, 6, 6, 6, 6, 6, 7, 7, 7, 7, 7, 7, 7, 7, 7, 7, 7, 7, 7, 7, 7, 7, 7, 7, 7, 7, 7, 7, 7, 7, 7, 7, 7, 7, 7, 7, 7, 7, 7, 7, 7, 7, 7, 7, 7, 7, 7, 7, 7, 7, 7, 7, 7, 7, 7, 7, 7, 7, 7, 7, 7, 7, 7, 7, 7, 7, 7, 7, 7, 7, 8, 8, 8, 8, 8, 8, 8, 8, 8, 8, 8, 8, 8, 8, 8, 8, 8, 8, 8, 8, 8, 8, 8, 8, 8, 8, 8, 8, 8, 8, 8, 8, 8, 8, 8, 8, 8, 8, 8, 8, 8, 8, 8, 8, 8, 8, 8, 8, 8, 8, 8, 8, 8, 8, 8, 8, 8, 8, 8, 8, 8, 8, 8, 8, 8, 8, 8, 8, 8, 8, 8, 8, 8, 8, 8, 8, 8, 8, 8, 8, 8, 8, 8, 8, 8, 8, 8, 8, 8, 8, 8, 8, 8, 8, 8, 8, 8, 8, 8, 8, 8, 8, 8, 8, 8, 8, 8, 8, 8, 8, 8, 8, 8, 8, 8, 8, 8, 8, 8, 8, 8, 8, 8, 8, 8, 8, 8, 8] : List UInt8) (wrapA .u8 b4.1)).bind fun x14 =>
  some ((wrapA .i64 (b4.2 + (wrapA .i64 (x14.toNat : Int)))))

def F178 (F : Nat) (t0 : Int) : Option Int :=
  (show Option (Int × Int) from (if (decide (t0 ≥ 4294967296)) then
  ((shr? .u64 t0 32).bind fun x2 =>
  some ((x2, 32)))
  else
  some ((t0, 0)))).bind fun b4 =>
  (show Option (Int × Int) from (if (decide (b4.1 ≥ 65536)) then
  ((shr? .u64 b4.1 16).bind fun x10 =>
  some ((x10, (wrapA .i64 (b4.2 + 16)))))
  else
  some ((b4.1, b4.2)))).bind fun b12 =>
  if (decide (b12.1 ≥ 256)) then
  ((shr? .u64 b12.1 8).bind fun x18 =>
  (at? ([0, 1, 2, 2, 3, 3, 3, 3, 4, 4, 4, 4, 4, 4, 4, 4, 5, 5, 5, 5, 5, 5, 5, 5, 5, 5, 5, 5, 5, 5, 5, 5, 6, 6, 6, 6, 6, 6, 6, 6, 6, 6, 6, 6, 6, 6, 6, 6, 6, 6, 6, 6, 6, 6, 6, 6, 6, 6, 6, 6, 6, 6, 6, 6, 7, 7, 7, 7, 7, 7, 7, 7, 7, 7, 7, 7, 7, 7, 7, 7, 7, 7, 7, 7, 7, 7, 7, 7, 7, 7, 7, 7, 7, 7, 7, 7, 7, 7, 7, 7, 7, 7, 7, 7, 7, 7, 7, 7, 7, 7, 7, 7, 7, 7, 7, 7, 7, 7, 7, 7, 7, 7, 7, 7, 7, 7, 7, 7, 8, 8, 8, 8, 8, 8, 8, 8, 8, 8, 8, 8, 8, 8, 8, 8, 8, 8, 8, 8, 8, 8, 8, 8, 8, 8, 8, 8, 8, 8, 8, 8, 8, 8, 8, 8, 8, 8, 8, 8, 8, 8, 8, 8, 8, 8, 8, 8, 8, 8, 8, 8, 8, 8, 8, 8, 8, 8, 8, 8, 8, 8, 8, 8, 8, 8, 8, 8, 8, 8, 8, 8, 8, 8, 8, 8, 8, 8, 8, 8, 8, 8, 8, 8, 8, 8, 8, 8, 8, 8, 8, 8, 8, 8, 8, 8, 8, 8, 8, 8, 8, 8, 8, 8, 8, 8, 8, 8, 8, 8, 8, 8, 8, 8, 8, 8, 8, 8, 8, 8, 8, 8, 8, 8, 8, 8, 8, 8] : List UInt8) (wrapA .u8 x18)).bind fun x20 =>
  some ((wrapA .i64 ((wrapA .i64 (b12.2 + 8)) + (wrapA .i64 (x20.toNat : Int))))))
  else
  (at? ([0, 1, 2, 2, 3, 3, 3, 3, 4, 4, 4, 4, 4, 4, 4, 4, 5, 5, 5, 5, 5, 5, 5, 5, 5, 5, 5, 5, 5, 5, 5, 5, 6, 6, 6, 6, 6, 6, 6, 6, 6, 6, 6, 6, 6, 6, 6, 6, 6, 6, 6, 6, 6, 6, 6, 6, 6, 6, 6, 6, 6, 6, 6, 6, 7, 7, 7, 7, 7, 7, 7, 7, 7, 7, 7, 7, 7, 7, 7, 7, 7, 7, 7, 7, 7, 7, 7, 7, 7, 7, 7, 7, 7, 7, 7, 7, 7, 7, 7, 7, 7, 7, 7, 7, 7, 7, 7, 7, 7, 7, 7, 7, 7, 7, 7, 7, 7, 7, 7, 7, 7, 7, 7, 7, 7, 7, 7, 7, 8, 8, 8, 8, 8, 8, 8, 8, 8, 8, 8, 8, 8, 8, 8, 8, 8, 8, 8, 8, 8, 8, 8, 8, 8, 8, 8, 8, 8, 8, 8, 8, 8, 8, 8, 8, 8, 8, 8, 8, 8, 8, 8, 8, 8, 8, 8, 8, 8, 8, 8, 8, 8, 8, 8, 8, 8, 8, 8, 8, 8, 8, 8, 8, 8, 8, 8, 8, 8, 8, 8, 8, 8, 8, 8, 8, 8, 8, 8, 8, 8, 8, 8, 8, 8, 8, 8, 8, 8, 8, 8, 8, 8, 8, 8, 8, 8, 8, 8, 8, 8, 8, 8, 8, 8, 8, 8, 8, 8, 8, 8, 8, 8, 8, 8, 8, 8, 8, 8, 8, 8, 8, 8, 8, 8, 8, 8, 8] : List UInt8) (wrapA .u8 b12.1)).bind fun x22 =>
  some ((wrapA .i64 (b12.2 + (wrapA .i64 (x22.toNat : Int)))))

def F155 (F : Nat) (t0 : Int) : Option Int :=
  if false then
  ((F177 F ((wrapA .u32 t0))).bind fun r2 =>
  some r2)
  else
  (F178 F t0).bind fun r6 =>
  some r6

def F111 (F : Nat) (t0 : Int) (t1 : Int) : Option Int :=
  some ((wrapA .i64 (t1 - t0)))

def F169_111_l0 (F : Nat) (t1 : Int) (s7 : Int × (List Int)) : Option (Stp (Int × (List Int)) ((List Int))) :=
  (if (decide (s7.1 > t1)) then 
  ((at? s7.2 s7.1).bind fun x12 =>
  (at? s7.2 (wrapA .i64 (s7.1 - 1))).bind fun x14 =>
  (F111 F x12 x14).bind fun r16 =>
  some (decide (r16 < 0)))
   else some false).bind fun y21 =>
  if y21 then
  ((at? s7.2 (wrapA .i64 (s7.1 - 1))).bind fun x26 =>
  (at? s7.2 s7.1).bind fun x28 =>
  (ck s7.2 s7.1).bind fun u30 =>
  (ck ((s7.2.set ((Int.toNat s7.1)) x26)) (wrapA .i64 (s7.1 - 1))).bind fun u34 =>
  some (.more (((wrapA .i64 (s7.1 - 1)), (((s7.2.set ((Int.toNat s7.1)) x26)).set ((Int.toNat (wrapA .i64 (s7.1 - 1)))) x28)))))
  else
  some (.stop s7.2)
def F169_111_l1 (F : Nat) (t1 : Int) (t2 : Int) (s1 : Int × (List Int)) : Option (Stp (Int × (List Int)) ((List Int))) :=
  if (decide (s1.1 < t2)) then
  ((iter (F169_111_l0 F t1) F (s1.1, s1.2)).bind fun b38 =>
  some (.more (((wrapA .i64 (s1.1 + 1)), b38))))
  else
  some (.stop s1.2)
def F169_111 (F : Nat) (t0 : List Int) (t1 : Int) (t2 : Int) : Option ((List Int)) :=
  (iter (F169_111_l1 F t1 t2) F ((wrapA .i64 (t1 + 1)), t0)).bind fun b42 =>
  some b42

def F154_111_l0 (F : Nat)  (s1 : Int × Int × Int × Bool × Bool × (List Int)) : Option (Stp (Int × Int × Int × Bool × Bool × (List Int)) ((List Int))) :=
  if (decide ((wrapA .i64 (s1.2.1 - s1.1)) ≤ 12)) then
  ((F169_111 F s1.2.2.2.2.2 s1.1 s1.2.1).bind fun r7 =>
  some (.stop r7))
  else
  if (s1.2.2.1 == 0) then
  (none)
  else
  (show Option (Int × (List Int)) from (if (!s1.2.2.2.1) then
  (none)
  else
  some ((s1.2.2.1, s1.2.2.2.2.2)))).bind fun b13 =>
  none
def F154_111 (F : Nat) (t0 : List Int) (t1 : Int) (t2 : Int) (t3 : Int) : Option ((List Int)) :=
  (iter (F154_111_l0 F) F (t1, t2, t3, true, true, t0)).bind fun b18 =>
  some b18

def F110_111 (F : Nat) (t0 : List Int) : Option ((List Int)) :=
  (F155 F ((wrapA .u64 (t0.length : Int)))).bind fun r1 =>
  (F154_111 F t0 0 ((t0.length : Int)) r1).bind fun r5 =>
  some r5

def F38_l0 (F : Nat)  (s27 : Int × Int) : Option (Stp (Int × Int) (Int × Int)) :=
  if ((Int.tmod s27.1 2) == 0) then
  (some (.more (((wrapA .i64 (Int.tdiv s27.1 2)), (wrapA .i64 (2 * s27.2))))))
  else
  some (.stop ((s27.1, s27.2)))
def F38_l1 (F : Nat) (b33 : Int × Int) (s37 : (List Int) × Int) : Option (Stp ((List Int) × Int) ((List Int))) :=
  if (decide (s37.2 < b33.2)) then
  ((app? s37.1 ([b33.1])).bind fun L51 =>
  some (.more ((L51, (wrapA .i64 (s37.2 + 1))))))
  else
  some (.stop s37.1)
def F38_l2 (F : Nat) (t0 : List Int) (s6 : (List Int) × Int) : Option (Stp ((List Int) × Int) ((List Int) ⊕ ((List Int) × Int))) :=
  if (decide (s6.2 < (t0.length : Int))) then
  ((at? t0 s6.2).bind fun x19 =>
  (if (decide (s6.2 > 0)) then 
  ((at? t0 (wrapA .i64 (s6.2 - 1))).bind fun x21 =>
  some (x19 == x21))
   else some false).bind fun y24 =>
  if y24 then
  (some (.stop ((.inr ([], 3)))))
  else
  (iter (F38_l0 F) F (x19, 1)).bind fun b33 =>
  (iter (F38_l1 F b33) F (s6.1, 0)).bind fun b57 =>
  some (.more ((b57, (wrapA .i64 (s6.2 + 1))))))
  else
  some (.stop ((.inl s6.1)))
def F38 (F : Nat) (t0 : List Int) : Option ((List Int) × Int) :=
  (F42 F t0).bind fun r1 =>
  if (r1 != 0) then
  (some (([], r1)))
  else
  (iter (F38_l2 F t0) F ([], 0)).bind fun b62 =>
  match b62 with
  | .inl b64 => ((F110_111 F b64).bind fun r68 =>
  some ((r68, 0)))
  | .inr b64 => (some ((b64.1, b64.2)))

def F160 (F : Nat) (t0 : (List (List UInt8))) : Option ((List (List UInt8))) := if t0.length ≤ 549755813888 then some t0 else none

def F61_l0 (F : Nat) (L1 : List Int) (s7 : Int × Int) : Option (Stp (Int × Int) (Int)) :=
  if (decide (s7.2 < (L1.length : Int))) then
  ((at? L1 s7.2).bind fun x13 =>
  some (.more (((wrapA .u32 ((bit .xor .u32 s7.1 (wrapA .u32 x13)) * 16777619)), (wrapA .i64 (s7.2 + 1))))))
  else
  some (.stop s7.1)
def F61 (F : Nat) (t0 : List UInt8) : Option Int :=
  (bytes? t0).bind fun L1 =>
  (iter (F61_l0 F L1) F (2166136261, 0)).bind fun b15 =>
  (shr? .u32 b15 15).bind fun x19 =>
  (shr? .u32 (wrapA .u32 ((bit .xor .u32 b15 x19) * 2246822519)) 13).bind fun x21 =>
  some ((bit .xor .u32 (wrapA .u32 ((bit .xor .u32 b15 x19) * 2246822519)) x21))

def F132 (F : Nat) (t0 : List UInt8) (t1 : List UInt8) : Option Int :=
  (F61 F t0).bind fun r1 =>
  (F61 F t1).bind fun r5 =>
  if ((decide (r1 < r5)) || ((r1 == r5) && (bytesLt t0 t1))) then
  (some ((-1)))
  else
  if (t0 == t1) then
  (some 0)
  else
  some 1

def F208_132_l0 (F : Nat) (t1 : Int) (s7 : Int × (List (List UInt8))) : Option (Stp (Int × (List (List UInt8))) ((List (List UInt8)))) :=
  (if (decide (s7.1 > t1)) then 
  ((at? s7.2 s7.1).bind fun x12 =>
  (at? s7.2 (wrapA .i64 (s7.1 - 1))).bind fun x14 =>
  (F132 F x12 x14).bind fun r16 =>
  some (decide (r16 < 0)))
   else some false).bind fun y21 =>
  if y21 then
  ((at? s7.2 (wrapA .i64 (s7.1 - 1))).bind fun x26 =>
  (at? s7.2 s7.1).bind fun x28 =>
  (ck s7.2 s7.1).bind fun u30 =>
  (ck ((s7.2.set ((Int.toNat s7.1)) x26)) (wrapA .i64 (s7.1 - 1))).bind fun u34 =>
  some (.more (((wrapA .i64 (s7.1 - 1)), (((s7.2.set ((Int.toNat s7.1)) x26)).set ((Int.toNat (wrapA .i64 (s7.1 - 1)))) x28)))))
  else
  some (.stop s7.2)
def F208_132_l1 (F : Nat) (t1 : Int) (t2 : Int) (s1 : Int × (List (List UInt8))) : Option (Stp (Int × (List (List UInt8))) ((List (List UInt8)))) :=
  if (decide (s1.1 < t2)) then
  ((iter (F208_132_l0 F t1) F (s1.1, s1.2)).bind fun b38 =>
  some (.more (((wrapA .i64 (s1.1 + 1)), b38))))
  else
  some (.stop s1.2)
def F208_132 (F : Nat) (t0 : List (List UInt8)) (t1 : Int) (t2 : Int) : Option ((List (List UInt8))) :=
  (iter (F208_132_l1 F t1 t2) F ((wrapA .i64 (t1 + 1)), t0)).bind fun b42 =>
  some b42

def F195_132_l0 (F : Nat)  (s1 : Int × Int × Int × Bool × Bool × (List (List UInt8))) : Option (Stp (Int × Int × Int × Bool × Bool × (List (List UInt8))) ((List (List UInt8)))) :=
  if (decide ((wrapA .i64 (s1.2.1 - s1.1)) ≤ 12)) then
  ((F208_132 F s1.2.2.2.2.2 s1.1 s1.2.1).bind fun r7 =>
  some (.stop r7))
  else
  if (s1.2.2.1 == 0) then
  (none)
  else
  (show Option (Int × (List (List UInt8))) from (if (!s1.2.2.2.1) then
  (none)
  else
  some ((s1.2.2.1, s1.2.2.2.2.2)))).bind fun b13 =>
  none
def F195_132 (F : Nat) (t0 : List (List UInt8)) (t1 : Int) (t2 : Int) (t3 : Int) : Option ((List (List UInt8))) :=
  (iter (F195_132_l0 F) F (t1, t2, t3, true, true, t0)).bind fun b18 =>
  some b18

def F161_132 (F : Nat) (t0 : List (List UInt8)) : Option ((List (List UInt8))) :=
  (F155 F ((wrapA .u64 (t0.length : Int)))).bind fun r1 =>
  (F195_132 F t0 0 ((t0.length : Int)) r1).bind fun r5 =>
  some r5

def F135 (F : Nat) (t0 : Int) (t1 : Int) : Option Int :=
  (rem? t0 t1).bind fun x1 =>
  if (decide (x1 < 0)) then
  (some ((wrapA .i64 (x1 + t1))))
  else
  some x1

def F71 (F : Nat) (t0 : Int) (t1 : Int) : Option Int :=
  (F135 F t0 t1).bind fun r1 =>
  some r1

def F136_l0 (F : Nat) (t0 : Int) (s1 : Int × Int) : Option (Stp (Int × Int) (Int)) :=
  if (decide (s1.2 ≤ t0)) then
  (some (.more (((wrapA .i64 (s1.1 * s1.2)), (wrapA .i64 (s1.2 + 1))))))
  else
  some (.stop s1.1)
def F136 (F : Nat) (t0 : Int) : Option Int :=
  (iter (F136_l0 F t0) F (1, 2)).bind fun b7 =>
  some b7

def F72 (F : Nat) (t0 : Int) : Option (Int × Int) :=
  if ((decide (t0 < 0)) || (decide (t0 > 10))) then
  (some ((0, 1)))
  else
  (F136 F t0).bind fun r3 =>
  some ((r3, 0))

def F159 (F : Nat) (t0 : Int) (t1 : Int) : Option Int :=
  some ((wrapA .i64 (t1 - t0)))

def F169_159_l0 (F : Nat) (t1 : Int) (s7 : Int × (List Int)) : Option (Stp (Int × (List Int)) ((List Int))) :=
  (if (decide (s7.1 > t1)) then 
  ((at? s7.2 s7.1).bind fun x12 =>
  (at? s7.2 (wrapA .i64 (s7.1 - 1))).bind fun x14 =>
  (F159 F x12 x14).bind fun r16 =>
  some (decide (r16 < 0)))
   else some false).bind fun y21 =>
  if y21 then
  ((at? s7.2 (wrapA .i64 (s7.1 - 1))).bind fun x26 =>
  (at? s7.2 s7.1).bind fun x28 =>
  (ck s7.2 s7.1).bind fun u30 =>
  (ck ((s7.2.set ((Int.toNat s7.1)) x26)) (wrapA .i64 (s7.1 - 1))).bind fun u34 =>
  some (.more (((wrapA .i64 (s7.1 - 1)), (((s7.2.set ((Int.toNat s7.1)) x26)).set ((Int.toNat (wrapA .i64 (s7.1 - 1)))) x28)))))
  else
  some (.stop s7.2)
def F169_159_l1 (F : Nat) (t1 : Int) (t2 : Int) (s1 : Int × (List Int)) : Option (Stp (Int × (List Int)) ((List Int))) :=
  if (decide (s1.1 < t2)) then
  ((iter (F169_159_l0 F t1) F (s1.1, s1.2)).bind fun b38 =>
  some (.more (((wrapA .i64 (s1.1 + 1)), b38))))
  else
  some (.stop s1.2)
def F169_159 (F : Nat) (t0 : List Int) (t1 : Int) (t2 : Int) : Option ((List Int)) :=
  (iter (F169_159_l1 F t1 t2) F ((wrapA .i64 (t1 + 1)), t0)).bind fun b42 =>
  some b42

def F154_159_l0 (F : Nat)  (s1 : Int × Int × Int × Bool × Bool × (List Int)) : Option (Stp (Int × Int × Int × Bool × Bool × (List Int)) ((List Int))) :=
  if (decide ((wrapA .i64 (s1.2.1 - s1.1)) ≤ 12)) then
  ((F169_159 F s1.2.2.2.2.2 s1.1 s1.2.1).bind fun r7 =>
  some (.stop r7))
  else
  if (s1.2.2.1 == 0) then
  (none)
  else
  (show Option (Int × (List Int)) from (if (!s1.2.2.2.1) then
  (none)
  else
  some ((s1.2.2.1, s1.2.2.2.2.2)))).bind fun b13 =>
  none
def F154_159 (F : Nat) (t0 : List Int) (t1 : Int) (t2 : Int) (t3 : Int) : Option ((List Int)) :=
  (iter (F154_159_l0 F) F (t1, t2, t3, true, true, t0)).bind fun b18 =>
  some b18

def F110_159 (F : Nat) (t0 : List Int) : Option ((List Int)) :=
  (F155 F ((wrapA .u64 (t0.length : Int)))).bind fun r1 =>
  (F154_159 F t0 0 ((t0.length : Int)) r1).bind fun r5 =>
  some r5

def F122_l0 (F : Nat) (t0 : List Int) (s20 : Int × Int × (List Bool)) : Option (Stp (Int × Int × (List Bool)) (Int × (List Bool))) :=
  (at? s20.2.2 s20.2.1).bind fun x25 =>
  if (!x25) then
  ((ck s20.2.2 s20.2.1).bind fun u28 =>
  (at? t0 s20.2.1).bind fun x32 =>
  some (.more (((wrapA .i64 (s20.1 + 1)), x32, (s20.2.2.set ((Int.toNat s20.2.1)) true)))))
  else
  some (.stop ((s20.1, s20.2.2)))
def F122_l1 (F : Nat) (t0 : List Int) (s10 : (List Int) × Int × (List Bool)) : Option (Stp ((List Int) × Int × (List Bool)) ((List Int))) :=
  if (decide (s10.2.1 < (t0.length : Int))) then
  ((iter (F122_l0 F t0) F (0, s10.2.1, s10.2.2)).bind fun b34 =>
  if (decide (b34.1 > 0)) then
  ((app? s10.1 ([b34.1])).bind fun L43 =>
  some (.more ((L43, (wrapA .i64 (s10.2.1 + 1)), b34.2))))
  else
  some (.more ((s10.1, (wrapA .i64 (s10.2.1 + 1)), b34.2))))
  else
  some (.stop s10.1)
def F122 (F : Nat) (t0 : List Int) : Option ((List Int) × Int) :=
  (F101 F t0).bind fun r1 =>
  if (r1 != 0) then
  (some (([], r1)))
  else
  (iter (F122_l1 F t0) F ([], 0, (List.replicate 10 false))).bind fun b49 =>
  (F110_159 F b49).bind fun r54 =>
  some ((r54, 0))

def F137_l0 (F : Nat)  (s16 : Int × Int) : Option (Stp (Int × Int) (Int)) :=
  if (decide (s16.2 > 0)) then
  ((rem? s16.1 s16.2).bind fun x22 =>
  some (.more ((s16.2, x22))))
  else
  some (.stop s16.1)
def F137_l1 (F : Nat) (r1 : (List Int) × Int) (s8 : Int × Int) : Option (Stp (Int × Int) (Int)) :=
  if (decide (s8.2 < (r1.1.length : Int))) then
  ((at? r1.1 s8.2).bind fun x14 =>
  (iter (F137_l0 F) F (s8.1, x14)).bind fun b24 =>
  (quo? .i64 s8.1 b24).bind fun x28 =>
  some (.more (((wrapA .i64 (x28 * x14)), (wrapA .i64 (s8.2 + 1))))))
  else
  some (.stop s8.1)
def F137 (F : Nat) (t0 : List Int) : Option (Int × Int) :=
  (F122 F t0).bind fun r1 =>
  if (r1.2 != 0) then
  (some ((0, r1.2)))
  else
  (iter (F137_l1 F r1) F (1, 0)).bind fun b30 =>
  some ((b30, 0))

def F196 (F : Nat) (t0 : Int × Int) : Option Int :=
  if ((((decide (((t0.1, t0.2)).2 < 1)) || (decide (((t0.1, t0.2)).2 > 1000000000))) || (decide (((t0.1, t0.2)).1 < (-1000000000)))) || (decide (((t0.1, t0.2)).1 > 1000000000))) then
  (some 1)
  else
  (F166 F (((t0.1, t0.2)).1) (((t0.1, t0.2)).2)).bind fun r9 =>
  if (r9 != 1) then
  (some 3)
  else
  some 0

def F163 (F : Nat) (t0 : Int × Int) (t1 : Int × Int) : Option Int :=
  (F196 F ((((t0.1, t0.2)).1, ((t0.1, t0.2)).2))).bind fun r9 =>
  if (r9 != 0) then
  (some r9)
  else
  (F196 F ((((t1.1, t1.2)).1, ((t1.1, t1.2)).2))).bind fun r14 =>
  some r14

def F138 (F : Nat) (t0 : Int × Int) (t1 : Int × Int) : Option ((Int × Int) × Int) :=
  (F163 F ((((t0.1, t0.2)).1, ((t0.1, t0.2)).2)) ((((t1.1, t1.2)).1, ((t1.1, t1.2)).2))).bind fun r13 =>
  if (r13 != 0) then
  (some (((((0, 0)).1, ((0, 0)).2), r13)))
  else
  (F149 F ((wrapA .i64 ((wrapA .i64 (((t0.1, t0.2)).1 * ((t1.1, t1.2)).2)) + (wrapA .i64 (((t1.1, t1.2)).1 * ((t0.1, t0.2)).2))))) ((wrapA .i64 (((t0.1, t0.2)).2 * ((t1.1, t1.2)).2)))).bind fun r20 =>
  some (((((r20.1.1, r20.1.2)).1, ((r20.1.1, r20.1.2)).2), r20.2))

def F73 (F : Nat)  : Option Bool :=
  (F137 F ([1, 2, 0])).bind fun r5 =>
  (F138 F ((1, 2)) ((1, 3))).bind fun r9 =>
  some (((((r5.2 == 0) && (r9.2 == 0)) && (r5.1 == 3)) && (((r9.1.1, r9.1.2)).1 == 5 && (((r9.1.1, r9.1.2)).2 == 6 && true))))

def F74_l0 (F : Nat) (s15 : Int × (List Int)) (s21 : Int × (List Int)) : Option (Stp (Int × (List Int)) ((List Int))) :=
  if (decide (s21.1 > 0)) then
  ((at? s21.2 s21.1).bind fun x27 =>
  (at? s21.2 (wrapA .i64 (s21.1 - 1))).bind fun x29 =>
  (ck s21.2 s21.1).bind fun u31 =>
  some (.more (((wrapA .i64 (s21.1 - 1)), (s21.2.set ((Int.toNat s21.1)) ((wrapA .i64 ((wrapA .i64 ((wrapA .i64 (s21.1 + 1)) * x27)) + (wrapA .i64 ((wrapA .i64 (s15.1 - s21.1)) * x29))))))))))
  else
  some (.stop s21.2)
def F74_l1 (F : Nat) (t0 : Int) (s15 : Int × (List Int)) : Option (Stp (Int × (List Int)) ((List Int))) :=
  if (decide (s15.1 ≤ t0)) then
  ((iter (F74_l0 F s15) F ((minI (wrapA .i64 (s15.1 - 1)) 15), s15.2)).bind fun b35 =>
  some (.more (((wrapA .i64 (s15.1 + 1)), b35))))
  else
  some (.stop s15.2)
def F74 (F : Nat) (t0 : Int) (t1 : Int) : Option (Int × Int) :=
  if ((((decide (t0 < 0)) || (decide (t0 > 15))) || (decide (t1 < 0))) || (decide (t1 > 15))) then
  (some ((0, 1)))
  else
  (mk? 16 (0 : Int)).bind fun L5 =>
  (ck L5 0).bind fun u11 =>
  (iter (F74_l1 F t0) F (2, (L5.set ((Int.toNat 0)) 1))).bind fun b39 =>
  (at? b39 t1).bind fun x43 =>
  some ((x43, 0))

def F139_l0 (F : Nat) (t0 : Int) (s3 : Int × Int × Int) : Option (Stp (Int × Int × Int) (Int × Int)) :=
  if (decide (s3.2.2 ≤ t0)) then
  (some (.more ((s3.2.1, (wrapA .i64 ((wrapA .i64 (s3.2.2 - 1)) * (wrapA .i64 (s3.1 + s3.2.1)))), (wrapA .i64 (s3.2.2 + 1))))))
  else
  some (.stop ((s3.1, s3.2.1)))
def F139 (F : Nat) (t0 : Int) : Option (Int × Int) :=
  if ((decide (t0 < 0)) || (decide (t0 > 15))) then
  (some ((0, 1)))
  else
  (iter (F139_l0 F t0) F (1, 0, 2)).bind fun b9 =>
  if (t0 == 0) then
  (some ((b9.1, 0)))
  else
  some ((b9.2, 0))

def F75_l0 (F : Nat) (t0 : Int) (t1 : Int) (s10 : Int × Int) : Option (Stp (Int × Int) (Int)) :=
  if (decide (s10.2 < t1)) then
  ((quo? .i64 (wrapA .i64 (s10.1 * (wrapA .i64 (t0 - s10.2)))) (wrapA .i64 (s10.2 + 1))).bind fun x16 =>
  some (.more ((x16, (wrapA .i64 (s10.2 + 1))))))
  else
  some (.stop s10.1)
def F75 (F : Nat) (t0 : Int) (t1 : Int) : Option (Int × Int) :=
  if ((((decide (t0 < 0)) || (decide (t0 > 15))) || (decide (t1 < 0))) || (decide (t1 > 15))) then
  (some ((0, 1)))
  else
  if (decide (t1 > t0)) then
  (some ((0, 0)))
  else
  (F139 F ((wrapA .i64 (t0 - t1)))).bind fun r6 =>
  (iter (F75_l0 F t0 t1) F (r6.1, 0)).bind fun b18 =>
  some ((b18, 0))

def F141 (F : Nat) (t0 : Int) : Option Bool :=
  some ((t0 != 0))

def F164_141_l0 (F : Nat) (t0 : List Int) (s1 : Int) : Option (Stp (Int) (Unit ⊕ Int)) :=
  if (decide (s1 < (t0.length : Int))) then
  ((at? t0 s1).bind fun x9 =>
  (F141 F x9).bind fun r11 =>
  if r11 then
  (some (.stop ((.inr s1))))
  else
  some (.more ((wrapA .i64 (s1 + 1)))))
  else
  some (.stop ((.inl ())))
def F164_141 (F : Nat) (t0 : List Int) : Option Int :=
  (iter (F164_141_l0 F t0) F 0).bind fun b16 =>
  match b16 with
  | .inl b18 => (some ((-1)))
  | .inr b18 => (some b18)

def F140_141 (F : Nat) (t0 : List Int) : Option Bool :=
  (F164_141 F t0).bind fun r1 =>
  some ((decide (r1 ≥ 0)))

def F76 (F : Nat) (t0 : List Int) : Option Bool :=
  (F140_141 F t0).bind fun r1 =>
  some ((!r1))

def F78_l0 (F : Nat) (t0 : List Int) (s1 : Int × Int) : Option (Stp (Int × Int) (Int ⊕ (Int × Int))) :=
  if (decide (s1.2 < (t0.length : Int))) then
  ((at? t0 s1.2).bind fun x9 =>
  if ((decide (x9 < 1)) || (decide (x9 > 12))) then
  (some (.stop ((.inr (0, 1)))))
  else
  (if (decide (s1.2 > 0)) then 
  ((at? t0 (wrapA .i64 (s1.2 - 1))).bind fun x13 =>
  some (decide (x9 > x13)))
   else some false).bind fun y16 =>
  if y16 then
  (some (.stop ((.inr (0, 3)))))
  else
  if (decide ((wrapA .i64 (s1.1 + x9)) > 12)) then
  (some (.stop ((.inr (0, 2)))))
  else
  some (.more (((wrapA .i64 (s1.1 + x9)), (wrapA .i64 (s1.2 + 1))))))
  else
  some (.stop ((.inl s1.1)))
def F78_l1 (F : Nat) (b22 : Int) (s25 : Int × Int) : Option (Stp (Int × Int) (Int)) :=
  if (decide (s25.2 ≤ b22)) then
  (some (.more (((wrapA .i64 (s25.1 * s25.2)), (wrapA .i64 (s25.2 + 1))))))
  else
  some (.stop s25.1)
def F78_l2 (F : Nat) (s43 : Int × Int) (L49 : List Int) (s53 : Int × Int) : Option (Stp (Int × Int) (Int)) :=
  if (decide (s53.2 < (L49.length : Int))) then
  ((at? L49 s53.2).bind fun x59 =>
  if (decide (x59 > s43.2)) then
  (some (.more (((wrapA .i64 (s53.1 + 1)), (wrapA .i64 (s53.2 + 1))))))
  else
  some (.more ((s53.1, (wrapA .i64 (s53.2 + 1))))))
  else
  some (.stop s53.1)
def F78_l3 (F : Nat) (t0 : List Int) (s35 : Int × Int) (x41 : Int) (s43 : Int × Int) : Option (Stp (Int × Int) (Int)) :=
  if (decide (s43.2 < x41)) then
  ((sub? t0 (wrapA .i64 (s35.2 + 1)) t0.length).bind fun L49 =>
  (iter (F78_l2 F s43 L49) F ((wrapA .i64 (x41 - s43.2)), 0)).bind fun b62 =>
  (quo? .i64 s43.1 b62).bind fun x66 =>
  some (.more ((x66, (wrapA .i64 (s43.2 + 1))))))
  else
  some (.stop s43.1)
def F78_l4 (F : Nat) (t0 : List Int) (s35 : Int × Int) : Option (Stp (Int × Int) (Int)) :=
  if (decide (s35.2 < (t0.length : Int))) then
  ((at? t0 s35.2).bind fun x41 =>
  (iter (F78_l3 F t0 s35 x41) F (s35.1, 0)).bind fun b68 =>
  some (.more ((b68, (wrapA .i64 (s35.2 + 1))))))
  else
  some (.stop s35.1)
def F78 (F : Nat) (t0 : List Int) : Option (Int × Int) :=
  (iter (F78_l0 F t0) F (0, 0)).bind fun b20 =>
  match b20 with
  | .inl b22 => ((iter (F78_l1 F b22) F (1, 2)).bind fun b31 =>
  (iter (F78_l4 F t0) F (b31, 0)).bind fun b72 =>
  some ((b72, 0)))
  | .inr b22 => (some ((b22.1, b22.2)))

def F77_l0 (F : Nat) (t0 : Int) (t1 : Int) (t2 : List Int) (frec : Int → Int → (List Int) → Bool → Int → Option (Bool × Int)) (s16 : Int × Bool × Int) : Option (Stp (Int × Bool × Int) (Bool × Int)) :=
  if (decide (s16.1 ≤ (minI t0 t1))) then
  ((F45 F t2).bind fun r26 =>
  (app? r26 ([s16.1])).bind fun L50 =>
  (frec ((wrapA .i64 (t0 - s16.1))) s16.1 L50 s16.2.1 s16.2.2).bind fun r63 =>
  some (.more (((wrapA .i64 (s16.1 + 1)), r63.1, r63.2))))
  else
  some (.stop ((s16.2.1, s16.2.2)))
def F77 : Nat → Int → Int → (List Int) → Bool → Int → Option (Bool × Int)
  | 0, _, _, _, _, _ => none
  | F + 1, t0, t1, t2, c0, c1 =>
  let frec := F77 F
  (show Option (Bool × Int) from (if (t0 == 0) then
  ((F78 F t2).bind fun r2 =>
  some (((c0 && (r2.2 == 0)), (wrapA .i64 (c1 + (wrapA .i64 (r2.1 * r2.1)))))))
  else
  some ((c0, c1)))).bind fun b11 =>
  (iter (F77_l0 F t0 t1 t2 frec) F (1, b11.1, b11.2)).bind fun b96 =>
  some ((b96.1, b96.2))

def F9_l0 (F : Nat) (r1 : Int) (s21 : Int × Int × Int) : Option (Stp (Int × Int × Int) ((Int × Int) ⊕ Bool)) :=
  if (decide (s21.2.2 < (wrapA .i64 (r1 + 1)))) then
  ((F74 F r1 s21.2.2).bind fun r29 =>
  (F75 F r1 s21.2.2).bind fun r33 =>
  (F76 F ([r29.2, r33.2])).bind fun r41 =>
  if (!r41) then
  (some (.stop ((.inr false))))
  else
  some (.more (((wrapA .i64 (s21.1 + r29.1)), (wrapA .i64 (s21.2.1 + r33.1)), (wrapA .i64 (s21.2.2 + 1))))))
  else
  some (.stop ((.inl (s21.1, s21.2.1))))
def F9 (F : Nat) (t0 : Int) : Option Bool :=
  (F71 F t0 11).bind fun r1 =>
  (F72 F r1).bind fun r5 =>
  (F73 F).bind fun r9 =>
  if ((!r9) || (r5.2 != 0)) then
  (some false)
  else
  (iter (F9_l0 F r1) F (0, 0, 0)).bind fun b46 =>
  match b46 with
  | .inl b48 => ((F77 F r1 r1 ([]) true 0).bind fun r65 =>
  some ((((r65.1 && (b48.1 == r5.1)) && (b48.2 == r5.1)) && (r65.2 == r5.1))))
  | .inr b48 => (some b48)

def F142_l0 (F : Nat) (s11 : (List Int) × Int) (s27 : Int × (List Int)) : Option (Stp (Int × (List Int)) ((List Int))) :=
  if (decide (s27.1 < (s11.1.length : Int))) then
  ((at? s11.1 s27.1).bind fun x33 =>
  (show Option ((List Int)) from (if (decide (s27.1 > 0)) then
  ((at? s27.2 (wrapA .i64 (s27.1 - 1))).bind fun x36 =>
  (ck s27.2 (wrapA .i64 (s27.1 - 1))).bind fun u38 =>
  some ((s27.2.set ((Int.toNat (wrapA .i64 (s27.1 - 1)))) ((wrapA .i64 (x36 + x33))))))
  else
  some s27.2)).bind fun b42 =>
  if (decide ((wrapA .i64 (s27.1 + 1)) < (b42.length : Int))) then
  ((at? b42 (wrapA .i64 (s27.1 + 1))).bind fun x48 =>
  (ck b42 (wrapA .i64 (s27.1 + 1))).bind fun u50 =>
  some (.more (((wrapA .i64 (s27.1 + 1)), (b42.set ((Int.toNat (wrapA .i64 (s27.1 + 1)))) ((wrapA .i64 (x48 + x33))))))))
  else
  some (.more (((wrapA .i64 (s27.1 + 1)), b42))))
  else
  some (.stop s27.2)
def F142_l1 (F : Nat) (t1 : Int) (s11 : (List Int) × Int) : Option (Stp ((List Int) × Int) ((List Int))) :=
  if (decide (s11.2 < t1)) then
  ((mk? (wrapA .i64 (t1 + 2)) (0 : Int)).bind fun L21 =>
  (iter (F142_l0 F s11) F (0, L21)).bind fun b54 =>
  some (.more ((b54, (wrapA .i64 (s11.2 + 1))))))
  else
  some (.stop s11.1)
def F142 (F : Nat) (t0 : Int) (t1 : Int) : Option Int :=
  (mk? (wrapA .i64 (t1 + 2)) (0 : Int)).bind fun L1 =>
  (ck L1 0).bind fun u7 =>
  (iter (F142_l1 F t1) F ((L1.set ((Int.toNat 0)) 1), 0)).bind fun b58 =>
  if (decide (t0 ≥ (b58.length : Int))) then
  (some 0)
  else
  (at? b58 t0).bind fun x64 =>
  some x64

def F79 (F : Nat) (t0 : Int) : Option (Int × Int) :=
  if ((decide (t0 < 0)) || (decide (t0 > 15))) then
  (some ((0, 1)))
  else
  (F142 F 0 ((wrapA .i64 (2 * t0)))).bind fun r3 =>
  some ((r3, 0))

def F117 (F : Nat) (t0 : (List Int)) (t1 : Int) (t2 : Int) : Option ((List Int)) := if 0 ≤ t1 then del? t0 t1 t2 else none

def F80_l0 (F : Nat) (L8 : List Int) (s14 : Int × (List Int)) : Option (Stp (Int × (List Int)) ((List Int))) :=
  if (decide (s14.1 < (L8.length : Int))) then
  ((ck s14.2 s14.1).bind fun u20 =>
  some (.more (((wrapA .i64 (s14.1 + 1)), (s14.2.set ((Int.toNat s14.1)) s14.1)))))
  else
  some (.stop s14.2)
def F80_l1 (F : Nat)  (s34 : Int × (List Int) × (List Int) × Int) : Option (Stp (Int × (List Int) × (List Int) × Int) ((List Int))) :=
  if (decide (s34.2.2.2 ≥ 0)) then
  ((F136 F s34.2.2.2).bind fun r47 =>
  (quo? .i64 s34.1 r47).bind fun x51 =>
  (at? s34.2.1 x51).bind fun x53 =>
  (app? s34.2.2.1 ([x53])).bind fun L59 =>
  (quo? .i64 s34.1 r47).bind fun x65 =>
  (quo? .i64 s34.1 r47).bind fun x67 =>
  (F117 F s34.2.1 x65 ((wrapA .i64 (x67 + 1)))).bind fun r69 =>
  (rem? s34.1 r47).bind fun x75 =>
  some (.more ((x75, r69, L59, (wrapA .i64 (s34.2.2.2 - 1))))))
  else
  some (.stop s34.2.2.1)
def F80 (F : Nat) (t0 : Int) (t1 : Int) : Option ((List Int) × Int) :=
  (F72 F t0).bind fun r1 =>
  if (((r1.2 != 0) || (decide (t1 < 0))) || (decide (t1 ≥ r1.1))) then
  (some (([], 1)))
  else
  (mk? t0 (0 : Int)).bind fun L8 =>
  (iter (F80_l0 F L8) F (0, L8)).bind fun b24 =>
  (mkC? 0 t0 (0 : Int)).bind fun L28 =>
  (iter (F80_l1 F) F (t1, b24, L28, (wrapA .i64 (t0 - 1)))).bind fun b77 =>
  some ((b77, 0))

def F143 (F : Nat) (t0 : List Int) : Option Int :=
  if (decide ((t0.length : Int) > 30)) then
  (some 2)
  else
  some 0

def F145 (F : Nat) (t0 : Int) (t1 : Int) : Option Bool :=
  some ((decide (t0 ≥ t1)))

def F144_145_l0 (F : Nat) (s7 : (List Int) × Int × (List (List Int))) (x17 : Int) (L19 : List Int) (s23 : Int × (List (List Int))) : Option (Stp (Int × (List (List Int))) ((List (List Int)))) :=
  if (decide (s23.1 < (L19.length : Int))) then
  ((at? L19 s23.1).bind fun x29 =>
  (F145 F x29 x17).bind fun r31 =>
  (if r31 then 
  ((at? s23.2 s23.1).bind fun L35 =>
  (at? s23.2 s7.2.1).bind fun L39 =>
  some (decide ((L35.length : Int) > (L39.length : Int))))
   else some false).bind fun y44 =>
  if y44 then
  ((at? s23.2 s23.1).bind fun L47 =>
  (ck s23.2 s7.2.1).bind fun u51 =>
  some (.more (((wrapA .i64 (s23.1 + 1)), (s23.2.set ((Int.toNat s7.2.1)) L47)))))
  else
  some (.more (((wrapA .i64 (s23.1 + 1)), s23.2))))
  else
  some (.stop s23.2)
def F144_145_l1 (F : Nat) (t0 : List Int) (s7 : (List Int) × Int × (List (List Int))) : Option (Stp ((List Int) × Int × (List (List Int))) ((List Int))) :=
  if (decide (s7.2.1 < (t0.length : Int))) then
  ((at? t0 s7.2.1).bind fun x17 =>
  (sub? t0 0 s7.2.1).bind fun L19 =>
  (iter (F144_145_l0 F s7 x17 L19) F (0, s7.2.2)).bind fun b55 =>
  (at? b55 s7.2.1).bind fun L59 =>
  (F45 F L59).bind fun r63 =>
  (app? r63 ([s7.2.1])).bind fun L73 =>
  (ck b55 s7.2.1).bind fun u79 =>
  (at? ((b55.set ((Int.toNat s7.2.1)) L73)) s7.2.1).bind fun L83 =>
  if (decide ((L83.length : Int) > (s7.1.length : Int))) then
  ((at? ((b55.set ((Int.toNat s7.2.1)) L73)) s7.2.1).bind fun L88 =>
  some (.more ((L88, (wrapA .i64 (s7.2.1 + 1)), (b55.set ((Int.toNat s7.2.1)) L73)))))
  else
  some (.more ((s7.1, (wrapA .i64 (s7.2.1 + 1)), (b55.set ((Int.toNat s7.2.1)) L73)))))
  else
  some (.stop s7.1)
def F144_145 (F : Nat) (t0 : List Int) : Option ((List Int)) :=
  (mk? (t0.length : Int) ([] : List Int)).bind fun L1 =>
  (iter (F144_145_l1 F t0) F ([], 0, L1)).bind fun b92 =>
  (F45 F b92).bind fun r97 =>
  some r97

def F81 (F : Nat) (t0 : List Int) : Option ((List Int) × Int) :=
  (F143 F t0).bind fun r1 =>
  if (r1 != 0) then
  (some (([], r1)))
  else
  (F144_145 F t0).bind fun r6 =>
  some ((r6, 0))

def F115_l0 (F : Nat)  (s1 : Int × Int × (List Int)) : Option (Stp (Int × Int × (List Int)) ((List Int))) :=
  if (decide (s1.1 < s1.2.1)) then
  ((at? s1.2.2 s1.2.1).bind fun x7 =>
  (at? s1.2.2 s1.1).bind fun x9 =>
  (ck s1.2.2 s1.1).bind fun u11 =>
  (ck ((s1.2.2.set ((Int.toNat s1.1)) x7)) s1.2.1).bind fun u15 =>
  some (.more (((wrapA .i64 (s1.1 + 1)), (wrapA .i64 (s1.2.1 - 1)), (((s1.2.2.set ((Int.toNat s1.1)) x7)).set ((Int.toNat s1.2.1)) x9)))))
  else
  some (.stop s1.2.2)
def F115 (F : Nat) (t0 : List Int) : Option ((List Int)) :=
  (iter (F115_l0 F) F (0, (wrapA .i64 ((t0.length : Int) - 1)), t0)).bind fun b19 =>
  some b19

def F82_l0 (F : Nat) (t0 : List Int) (s6 : Int) : Option (Stp (Int) (Int)) :=
  (if (decide (s6 ≥ 0)) then 
  ((at? t0 s6).bind fun x11 =>
  (at? t0 (wrapA .i64 (s6 + 1))).bind fun x13 =>
  some (decide (x11 > x13)))
   else some false).bind fun y16 =>
  if y16 then
  (some (.more ((wrapA .i64 (s6 - 1)))))
  else
  some (.stop s6)
def F82_l1 (F : Nat) (b19 : Int) (r24 : List Int) (s30 : Int) : Option (Stp (Int) (Int)) :=
  (at? r24 s30).bind fun x35 =>
  (at? r24 b19).bind fun x37 =>
  if (decide (x35 < x37)) then
  (some (.more ((wrapA .i64 (s30 - 1)))))
  else
  some (.stop s30)
def F82 (F : Nat) (t0 : List Int) : Option ((List Int) × Int) :=
  (F101 F t0).bind fun r1 =>
  if (r1 != 0) then
  (some (([], r1)))
  else
  (iter (F82_l0 F t0) F (wrapA .i64 ((t0.length : Int) - 2))).bind fun b19 =>
  if (decide (b19 < 0)) then
  (some (([], 4)))
  else
  (F45 F t0).bind fun r24 =>
  (iter (F82_l1 F b19 r24) F (wrapA .i64 ((r24.length : Int) - 1))).bind fun b40 =>
  (at? r24 b40).bind fun x44 =>
  (at? r24 b19).bind fun x46 =>
  (ck r24 b19).bind fun u48 =>
  (ck ((r24.set ((Int.toNat b19)) x44)) b40).bind fun u52 =>
  (sub? ((((r24.set ((Int.toNat b19)) x44)).set ((Int.toNat b40)) x46)) (wrapA .i64 (b19 + 1)) ((((r24.set ((Int.toNat b19)) x44)).set ((Int.toNat b40)) x46)).length).bind fun L56 =>
  (F115 F L56).bind fun r61 =>
  some (((putL ((((r24.set ((Int.toNat b19)) x44)).set ((Int.toNat b40)) x46)) ((wrapA .i64 (b19 + 1))) r61), 0))

def F10_l0 (F : Nat)  (s33 : (List Int) × Int × Int × Int) : Option (Stp ((List Int) × Int × Int × Int) ((Int × Int) ⊕ Bool)) :=
  if (s33.2.1 == 0) then
  ((F81 F s33.1).bind fun r44 =>
  (F27 F s33.1).bind fun r50 =>
  (F76 F ([r44.2, r50.2])).bind fun r69 =>
  if (!r69) then
  (some (.stop ((.inr false))))
  else
  (show Option (Int) from (if (decide ((r44.1.length : Int) ≤ 2)) then
  (some ((wrapA .i64 (s33.2.2.1 + 1))))
  else
  some s33.2.2.1)).bind fun b75 =>
  if (decide ((r50.1.1.length : Int) ≤ 2)) then
  ((F82 F s33.1).bind fun r81 =>
  some (.more ((r81.1, r81.2, b75, (wrapA .i64 (s33.2.2.2 + 1))))))
  else
  (F82 F s33.1).bind fun r87 =>
  some (.more ((r87.1, r87.2, b75, s33.2.2.2))))
  else
  some (.stop ((.inl (s33.2.2.1, s33.2.2.2))))
def F10 (F : Nat) (t0 : Int) : Option Bool :=
  (F71 F t0 7).bind fun r1 =>
  (F79 F r1).bind fun r5 =>
  (F80 F r1 0).bind fun r9 =>
  (F73 F).bind fun r15 =>
  (if (!r15) then some true else 
  ((F76 F ([r5.2, r9.2])).bind fun r23 =>
  some (!r23))
  ).bind fun y28 =>
  if y28 then
  (some false)
  else
  (iter (F10_l0 F) F (r9.1, r9.2, 0, 0)).bind fun b93 =>
  match b93 with
  | .inl b95 => (some (((b95.1 == r5.1) && (b95.2 == r5.1))))
  | .inr b95 => (some b95)

def F146_l0 (F : Nat) (t0 : List Int) (s3 : Int × Int) : Option (Stp (Int × Int) (Int ⊕ Int)) :=
  if (decide (s3.2 < (t0.length : Int))) then
  ((at? t0 s3.2).bind fun x11 =>
  if ((decide (x11 < 0)) || (decide (x11 > 100))) then
  (some (.stop ((.inr 1))))
  else
  some (.more (((wrapA .i64 (s3.1 + x11)), (wrapA .i64 (s3.2 + 1))))))
  else
  some (.stop ((.inl s3.1)))
def F146 (F : Nat) (t0 : List Int) : Option Int :=
  if ((decide ((t0.length : Int) < 1)) || (decide ((t0.length : Int) > 12))) then
  (some 2)
  else
  (iter (F146_l0 F t0) F (0, 0)).bind fun b15 =>
  match b15 with
  | .inl b17 => (if (b17 == 0) then
  (some 5)
  else
  some 0)
  | .inr b17 => (some b17)

def F83_l0 (F : Nat) (t0 : List Int) (s6 : Int × Int) : Option (Stp (Int × Int) (Int)) :=
  if (decide (s6.2 < (t0.length : Int))) then
  ((at? t0 s6.2).bind fun x12 =>
  some (.more (((wrapA .i64 (s6.1 + x12)), (wrapA .i64 (s6.2 + 1))))))
  else
  some (.stop s6.1)
def F83_l1 (F : Nat) (t0 : List Int) (s24 : Int × (List Int)) : Option (Stp (Int × (List Int)) ((List Int))) :=
  if (decide (s24.1 < (t0.length : Int))) then
  ((at? t0 s24.1).bind fun x30 =>
  (ck s24.2 s24.1).bind fun u32 =>
  some (.more (((wrapA .i64 (s24.1 + 1)), (s24.2.set ((Int.toNat s24.1)) ((wrapA .i64 (x30 * (t0.length : Int)))))))))
  else
  some (.stop s24.2)
def F83_l2 (F : Nat) (s52 : Int × (List Int) × (List (Int × Int)) × (List Int)) (s58 : Int × Int × Int) : Option (Stp (Int × Int × Int) (Int × Int)) :=
  if (decide (s58.2.2 < (s52.2.1.length : Int))) then
  ((at? s52.2.1 s58.2.2).bind fun x64 =>
  (at? s52.2.2.2 s58.2.2).bind fun x66 =>
  (if (x66 == 0) then 
  ((if (decide (s58.1 < 0)) then some true else 
  ((at? s52.2.1 s58.1).bind fun x68 =>
  some (decide (x64 < x68)))
  ).bind fun y71 =>
  some y71)
   else some false).bind fun y74 =>
  (show Option (Int) from (if y74 then
  (some s58.2.2)
  else
  some s58.1)).bind fun b77 =>
  (at? s52.2.2.2 s58.2.2).bind fun x82 =>
  (if (x82 == 0) then 
  ((if (decide (s58.2.1 < 0)) then some true else 
  ((at? s52.2.1 s58.2.1).bind fun x84 =>
  some (decide (x64 ≥ x84)))
  ).bind fun y87 =>
  some y87)
   else some false).bind fun y90 =>
  if y90 then
  (some (.more ((b77, s58.2.2, (wrapA .i64 (s58.2.2 + 1))))))
  else
  some (.more ((b77, s58.2.1, (wrapA .i64 (s58.2.2 + 1))))))
  else
  some (.stop ((s58.1, s58.2.1)))
def F83_l3 (F : Nat) (t0 : List Int) (b14 : Int) (s52 : Int × (List Int) × (List (Int × Int)) × (List Int)) : Option (Stp (Int × (List Int) × (List (Int × Int)) × (List Int)) ((List (Int × Int)))) :=
  if (decide (s52.1 < (t0.length : Int))) then
  ((iter (F83_l2 F s52) F ((-1), (-1), 0)).bind fun b93 =>
  (at? s52.2.1 b93.1).bind fun x97 =>
  (ck s52.2.2.1 b93.1).bind fun u99 =>
  (at? s52.2.1 b93.2).bind fun x103 =>
  (at? s52.2.1 b93.1).bind fun x105 =>
  (ck s52.2.1 b93.2).bind fun u107 =>
  if (b93.1 == b93.2) then
  ((ck ((s52.2.1.set ((Int.toNat b93.2)) ((wrapA .i64 (x103 - (wrapA .i64 (b14 - x105))))))) b93.2).bind fun u112 =>
  (ck s52.2.2.2 b93.1).bind fun u116 =>
  some (.more (((wrapA .i64 (s52.1 + 1)), (((s52.2.1.set ((Int.toNat b93.2)) ((wrapA .i64 (x103 - (wrapA .i64 (b14 - x105))))))).set ((Int.toNat b93.2)) 0), (s52.2.2.1.set ((Int.toNat b93.1)) ((x97, b93.2))), (s52.2.2.2.set ((Int.toNat b93.1)) 1)))))
  else
  (ck s52.2.2.2 b93.1).bind fun u120 =>
  some (.more (((wrapA .i64 (s52.1 + 1)), (s52.2.1.set ((Int.toNat b93.2)) ((wrapA .i64 (x103 - (wrapA .i64 (b14 - x105)))))), (s52.2.2.1.set ((Int.toNat b93.1)) ((x97, b93.2))), (s52.2.2.2.set ((Int.toNat b93.1)) 1)))))
  else
  some (.stop s52.2.2.1)
def F83 (F : Nat) (t0 : List Int) : Option ((List (Int × Int)) × Int) :=
  (F146 F t0).bind fun r1 =>
  if (r1 != 0) then
  (some (([], r1)))
  else
  (iter (F83_l0 F t0) F (0, 0)).bind fun b14 =>
  (mk? (t0.length : Int) (0 : Int)).bind fun L18 =>
  (iter (F83_l1 F t0) F (0, L18)).bind fun b36 =>
  (mk? (t0.length : Int) ((0, 0) : Int × Int)).bind fun L40 =>
  (mk? (t0.length : Int) (0 : Int)).bind fun L46 =>
  (iter (F83_l3 F t0 b14) F (0, b36, L40, L46)).bind fun b124 =>
  some ((b124, 0))

def F147_l0 (F : Nat) (t0 : List Int) (s2 : Int) : Option (Stp (Int) (Unit ⊕ Int)) :=
  if (decide (s2 < (t0.length : Int))) then
  ((at? t0 s2).bind fun x10 =>
  if (decide (x10 > 1)) then
  (some (.stop ((.inr 3))))
  else
  some (.more ((wrapA .i64 (s2 + 1)))))
  else
  some (.stop ((.inl ())))
def F147 (F : Nat) (t0 : List Int) : Option Int :=
  if (decide ((t0.length : Int) > 200)) then
  (some 2)
  else
  (iter (F147_l0 F t0) F 0).bind fun b13 =>
  match b13 with
  | .inl b15 => (some 0)
  | .inr b15 => (some b15)

def F165_l0 (F : Nat) (t0 : Int) (s3 : Int) : Option (Stp (Int) (Int)) :=
  (shl? .i64 1 s3).bind fun x8 =>
  if (decide (x8 < t0)) then
  (some (.more ((wrapA .i64 (s3 + 1)))))
  else
  some (.stop s3)
def F165 (F : Nat) (t0 : Int) : Option (Int × Int) :=
  if ((decide (t0 < 1)) || (decide (t0 > 1024))) then
  (some ((0, 1)))
  else
  (iter (F165_l0 F t0) F 0).bind fun b11 =>
  some ((b11, 0))

def F148_l0 (F : Nat) (L19 : List Int) (s23 : Int × Int) : Option (Stp (Int × Int) (Int)) :=
  if (decide (s23.2 < (L19.length : Int))) then
  ((at? L19 s23.2).bind fun x29 =>
  some (.more (((wrapA .i64 ((wrapA .i64 (2 * s23.1)) + (wrapA .i64 x29))), (wrapA .i64 (s23.2 + 1))))))
  else
  some (.stop s23.1)
def F148_l1 (F : Nat) (t0 : List Int) (t1 : Int) (r6 : Int × Int) (s11 : Int) : Option (Stp (Int) (Unit ⊕ (Int × Int × Int))) :=
  if (decide ((wrapA .i64 (s11 + r6.1)) ≤ (t0.length : Int))) then
  ((sub? t0 s11 (wrapA .i64 (s11 + r6.1))).bind fun L19 =>
  (iter (F148_l0 F L19) F (0, 0)).bind fun b31 =>
  if (decide (b31 < t1)) then
  (some (.stop ((.inr (b31, (wrapA .i64 (s11 + r6.1)), 0)))))
  else
  some (.more ((wrapA .i64 (s11 + r6.1)))))
  else
  some (.stop ((.inl ())))
def F148 (F : Nat) (t0 : List Int) (t1 : Int) : Option (Int × Int × Int) :=
  (F147 F t0).bind fun r1 =>
  if (r1 != 0) then
  (some ((0, 0, r1)))
  else
  (F165 F t1).bind fun r6 =>
  if (r6.2 != 0) then
  (some ((0, 0, r6.2)))
  else
  (iter (F148_l1 F t0 t1 r6) F 0).bind fun b36 =>
  match b36 with
  | .inl b38 => (some ((0, 0, 6)))
  | .inr b38 => (some ((b38.1, b38.2.1, b38.2.2)))

def F84_l0 (F : Nat) (t0 : List Int) (t1 : List Int) (s7 : (List Int) × Int × Int) : Option (Stp ((List Int) × Int × Int) (((List Int) × Int) ⊕ ((List Int) × Int × Int))) :=
  if (decide (s7.2.2 < (t1.length : Int))) then
  ((at? t1 s7.2.2).bind fun x20 =>
  (sub? t0 s7.2.1 t0.length).bind fun L22 =>
  (F148 F L22 x20).bind fun r26 =>
  if (r26.2.2 != 0) then
  (some (.stop ((.inr ([], 0, r26.2.2)))))
  else
  (app? s7.1 ([r26.1])).bind fun L35 =>
  some (.more ((L35, (wrapA .i64 (s7.2.1 + r26.2.1)), (wrapA .i64 (s7.2.2 + 1))))))
  else
  some (.stop ((.inl (s7.1, s7.2.1))))
def F84 (F : Nat) (t0 : List Int) (t1 : List Int) : Option ((List Int) × Int × Int) :=
  (F147 F t0).bind fun r1 =>
  if (r1 != 0) then
  (some (([], 0, r1)))
  else
  if (decide ((t1.length : Int) > 30)) then
  (some (([], 0, 2)))
  else
  (iter (F84_l0 F t0 t1) F ([], 0, 0)).bind fun b41 =>
  match b41 with
  | .inl b43 => (some ((b43.1, b43.2, 0)))
  | .inr b43 => (some ((b43.1, b43.2.1, b43.2.2)))

def F85 (F : Nat) (t0 : List (Int × Int)) (t1 : Int) (t2 : Int) : Option (Int × Int) :=
  if ((decide ((t0.length : Int) < 1)) || (decide ((t0.length : Int) > 12))) then
  (some ((0, 2)))
  else
  if ((decide (t1 < 0)) || (decide (t1 ≥ (t0.length : Int)))) then
  (some ((0, 1)))
  else
  (at? t0 t1).bind fun x5 =>
  if (decide (t2 < x5.1)) then
  (some ((t1, 0)))
  else
  (at? t0 t1).bind fun x8 =>
  some ((x8.2, 0))

def F40 (F : Nat) (t0 : Int) (t1 : Int) : Option Int :=
  none

def F41_l0 (F : Nat) (t0 : List Int) (s1 : Int × Int) : Option (Stp (Int × Int) (Unit ⊕ Int)) :=
  if (decide (s1.2 < (t0.length : Int))) then
  ((at? t0 s1.2).bind fun x9 =>
  if ((decide (x9 < 1)) || (decide (x9 > 40))) then
  (some (.stop ((.inr 1))))
  else
  (if (decide (s1.2 > 0)) then 
  ((at? t0 (wrapA .i64 (s1.2 - 1))).bind fun x13 =>
  some (decide (x13 < x9)))
   else some false).bind fun y16 =>
  if y16 then
  (some (.stop ((.inr 3))))
  else
  if (decide ((wrapA .i64 (s1.1 + x9)) > 40)) then
  (some (.stop ((.inr 2))))
  else
  some (.more (((wrapA .i64 (s1.1 + x9)), (wrapA .i64 (s1.2 + 1))))))
  else
  some (.stop ((.inl ())))
def F41 (F : Nat) (t0 : List Int) : Option Int :=
  (iter (F41_l0 F t0) F (0, 0)).bind fun b20 =>
  match b20 with
  | .inl b22 => (some 0)
  | .inr b22 => (some b22)

def F43_l0 (F : Nat) (t0 : List Int) (s1 : (List Int) × Int) (s10 : Int × Int) : Option (Stp (Int × Int) (Int)) :=
  if (decide (s10.2 < (t0.length : Int))) then
  ((at? t0 s10.2).bind fun x16 =>
  if (decide (x16 ≥ s1.2)) then
  (some (.more (((wrapA .i64 (s10.1 + 1)), (wrapA .i64 (s10.2 + 1))))))
  else
  some (.more ((s10.1, (wrapA .i64 (s10.2 + 1))))))
  else
  some (.stop s10.1)
def F43_l1 (F : Nat) (t0 : List Int) (s1 : (List Int) × Int) : Option (Stp ((List Int) × Int) ((List Int))) :=
  (iter (F43_l0 F t0 s1) F (0, 0)).bind fun b19 =>
  if (b19 == 0) then
  (some (.stop s1.1))
  else
  (app? s1.1 ([b19])).bind fun L28 =>
  some (.more ((L28, (wrapA .i64 (s1.2 + 1)))))
def F43 (F : Nat) (t0 : List Int) : Option ((List Int)) :=
  (iter (F43_l1 F t0) F ([], 1)).bind fun b34 =>
  some b34

def F179_l0 (F : Nat) (t1 : Int) (s7 : Int × (List Int)) : Option (Stp (Int × (List Int)) ((List Int))) :=
  (if (decide (s7.1 > t1)) then 
  ((at? s7.2 s7.1).bind fun x12 =>
  (at? s7.2 (wrapA .i64 (s7.1 - 1))).bind fun x14 =>
  (F151 F x12 x14).bind fun r16 =>
  some r16)
   else some false).bind fun y21 =>
  if y21 then
  ((at? s7.2 (wrapA .i64 (s7.1 - 1))).bind fun x26 =>
  (at? s7.2 s7.1).bind fun x28 =>
  (ck s7.2 s7.1).bind fun u30 =>
  (ck ((s7.2.set ((Int.toNat s7.1)) x26)) (wrapA .i64 (s7.1 - 1))).bind fun u34 =>
  some (.more (((wrapA .i64 (s7.1 - 1)), (((s7.2.set ((Int.toNat s7.1)) x26)).set ((Int.toNat (wrapA .i64 (s7.1 - 1)))) x28)))))
  else
  some (.stop s7.2)
def F179_l1 (F : Nat) (t1 : Int) (t2 : Int) (s1 : Int × (List Int)) : Option (Stp (Int × (List Int)) ((List Int))) :=
  if (decide (s1.1 < t2)) then
  ((iter (F179_l0 F t1) F (s1.1, s1.2)).bind fun b38 =>
  some (.more (((wrapA .i64 (s1.1 + 1)), b38))))
  else
  some (.stop s1.2)
def F179 (F : Nat) (t0 : List Int) (t1 : Int) (t2 : Int) : Option ((List Int)) :=
  (iter (F179_l1 F t1 t2) F ((wrapA .i64 (t1 + 1)), t0)).bind fun b42 =>
  some b42

def F156_l0 (F : Nat)  (s1 : Int × Int × Int × Bool × Bool × (List Int)) : Option (Stp (Int × Int × Int × Bool × Bool × (List Int)) ((List Int))) :=
  if (decide ((wrapA .i64 (s1.2.1 - s1.1)) ≤ 12)) then
  ((F179 F s1.2.2.2.2.2 s1.1 s1.2.1).bind fun r7 =>
  some (.stop r7))
  else
  if (s1.2.2.1 == 0) then
  (none)
  else
  (show Option (Int × (List Int)) from (if (!s1.2.2.2.1) then
  (none)
  else
  some ((s1.2.2.1, s1.2.2.2.2.2)))).bind fun b13 =>
  none
def F156 (F : Nat) (t0 : List Int) (t1 : Int) (t2 : Int) (t3 : Int) : Option ((List Int)) :=
  (iter (F156_l0 F) F (t1, t2, t3, true, true, t0)).bind fun b18 =>
  some b18

def F114 (F : Nat) (t0 : List Int) : Option ((List Int)) :=
  (F155 F ((wrapA .u64 (t0.length : Int)))).bind fun r1 =>
  (F156 F t0 0 ((t0.length : Int)) r1).bind fun r5 =>
  some r5

def F46_l0 (F : Nat) (t0 : List Int) (frec : (List Int) → Option ((List Int))) (s1 : (List Int) × Int) : Option (Stp ((List Int) × Int) ((List Int))) :=
  if (decide (s1.2 < (t0.length : Int))) then
  ((at? t0 s1.2).bind fun x11 =>
  if ((Int.tmod x11 2) == 1) then
  ((app? s1.1 ([x11])).bind fun L18 =>
  some (.more ((L18, (wrapA .i64 (s1.2 + 1))))))
  else
  (frec ([(wrapA .i64 (Int.tdiv x11 2)), (wrapA .i64 (Int.tdiv x11 2))])).bind fun r28 =>
  (app? s1.1 r28).bind fun L34 =>
  some (.more ((L34, (wrapA .i64 (s1.2 + 1))))))
  else
  some (.stop s1.1)
def F46 : Nat → (List Int) → Option ((List Int))
  | 0, _ => none
  | F + 1, t0 =>
  let frec := F46 F
  (iter (F46_l0 F t0 frec) F ([], 0)).bind fun b40 =>
  (F114 F b40).bind fun r45 =>
  (F115 F r45).bind fun r49 =>
  some r49

def F48 (F : Nat) (t0 : Int) : Option Bool :=
  some (((Int.tmod t0 2) == 0))

def F49_l0 (F : Nat) (r16 : (List Int)) (s20 : Int × Int) : Option (Stp (Int × Int) (Int)) :=
  if (decide (s20.2 < (r16.length : Int))) then
  ((at? r16 s20.2).bind fun x26 =>
  (at? r16 (wrapA .i64 (s20.2 - 1))).bind fun x28 =>
  if (x26 == x28) then
  (some (.more ((s20.2, (wrapA .i64 (s20.2 + 1))))))
  else
  some (.more ((s20.1, (wrapA .i64 (s20.2 + 1))))))
  else
  some (.stop s20.1)
def F49_l1 (F : Nat)  (s7 : (List Int)) : Option (Stp ((List Int)) ((List Int))) :=
  (F114 F s7).bind fun r16 =>
  (iter (F49_l0 F r16) F ((-1), 1)).bind fun b31 =>
  if (decide (b31 < 0)) then
  ((F115 F r16).bind fun r36 =>
  some (.stop r36))
  else
  (at? r16 b31).bind fun x40 =>
  (ck r16 b31).bind fun u42 =>
  (F117 F ((r16.set ((Int.toNat b31)) ((wrapA .i64 (x40 * 2))))) ((wrapA .i64 (b31 - 1))) b31).bind fun r46 =>
  some (.more r46)
def F49 (F : Nat) (t0 : List Int) : Option ((List Int)) :=
  (F45 F t0).bind fun r1 =>
  (iter (F49_l1 F) F r1).bind fun b52 =>
  some b52

def F124 (F : Nat) (t0 : List Int) (c0 : Int) : Option Bool :=
  (if ((t0.length : Int) != c0) then some true else 
  ((F31 F t0).bind fun r1 =>
  some (r1 != 0))
  ).bind fun y6 =>
  some y6

def F104_124_l0 (F : Nat) (t0 : List (List Int)) (t1c0 : Int) (s1 : Int) : Option (Stp (Int) (Unit ⊕ Int)) :=
  if (decide (s1 < (t0.length : Int))) then
  ((at? t0 s1).bind fun L9 =>
  (F124 F L9 t1c0).bind fun r13 =>
  if r13 then
  (some (.stop ((.inr s1))))
  else
  some (.more ((wrapA .i64 (s1 + 1)))))
  else
  some (.stop ((.inl ())))
def F104_124 (F : Nat) (t0 : List (List Int)) (t1c0 : Int) : Option Int :=
  (iter (F104_124_l0 F t0 t1c0) F 0).bind fun b18 =>
  match b18 with
  | .inl b20 => (some ((-1)))
  | .inr b20 => (some b20)

def F123_124 (F : Nat) (t0 : List (List Int)) (t1c0 : Int) : Option Bool :=
  (F104_124 F t0 t1c0).bind fun r1 =>
  some ((decide (r1 ≥ 0)))

def F53 (F : Nat) (t0 : Int) (t1 : List (List Int)) : Option Int :=
  if ((decide (t0 < 0)) || (decide (t0 > 6))) then
  (some 1)
  else
  if (decide ((t1.length : Int) > 6)) then
  (some 2)
  else
  (F123_124 F t1 t0).bind fun r9 =>
  if r9 then
  (some 3)
  else
  some 0

def F54_l0 (F : Nat) (t0 : Int) (t1 : List (List Int)) (s4 : Int) : Option (Stp (Int) (Unit ⊕ Int)) :=
  if (decide (s4 < (t1.length : Int))) then
  ((at? t1 s4).bind fun L12 =>
  (F101 F L12).bind fun r16 =>
  if ((r16 != 0) || ((L12.length : Int) != t0)) then
  (some (.stop ((.inr 3))))
  else
  some (.more ((wrapA .i64 (s4 + 1)))))
  else
  some (.stop ((.inl ())))
def F54 (F : Nat) (t0 : Int) (t1 : List (List Int)) : Option Int :=
  if ((decide (t0 < 0)) || (decide (t0 > 6))) then
  (some 1)
  else
  if (decide ((t1.length : Int) > 6)) then
  (some 2)
  else
  (iter (F54_l0 F t0 t1) F 0).bind fun b22 =>
  match b22 with
  | .inl b24 => (some 0)
  | .inr b24 => (some b24)

def F127_l0 (F : Nat) (t0 : List Int) (s1 : (List Int) × Int) (s13 : Int × Int × Int) : Option (Stp (Int × Int × Int) (Int × Int)) :=
  if (s13.2.2 != s1.2) then
  ((at? t0 s13.2.2).bind fun x19 =>
  some (.more (((wrapA .i64 (s13.1 + 1)), (minI s13.2.1 s13.2.2), x19))))
  else
  some (.stop ((s13.1, s13.2.1)))
def F127_l1 (F : Nat) (t0 : List Int) (s1 : (List Int) × Int) : Option (Stp ((List Int) × Int) ((List Int))) :=
  if (decide (s1.2 < (t0.length : Int))) then
  ((at? t0 s1.2).bind fun x11 =>
  (iter (F127_l0 F t0 s1) F (1, s1.2, x11)).bind fun b21 =>
  if (b21.2 == s1.2) then
  ((app? s1.1 ([b21.1])).bind fun L30 =>
  some (.more ((L30, (wrapA .i64 (s1.2 + 1))))))
  else
  some (.more ((s1.1, (wrapA .i64 (s1.2 + 1))))))
  else
  some (.stop s1.1)
def F127 (F : Nat) (t0 : List Int) : Option ((List Int)) :=
  (iter (F127_l1 F t0) F ([], 0)).bind fun b36 =>
  (F114 F b36).bind fun r41 =>
  (F115 F r41).bind fun r45 =>
  some r45

def F56_l0 (F : Nat) (t1 : Int) (r11 : (List Int)) (s17 : Int × Int) : Option (Stp (Int × Int) (Int)) :=
  if (decide (s17.2 < (r11.length : Int))) then
  (some (.more (((wrapA .i64 (s17.1 * t1)), (wrapA .i64 (s17.2 + 1))))))
  else
  some (.stop s17.1)
def F56_l1 (F : Nat) (t0 : List (List Int)) (t1 : Int) (s1 : Int × Int) : Option (Stp (Int × Int) (Int)) :=
  if (decide (s1.2 < (t0.length : Int))) then
  ((at? t0 s1.2).bind fun L7 =>
  (F127 F L7).bind fun r11 =>
  (iter (F56_l0 F t1 r11) F (1, 0)).bind fun b23 =>
  some (.more (((wrapA .i64 (s1.1 + b23)), (wrapA .i64 (s1.2 + 1))))))
  else
  some (.stop s1.1)
def F56 (F : Nat) (t0 : List (List Int)) (t1 : Int) : Option Int :=
  (iter (F56_l1 F t0 t1) F (0, 0)).bind fun b27 =>
  (quo? .i64 b27 (t0.length : Int)).bind fun x31 =>
  some x31

def F128_l0 (F : Nat) (t0 : List Int) (t1 : List Int) (s7 : Int × (List Int)) : Option (Stp (Int × (List Int)) ((List Int))) :=
  if (decide (s7.1 < (t0.length : Int))) then
  ((at? t0 s7.1).bind fun x13 =>
  (at? t1 s7.1).bind fun x15 =>
  (ck s7.2 x13).bind fun u17 =>
  some (.more (((wrapA .i64 (s7.1 + 1)), (s7.2.set ((Int.toNat x13)) x15)))))
  else
  some (.stop s7.2)
def F128 (F : Nat) (t0 : List Int) (t1 : List Int) : Option ((List Int)) :=
  (mk? (t1.length : Int) (0 : Int)).bind fun L1 =>
  (iter (F128_l0 F t0 t1) F (0, L1)).bind fun b21 =>
  some b21

def F158 (F : Nat) (t0 : Int) (t1 : Int) : Option Int :=
  (F167 F t0).bind fun r1 =>
  (F167 F t1).bind fun r5 =>
  if r1 then
  (if r5 then
  (some 0)
  else
  some ((-1)))
  else
  if r5 then
  (some 1)
  else
  if (decide (t0 < t1)) then
  (some ((-1)))
  else
  if (decide (t0 > t1)) then
  (some 1)
  else
  some 0

def F121_l0 (F : Nat) (t0 : List Int) (t1 : List Int) (s1 : Int) : Option (Stp (Int) (Unit ⊕ Int)) :=
  if (decide (s1 < (t0.length : Int))) then
  ((at? t0 s1).bind fun x9 =>
  if (decide (s1 ≥ (t1.length : Int))) then
  (some (.stop ((.inr 1))))
  else
  (at? t1 s1).bind fun x12 =>
  (F158 F x9 x12).bind fun r14 =>
  if (r14 != 0) then
  (some (.stop ((.inr r14))))
  else
  some (.more ((wrapA .i64 (s1 + 1)))))
  else
  some (.stop ((.inl ())))
def F121 (F : Nat) (t0 : List Int) (t1 : List Int) : Option Int :=
  (iter (F121_l0 F t0 t1) F 0).bind fun b19 =>
  match b19 with
  | .inl b21 => (if (decide ((t0.length : Int) < (t1.length : Int))) then
  (some ((-1)))
  else
  some 0)
  | .inr b21 => (some b21)

def F68_l0 (F : Nat) (t0 : Int × (List (List UInt8))) (s8 : Int) : Option (Stp (Int) (Unit ⊕ Int)) :=
  if (decide (s8 < (t0.2.length : Int))) then
  ((at? t0.2 s8).bind fun x16 =>
  if (decide ((x16.length : Int) > 12)) then
  (some (.stop ((.inr 2))))
  else
  (if (decide (s8 > 0)) then 
  ((at? t0.2 (wrapA .i64 (s8 - 1))).bind fun x19 =>
  (F132 F x19 x16).bind fun r21 =>
  some (decide (r21 ≥ 0)))
   else some false).bind fun y26 =>
  if y26 then
  (some (.stop ((.inr 3))))
  else
  some (.more ((wrapA .i64 (s8 + 1)))))
  else
  some (.stop ((.inl ())))
def F68 (F : Nat) (t0 : Int × (List (List UInt8))) : Option Int :=
  if ((decide (t0.1 < 1)) || (decide (t0.1 > 30))) then
  (some 1)
  else
  if (decide ((t0.2.length : Int) > t0.1)) then
  (some 2)
  else
  (iter (F68_l0 F t0) F 0).bind fun b31 =>
  match b31 with
  | .inl b33 => (some 0)
  | .inr b33 => (some b33)

def F62_l0 (F : Nat) (t0 : List UInt8) (s1 : Int × Int) : Option (Stp (Int × Int) (Int)) :=
  if (decide (s1.2 < (t0.length : Int))) then
  ((at? t0 s1.2).bind fun x7 =>
  some (.more (((Int.tmod (wrapA .u64 ((bit .xor .u64 s1.1 (wrapA .u64 (x7.toNat : Int))) * 16777619)) 4294967296), (wrapA .i64 (s1.2 + 1))))))
  else
  some (.stop s1.1)
def F62 (F : Nat) (t0 : List UInt8) : Option Int :=
  (iter (F62_l0 F t0) F (2166136261, 0)).bind fun b9 =>
  some ((wrapA .u32 (bit .xor .u64 (Int.tmod (wrapA .u64 ((bit .xor .u64 b9 (wrapA .u64 (Int.tdiv b9 32768))) * 2246822519)) 4294967296) (wrapA .u64 (Int.tdiv (Int.tmod (wrapA .u64 ((bit .xor .u64 b9 (wrapA .u64 (Int.tdiv b9 32768))) * 2246822519)) 4294967296) 8192)))))

def F64 (F : Nat) (t0 : List UInt8) : Option Bool :=
  some ((decide ((t0.length : Int) > 12)))

def F86_l0 (F : Nat) (t0 : List (List UInt8)) (t1 : List (List UInt8)) (s2 : Int) : Option (Stp (Int) (Unit ⊕ Bool)) :=
  if (decide (s2 < (t0.length : Int))) then
  ((at? t0 s2).bind fun x10 =>
  (at? t1 s2).bind fun x12 =>
  if (!(x10 == x12)) then
  (some (.stop ((.inr false))))
  else
  some (.more ((wrapA .i64 (s2 + 1)))))
  else
  some (.stop ((.inl ())))
def F86 (F : Nat) (t0 : List (List UInt8)) (t1 : List (List UInt8)) : Option Bool :=
  if ((t0.length : Int) != (t1.length : Int)) then
  (some false)
  else
  (iter (F86_l0 F t0 t1) F 0).bind fun b15 =>
  match b15 with
  | .inl b17 => (some true)
  | .inr b17 => (some b17)

def F65 (F : Nat) (t0 : List (List UInt8)) (t1 : List (List UInt8)) : Option Bool :=
  (F86 F t0 t1).bind fun r1 =>
  some r1

def F131 (F : Nat) (t0 : List UInt8) (t1 : List UInt8) : Option Bool :=
  (F62 F t0).bind fun r1 =>
  (F62 F t1).bind fun r5 =>
  some (((decide (r1 < r5)) || ((r1 == r5) && (bytesLt t0 t1))))

def F66_l0 (F : Nat) (t1 : List (List UInt8)) (s1 : (List (List UInt8))) (s11 : (List UInt8) × Bool × Int) : Option (Stp ((List UInt8) × Bool × Int) ((List UInt8) × Bool)) :=
  if (decide (s11.2.2 < (t1.length : Int))) then
  ((at? t1 s11.2.2).bind fun x17 =>
  (if ((s1.length : Int) == 0) then some true else 
  ((at? s1 (wrapA .i64 ((s1.length : Int) - 1))).bind fun x19 =>
  (F131 F x19 x17).bind fun r21 =>
  some r21)
  ).bind fun y26 =>
  (if y26 then 
  ((if (!s11.2.1) then some true else 
  ((F131 F x17 s11.1).bind fun r30 =>
  some r30)
  ).bind fun y35 =>
  some y35)
   else some false).bind fun y40 =>
  if y40 then
  (some (.more ((x17, true, (wrapA .i64 (s11.2.2 + 1))))))
  else
  some (.more ((s11.1, s11.2.1, (wrapA .i64 (s11.2.2 + 1))))))
  else
  some (.stop ((s11.1, s11.2.1)))
def F66_l1 (F : Nat) (t0 : Int) (t1 : List (List UInt8)) (s1 : (List (List UInt8))) : Option (Stp ((List (List UInt8))) ((List (List UInt8)))) :=
  if (decide ((s1.length : Int) < t0)) then
  ((iter (F66_l0 F t1 s1) F ([], false, 0)).bind fun b45 =>
  if (!b45.2) then
  (some (.stop s1))
  else
  (app? s1 ([b45.1])).bind fun L54 =>
  some (.more L54))
  else
  some (.stop s1)
def F66 (F : Nat) (t0 : Int) (t1 : List (List UInt8)) : Option ((List (List UInt8))) :=
  (iter (F66_l1 F t0 t1) F []).bind fun b60 =>
  some b60

def F67_l0 (F : Nat) (t0 : Int × (List (List UInt8))) (s8 : Int) : Option (Stp (Int) (Unit ⊕ Int)) :=
  if (decide (s8 < (t0.2.length : Int))) then
  ((at? t0.2 s8).bind fun x16 =>
  if (decide ((x16.length : Int) > 12)) then
  (some (.stop ((.inr 2))))
  else
  (if (decide (s8 > 0)) then 
  ((at? t0.2 (wrapA .i64 (s8 - 1))).bind fun x19 =>
  (F131 F x19 x16).bind fun r21 =>
  some (!r21))
   else some false).bind fun y26 =>
  if y26 then
  (some (.stop ((.inr 3))))
  else
  some (.more ((wrapA .i64 (s8 + 1)))))
  else
  some (.stop ((.inl ())))
def F67 (F : Nat) (t0 : Int × (List (List UInt8))) : Option Int :=
  if ((decide (t0.1 < 1)) || (decide (t0.1 > 30))) then
  (some 1)
  else
  if (decide ((t0.2.length : Int) > t0.1)) then
  (some 2)
  else
  (iter (F67_l0 F t0) F 0).bind fun b31 =>
  match b31 with
  | .inl b33 => (some 0)
  | .inr b33 => (some b33)

def F134_l0 (F : Nat) (t0 : List (List UInt8)) (t1 : List UInt8) (s1 : Int) : Option (Stp (Int) (Unit ⊕ Int)) :=
  if (decide (s1 < (t0.length : Int))) then
  ((at? t0 s1).bind fun x9 =>
  if (t1 == x9) then
  (some (.stop ((.inr s1))))
  else
  some (.more ((wrapA .i64 (s1 + 1)))))
  else
  some (.stop ((.inl ())))
def F134 (F : Nat) (t0 : List (List UInt8)) (t1 : List UInt8) : Option Int :=
  (iter (F134_l0 F t0 t1) F 0).bind fun b12 =>
  match b12 with
  | .inl b14 => (some ((-1)))
  | .inr b14 => (some b14)

def F70 (F : Nat) (t0 : List (List UInt8)) (t1 : List UInt8) : Option Bool :=
  (F134 F t0 t1).bind fun r1 =>
  some ((decide (r1 ≥ 0)))

def F112 (F : Nat) (t0 : Int) (t1 : Int) : Option Int :=
  some ((wrapA .i64 (t1 - t0)))

def F119_l0 (F : Nat) (t0 : List Int) (t1 : List Int) (s18 : Int × (List Int)) : Option (Stp (Int × (List Int)) ((List Int))) :=
  if (decide (s18.1 < (t1.length : Int))) then
  ((at? t1 s18.1).bind fun x24 =>
  (at? t0 x24).bind fun x26 =>
  (ck s18.2 s18.1).bind fun u28 =>
  some (.more (((wrapA .i64 (s18.1 + 1)), (s18.2.set ((Int.toNat s18.1)) x26)))))
  else
  some (.stop s18.2)
def F119 (F : Nat) (t0 : List Int) (t1 : List Int) : Option ((List Int) × Int) :=
  (F101 F t0).bind fun r1 =>
  if (r1 != 0) then
  (some (([], r1)))
  else
  (F101 F t1).bind fun r6 =>
  if (r6 != 0) then
  (some (([], r6)))
  else
  if ((t0.length : Int) != (t1.length : Int)) then
  (some (([], 1)))
  else
  (mk? (t0.length : Int) (0 : Int)).bind fun L12 =>
  (iter (F119_l0 F t0 t1) F (0, L12)).bind fun b32 =>
  some ((b32, 0))

def F125_l0 (F : Nat) (t0 : List Int) (t1 : List Int) (s1 : (List Int) × Int) : Option (Stp ((List Int) × Int) ((List Int))) :=
  if (decide (s1.2 < (t1.length : Int))) then
  ((at? t1 s1.2).bind fun x11 =>
  (at? t0 x11).bind fun x13 =>
  (app? s1.1 ([x13])).bind fun L19 =>
  some (.more ((L19, (wrapA .i64 (s1.2 + 1))))))
  else
  some (.stop s1.1)
def F125 (F : Nat) (t0 : List Int) (t1 : List Int) : Option ((List Int)) :=
  (iter (F125_l0 F t0 t1) F ([], 0)).bind fun b25 =>
  some b25

def F202_l0 (F : Nat) (t2 : Int) (t3 : Int) (s1 : Int × (List Int)) : Option (Stp (Int × (List Int)) ((List Int) ⊕ (List Int))) :=
  if (decide ((wrapA .i64 ((wrapA .i64 (2 * s1.1)) + 1)) ≥ t2)) then
  (some (.stop ((.inl s1.2))))
  else
  (if (decide ((wrapA .i64 ((wrapA .i64 ((wrapA .i64 (2 * s1.1)) + 1)) + 1)) < t2)) then 
  ((at? s1.2 (wrapA .i64 (t3 + (wrapA .i64 ((wrapA .i64 (2 * s1.1)) + 1))))).bind fun x9 =>
  (at? s1.2 (wrapA .i64 ((wrapA .i64 (t3 + (wrapA .i64 ((wrapA .i64 (2 * s1.1)) + 1)))) + 1))).bind fun x11 =>
  (F151 F x9 x11).bind fun r13 =>
  some r13)
   else some false).bind fun y18 =>
  (show Option (Int) from (if y18 then
  (some ((wrapA .i64 ((wrapA .i64 ((wrapA .i64 (2 * s1.1)) + 1)) + 1))))
  else
  some ((wrapA .i64 ((wrapA .i64 (2 * s1.1)) + 1))))).bind fun b23 =>
  (at? s1.2 (wrapA .i64 (t3 + s1.1))).bind fun x28 =>
  (at? s1.2 (wrapA .i64 (t3 + b23))).bind fun x30 =>
  (F151 F x28 x30).bind fun r32 =>
  if (!r32) then
  (some (.stop ((.inr s1.2))))
  else
  (at? s1.2 (wrapA .i64 (t3 + b23))).bind fun x37 =>
  (at? s1.2 (wrapA .i64 (t3 + s1.1))).bind fun x39 =>
  (ck s1.2 (wrapA .i64 (t3 + s1.1))).bind fun u41 =>
  (ck ((s1.2.set ((Int.toNat (wrapA .i64 (t3 + s1.1)))) x37)) (wrapA .i64 (t3 + b23))).bind fun u45 =>
  some (.more ((b23, (((s1.2.set ((Int.toNat (wrapA .i64 (t3 + s1.1)))) x37)).set ((Int.toNat (wrapA .i64 (t3 + b23)))) x39))))
def F202 (F : Nat) (t0 : List Int) (t1 : Int) (t2 : Int) (t3 : Int) : Option ((List Int)) :=
  (iter (F202_l0 F t2 t3) F (t1, t0)).bind fun b49 =>
  match b49 with
  | .inl b51 => (some b51)
  | .inr b51 => (some b51)

def F180_l0 (F : Nat) (t1 : Int) (t2 : Int) (s1 : Int × (List Int)) : Option (Stp (Int × (List Int)) ((List Int))) :=
  if (decide (s1.1 ≥ 0)) then
  ((F202 F s1.2 s1.1 ((wrapA .i64 (t2 - t1))) t1).bind fun r7 =>
  some (.more (((wrapA .i64 (s1.1 - 1)), r7))))
  else
  some (.stop s1.2)
def F180_l1 (F : Nat) (t1 : Int) (s15 : Int × (List Int)) : Option (Stp (Int × (List Int)) ((List Int))) :=
  if (decide (s15.1 ≥ 0)) then
  ((at? s15.2 (wrapA .i64 (t1 + s15.1))).bind fun x21 =>
  (at? s15.2 t1).bind fun x23 =>
  (ck s15.2 t1).bind fun u25 =>
  (ck ((s15.2.set ((Int.toNat t1)) x21)) (wrapA .i64 (t1 + s15.1))).bind fun u29 =>
  (F202 F ((((s15.2.set ((Int.toNat t1)) x21)).set ((Int.toNat (wrapA .i64 (t1 + s15.1)))) x23)) 0 s15.1 t1).bind fun r33 =>
  some (.more (((wrapA .i64 (s15.1 - 1)), r33))))
  else
  some (.stop s15.2)
def F180 (F : Nat) (t0 : List Int) (t1 : Int) (t2 : Int) : Option ((List Int)) :=
  (iter (F180_l0 F t1 t2) F ((wrapA .i64 (Int.tdiv (wrapA .i64 ((wrapA .i64 (t2 - t1)) - 1)) 2)), t0)).bind fun b11 =>
  (iter (F180_l1 F t1) F ((wrapA .i64 ((wrapA .i64 (t2 - t1)) - 1)), b11)).bind fun b37 =>
  some b37

def F198 (F : Nat) (t0 : Int) : Option Int :=
  (F155 F ((wrapA .u64 t0))).bind fun r1 =>
  (shl? .u64 1 r1).bind fun x5 =>
  some x5

def F199 (F : Nat) (t0 : Int) : Option (Int × Int) :=
  (shl? .u64 t0 13).bind fun x1 =>
  (shr? .u64 (bit .xor .u64 t0 x1) 7).bind fun x5 =>
  (shl? .u64 (bit .xor .u64 (bit .xor .u64 t0 x1) x5) 17).bind fun x9 =>
  some (((bit .xor .u64 (bit .xor .u64 (bit .xor .u64 t0 x1) x5) x9), (bit .xor .u64 (bit .xor .u64 (bit .xor .u64 t0 x1) x5) x9)))

def F217 (F : Nat) (t0 : List Int) (t1 : Int) (t2 : Int) (t3 : Int) : Option (Int × Int × Int) :=
  (at? t0 t2).bind fun x1 =>
  (at? t0 t1).bind fun x3 =>
  (F151 F x1 x3).bind fun r5 =>
  if r5 then
  (some ((t2, t1, (wrapA .i64 (t3 + 1)))))
  else
  some ((t1, t2, t3))

def F204 (F : Nat) (t0 : List Int) (t1 : Int) (t2 : Int) (t3 : Int) (t4 : Int) : Option (Int × Int) :=
  (F217 F t0 t1 t2 t4).bind fun r1 =>
  (F217 F t0 r1.2.1 t3 r1.2.2).bind fun r6 =>
  (F217 F t0 r1.1 r6.1 r6.2.2).bind fun r11 =>
  some ((r11.2.1, r11.2.2))

def F203 (F : Nat) (t0 : List Int) (t1 : Int) (t2 : Int) : Option (Int × Int) :=
  (F204 F t0 ((wrapA .i64 (t1 - 1))) t1 ((wrapA .i64 (t1 + 1))) t2).bind fun r1 =>
  some ((r1.1, r1.2))

def F183_l0 (F : Nat)  (s1 : Int × Int × (List Int)) : Option (Stp (Int × Int × (List Int)) ((List Int))) :=
  if (decide (s1.1 < s1.2.1)) then
  ((at? s1.2.2 s1.2.1).bind fun x7 =>
  (at? s1.2.2 s1.1).bind fun x9 =>
  (ck s1.2.2 s1.1).bind fun u11 =>
  (ck ((s1.2.2.set ((Int.toNat s1.1)) x7)) s1.2.1).bind fun u15 =>
  some (.more (((wrapA .i64 (s1.1 + 1)), (wrapA .i64 (s1.2.1 - 1)), (((s1.2.2.set ((Int.toNat s1.1)) x7)).set ((Int.toNat s1.2.1)) x9)))))
  else
  some (.stop s1.2.2)
def F183 (F : Nat) (t0 : List Int) (t1 : Int) (t2 : Int) : Option ((List Int)) :=
  (iter (F183_l0 F) F (t1, (wrapA .i64 (t2 - 1)), t0)).bind fun b19 =>
  some b19

def F184_l0 (F : Nat) (t2 : Int) (s1 : Int × Int × (List Int)) (s9 : Int) : Option (Stp (Int) (Int)) :=
  (if (decide (s9 < t2)) then 
  ((at? s1.2.2 s9).bind fun x14 =>
  (at? s1.2.2 (wrapA .i64 (s9 - 1))).bind fun x16 =>
  (F151 F x14 x16).bind fun r18 =>
  some (!r18))
   else some false).bind fun y23 =>
  if y23 then
  (some (.more ((wrapA .i64 (s9 + 1)))))
  else
  some (.stop s9)
def F184_l1 (F : Nat)  (s47 : Int × (List Int)) : Option (Stp (Int × (List Int)) ((List Int))) :=
  if (decide (s47.1 ≥ 1)) then
  ((at? s47.2 s47.1).bind fun x53 =>
  (at? s47.2 (wrapA .i64 (s47.1 - 1))).bind fun x55 =>
  (F151 F x53 x55).bind fun r57 =>
  if (!r57) then
  (some (.stop s47.2))
  else
  (at? s47.2 (wrapA .i64 (s47.1 - 1))).bind fun x62 =>
  (at? s47.2 s47.1).bind fun x64 =>
  (ck s47.2 s47.1).bind fun u66 =>
  (ck ((s47.2.set ((Int.toNat s47.1)) x62)) (wrapA .i64 (s47.1 - 1))).bind fun u70 =>
  some (.more (((wrapA .i64 (s47.1 - 1)), (((s47.2.set ((Int.toNat s47.1)) x62)).set ((Int.toNat (wrapA .i64 (s47.1 - 1)))) x64)))))
  else
  some (.stop s47.2)
def F184_l2 (F : Nat) (t2 : Int) (s84 : Int × (List Int)) : Option (Stp (Int × (List Int)) ((List Int))) :=
  if (decide (s84.1 < t2)) then
  ((at? s84.2 s84.1).bind fun x90 =>
  (at? s84.2 (wrapA .i64 (s84.1 - 1))).bind fun x92 =>
  (F151 F x90 x92).bind fun r94 =>
  if (!r94) then
  (some (.stop s84.2))
  else
  (at? s84.2 (wrapA .i64 (s84.1 - 1))).bind fun x99 =>
  (at? s84.2 s84.1).bind fun x101 =>
  (ck s84.2 s84.1).bind fun u103 =>
  (ck ((s84.2.set ((Int.toNat s84.1)) x99)) (wrapA .i64 (s84.1 - 1))).bind fun u107 =>
  some (.more (((wrapA .i64 (s84.1 + 1)), (((s84.2.set ((Int.toNat s84.1)) x99)).set ((Int.toNat (wrapA .i64 (s84.1 - 1)))) x101)))))
  else
  some (.stop s84.2)
def F184_l3 (F : Nat) (t1 : Int) (t2 : Int) (s1 : Int × Int × (List Int)) : Option (Stp (Int × Int × (List Int)) ((List Int) ⊕ (Bool × (List Int)))) :=
  if (decide (s1.2.1 < 5)) then
  ((iter (F184_l0 F t2 s1) F s1.1).bind fun b28 =>
  if (b28 == t2) then
  (some (.stop ((.inr (true, s1.2.2)))))
  else
  if (decide ((wrapA .i64 (t2 - t1)) < 50)) then
  (some (.stop ((.inr (false, s1.2.2)))))
  else
  (at? s1.2.2 (wrapA .i64 (b28 - 1))).bind fun x34 =>
  (at? s1.2.2 b28).bind fun x36 =>
  (ck s1.2.2 b28).bind fun u38 =>
  (ck ((s1.2.2.set ((Int.toNat b28)) x34)) (wrapA .i64 (b28 - 1))).bind fun u42 =>
  (show Option ((List Int)) from (if (decide ((wrapA .i64 (b28 - t1)) ≥ 2)) then
  ((iter (F184_l1 F) F ((wrapA .i64 (b28 - 1)), (((s1.2.2.set ((Int.toNat b28)) x34)).set ((Int.toNat (wrapA .i64 (b28 - 1)))) x36))).bind fun b74 =>
  some b74)
  else
  some ((((s1.2.2.set ((Int.toNat b28)) x34)).set ((Int.toNat (wrapA .i64 (b28 - 1)))) x36)))).bind fun b78 =>
  if (decide ((wrapA .i64 (t2 - b28)) ≥ 2)) then
  ((iter (F184_l2 F t2) F ((wrapA .i64 (b28 + 1)), b78)).bind fun b111 =>
  some (.more ((b28, (wrapA .i64 (s1.2.1 + 1)), b111))))
  else
  some (.more ((b28, (wrapA .i64 (s1.2.1 + 1)), b78))))
  else
  some (.stop ((.inl s1.2.2)))
def F184 (F : Nat) (t0 : List Int) (t1 : Int) (t2 : Int) : Option (Bool × (List Int)) :=
  (iter (F184_l3 F t1 t2) F ((wrapA .i64 (t1 + 1)), 0, t0)).bind fun b115 =>
  match b115 with
  | .inl b117 => (some ((false, b117)))
  | .inr b117 => (some ((b117.1, b117.2)))

def F185_l0 (F : Nat) (t1 : Int) (s13 : Int × Int × (List Int)) (s18 : Int) : Option (Stp (Int) (Int)) :=
  (if (decide (s18 ≤ s13.2.1)) then 
  ((at? s13.2.2 t1).bind fun x23 =>
  (at? s13.2.2 s18).bind fun x25 =>
  (F151 F x23 x25).bind fun r27 =>
  some (!r27))
   else some false).bind fun y32 =>
  if y32 then
  (some (.more ((wrapA .i64 (s18 + 1)))))
  else
  some (.stop s18)
def F185_l1 (F : Nat) (t1 : Int) (s13 : Int × Int × (List Int)) (b37 : Int) (s41 : Int) : Option (Stp (Int) (Int)) :=
  (if (decide (b37 ≤ s41)) then 
  ((at? s13.2.2 t1).bind fun x46 =>
  (at? s13.2.2 s41).bind fun x48 =>
  (F151 F x46 x48).bind fun r50 =>
  some r50)
   else some false).bind fun y55 =>
  if y55 then
  (some (.more ((wrapA .i64 (s41 - 1)))))
  else
  some (.stop s41)
def F185_l2 (F : Nat) (t1 : Int) (s13 : Int × Int × (List Int)) : Option (Stp (Int × Int × (List Int)) (Int × (List Int))) :=
  (iter (F185_l0 F t1 s13) F s13.1).bind fun b37 =>
  (iter (F185_l1 F t1 s13 b37) F s13.2.1).bind fun b60 =>
  if (decide (b37 > b60)) then
  (some (.stop ((b37, s13.2.2))))
  else
  (at? s13.2.2 b60).bind fun x65 =>
  (at? s13.2.2 b37).bind fun x67 =>
  (ck s13.2.2 b37).bind fun u69 =>
  (ck ((s13.2.2.set ((Int.toNat b37)) x65)) b60).bind fun u73 =>
  some (.more (((wrapA .i64 (b37 + 1)), (wrapA .i64 (b60 - 1)), (((s13.2.2.set ((Int.toNat b37)) x65)).set ((Int.toNat b60)) x67))))
def F185 (F : Nat) (t0 : List Int) (t1 : Int) (t2 : Int) (t3 : Int) : Option (Int × (List Int)) :=
  (at? t0 t3).bind fun x1 =>
  (at? t0 t1).bind fun x3 =>
  (ck t0 t1).bind fun u5 =>
  (ck ((t0.set ((Int.toNat t1)) x1)) t3).bind fun u9 =>
  (iter (F185_l2 F t1) F ((wrapA .i64 (t1 + 1)), (wrapA .i64 (t2 - 1)), (((t0.set ((Int.toNat t1)) x1)).set ((Int.toNat t3)) x3))).bind fun b77 =>
  some ((b77.1, b77.2))

def F186_l0 (F : Nat) (t0 : List Int) (t1 : Int) (t2 : Int) (t3 : Int) (x1 : Int) (x3 : Int) (s13 : Int) : Option (Stp (Int) (Int)) :=
  (if (decide (s13 ≤ (wrapA .i64 (t2 - 1)))) then 
  ((at? ((((t0.set ((Int.toNat t1)) x1)).set ((Int.toNat t3)) x3)) s13).bind fun x18 =>
  (at? ((((t0.set ((Int.toNat t1)) x1)).set ((Int.toNat t3)) x3)) t1).bind fun x20 =>
  (F151 F x18 x20).bind fun r22 =>
  some r22)
   else some false).bind fun y27 =>
  if y27 then
  (some (.more ((wrapA .i64 (s13 + 1)))))
  else
  some (.stop s13)
def F186_l1 (F : Nat) (t0 : List Int) (t1 : Int) (t3 : Int) (x1 : Int) (x3 : Int) (b32 : Int) (s36 : Int) : Option (Stp (Int) (Int)) :=
  (if (decide (b32 ≤ s36)) then 
  ((at? ((((t0.set ((Int.toNat t1)) x1)).set ((Int.toNat t3)) x3)) s36).bind fun x41 =>
  (at? ((((t0.set ((Int.toNat t1)) x1)).set ((Int.toNat t3)) x3)) t1).bind fun x43 =>
  (F151 F x41 x43).bind fun r45 =>
  some (!r45))
   else some false).bind fun y50 =>
  if y50 then
  (some (.more ((wrapA .i64 (s36 - 1)))))
  else
  some (.stop s36)
def F186_l2 (F : Nat) (t1 : Int) (s84 : Int × Int × (List Int)) (s89 : Int) : Option (Stp (Int) (Int)) :=
  (if (decide (s89 ≤ s84.2.1)) then 
  ((at? s84.2.2 s89).bind fun x94 =>
  (at? s84.2.2 t1).bind fun x96 =>
  (F151 F x94 x96).bind fun r98 =>
  some r98)
   else some false).bind fun y103 =>
  if y103 then
  (some (.more ((wrapA .i64 (s89 + 1)))))
  else
  some (.stop s89)
def F186_l3 (F : Nat) (t1 : Int) (s84 : Int × Int × (List Int)) (b108 : Int) (s112 : Int) : Option (Stp (Int) (Int)) :=
  (if (decide (b108 ≤ s112)) then 
  ((at? s84.2.2 s112).bind fun x117 =>
  (at? s84.2.2 t1).bind fun x119 =>
  (F151 F x117 x119).bind fun r121 =>
  some (!r121))
   else some false).bind fun y126 =>
  if y126 then
  (some (.more ((wrapA .i64 (s112 - 1)))))
  else
  some (.stop s112)
def F186_l4 (F : Nat) (t1 : Int) (s84 : Int × Int × (List Int)) : Option (Stp (Int × Int × (List Int)) (Int × (List Int))) :=
  (iter (F186_l2 F t1 s84) F s84.1).bind fun b108 =>
  (iter (F186_l3 F t1 s84 b108) F s84.2.1).bind fun b131 =>
  if (decide (b108 > b131)) then
  (some (.stop ((b131, s84.2.2))))
  else
  (at? s84.2.2 b131).bind fun x136 =>
  (at? s84.2.2 b108).bind fun x138 =>
  (ck s84.2.2 b108).bind fun u140 =>
  (ck ((s84.2.2.set ((Int.toNat b108)) x136)) b131).bind fun u144 =>
  some (.more (((wrapA .i64 (b108 + 1)), (wrapA .i64 (b131 - 1)), (((s84.2.2.set ((Int.toNat b108)) x136)).set ((Int.toNat b131)) x138))))
def F186 (F : Nat) (t0 : List Int) (t1 : Int) (t2 : Int) (t3 : Int) : Option (Int × Bool × (List Int)) :=
  (at? t0 t3).bind fun x1 =>
  (at? t0 t1).bind fun x3 =>
  (ck t0 t1).bind fun u5 =>
  (ck ((t0.set ((Int.toNat t1)) x1)) t3).bind fun u9 =>
  (iter (F186_l0 F t0 t1 t2 t3 x1 x3) F (wrapA .i64 (t1 + 1))).bind fun b32 =>
  (iter (F186_l1 F t0 t1 t3 x1 x3 b32) F (wrapA .i64 (t2 - 1))).bind fun b55 =>
  if (decide (b32 > b55)) then
  ((at? ((((t0.set ((Int.toNat t1)) x1)).set ((Int.toNat t3)) x3)) t1).bind fun x60 =>
  (at? ((((t0.set ((Int.toNat t1)) x1)).set ((Int.toNat t3)) x3)) b55).bind fun x62 =>
  (ck ((((t0.set ((Int.toNat t1)) x1)).set ((Int.toNat t3)) x3)) b55).bind fun u64 =>
  (ck ((((((t0.set ((Int.toNat t1)) x1)).set ((Int.toNat t3)) x3)).set ((Int.toNat b55)) x60)) t1).bind fun u68 =>
  some ((b55, true, (((((((t0.set ((Int.toNat t1)) x1)).set ((Int.toNat t3)) x3)).set ((Int.toNat b55)) x60)).set ((Int.toNat t1)) x62))))
  else
  (at? ((((t0.set ((Int.toNat t1)) x1)).set ((Int.toNat t3)) x3)) b55).bind fun x72 =>
  (at? ((((t0.set ((Int.toNat t1)) x1)).set ((Int.toNat t3)) x3)) b32).bind fun x74 =>
  (ck ((((t0.set ((Int.toNat t1)) x1)).set ((Int.toNat t3)) x3)) b32).bind fun u76 =>
  (ck ((((((t0.set ((Int.toNat t1)) x1)).set ((Int.toNat t3)) x3)).set ((Int.toNat b32)) x72)) b55).bind fun u80 =>
  (iter (F186_l4 F t1) F ((wrapA .i64 (b32 + 1)), (wrapA .i64 (b55 - 1)), (((((((t0.set ((Int.toNat t1)) x1)).set ((Int.toNat t3)) x3)).set ((Int.toNat b32)) x72)).set ((Int.toNat b55)) x74))).bind fun b148 =>
  (at? b148.2 t1).bind fun x152 =>
  (at? b148.2 b148.1).bind fun x154 =>
  (ck b148.2 b148.1).bind fun u156 =>
  (ck ((b148.2.set ((Int.toNat b148.1)) x152)) t1).bind fun u160 =>
  some ((b148.1, false, (((b148.2.set ((Int.toNat b148.1)) x152)).set ((Int.toNat t1)) x154)))
end Go.Proofs.Ytihmliblbhjlaaa
