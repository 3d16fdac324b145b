/- Functional texts of the functions: printed by a program of ours (gen.py). -/
import Derived.Test.YtdkmepeolmdccaaDenH
set_option linter.unusedVariables false
namespace Go.Proofs.Ytdkmepeolmdccaa
open Go.Am
abbrev Y3 : Lay Int := Lay.one (SV.int .i64)
abbrev Y23 : Lay Int := Lay.one (SV.int .u16)
abbrev Y26 : Lay (Int × Int) := Lay.flat 2 (fun a => [.int .i64 a.1, .int .i64 a.2]) fun _ => rfl
abbrev Y22 : Lay (List Int) := Lay.sl Y3
abbrev Y127 : Lay (Int × Int × Bool × Bool) := Lay.flat 4 (fun a => [.int .i64 a.1, .int .i64 a.2.1, .bool a.2.2.1, .bool a.2.2.2]) fun _ => rfl
abbrev Y131 : Lay (Int × Int × Int) := Lay.flat 3 (fun a => [.int .i64 a.1, .int .i64 a.2.1, .int .i64 a.2.2]) fun _ => rfl
abbrev Y129 : Lay ((Int × Int × Bool × Bool) × Int) := Lay.flat 5 (fun a => [.int .i64 a.1.1, .int .i64 a.1.2.1, .bool a.1.2.2.1, .bool a.1.2.2.2, .int .i64 a.2]) fun _ => rfl
abbrev Y146 : Lay (List Bool) := Lay.arr 10 SV.bool
abbrev Y5 : Lay Int := Lay.one (SV.int .u8)
abbrev Y92 : Lay (List (List Int)) := Lay.sl Y22
abbrev Y71 : Lay (List (Int × Int × Bool × Bool)) := Lay.sl Y127
abbrev Y172 : Lay Int := Lay.one (SV.int .u64)

def F19_l0 (F : Nat) (t0 : List Int) (s3 : Int) : Option (Stp (Int) (Unit ⊕ Int)) :=
  if (decide (s3 < (t0.length : Int))) then
  ((at? t0 s3).bind fun x11 =>
  if ((decide (x11 < 1)) || (decide (x11 > 100))) then
  (some (.stop ((.inr 1))))
  else
  some (.more ((wrapA .i64 (s3 + 1)))))
  else
  some (.stop ((.inl ())))
def F19_l1 (F : Nat) (t0 : List Int) (t1 : List Int) (s20 : Int) : Option (Stp (Int) (Unit ⊕ Int)) :=
  if (decide (s20 < (t1.length : Int))) then
  ((at? t1 s20).bind fun x28 =>
  (shr? .u16 x28 (t0.length : Int)).bind fun x30 =>
  if (x30 != 0) then
  (some (.stop ((.inr 3))))
  else
  some (.more ((wrapA .i64 (s20 + 1)))))
  else
  some (.stop ((.inl ())))
def F19 (F : Nat) (t0 : List Int) (t1 : List Int) : Option Int :=
  if ((decide ((t0.length : Int) < 1)) || (decide ((t0.length : Int) > 12))) then
  (some 2)
  else
  (iter (F19_l0 F t0) F 0).bind fun b15 =>
  match b15 with
  | .inl b17 => ((iter (F19_l1 F t0 t1) F 0).bind fun b33 =>
  match b33 with
  | .inl b35 => (some 0)
  | .inr b35 => (some b35))
  | .inr b17 => (some b17)

def F110_l0 (F : Nat) (t0 : List Int) (t1 : Int) (s1 : Int × Int) : Option (Stp (Int × Int) (Int)) :=
  if (decide (s1.2 < (t0.length : Int))) then
  ((at? t0 s1.2).bind fun x7 =>
  (shr? .u16 t1 s1.2).bind fun x9 =>
  if ((bit .and .u16 x9 1) == 1) then
  (some (.more (((wrapA .i64 (s1.1 + x7)), (wrapA .i64 (s1.2 + 1))))))
  else
  some (.more ((s1.1, (wrapA .i64 (s1.2 + 1))))))
  else
  some (.stop s1.1)
def F110 (F : Nat) (t0 : List Int) (t1 : Int) : Option Int :=
  (iter (F110_l0 F t0 t1) F (0, 0)).bind fun b12 =>
  some b12

def F169_l0 (F : Nat)  (s1 : Int × Int) : Option (Stp (Int × Int) (Int)) :=
  if (decide (s1.2 > 0)) then
  ((rem? s1.1 s1.2).bind fun x7 =>
  some (.more ((s1.2, x7))))
  else
  some (.stop s1.1)
def F169 (F : Nat) (t0 : Int) (t1 : Int) : Option Int :=
  (iter (F169_l0 F) F ((maxI t0 (wrapA .i64 (0 - t0))), t1)).bind fun b9 =>
  some b9

def F160 (F : Nat) (t0 : Int) (t1 : Int) : Option ((Int × Int) × Int) :=
  (F169 F t0 t1).bind fun r5 =>
  (quo? .i64 t0 r5).bind fun x9 =>
  (quo? .i64 t1 r5).bind fun x11 =>
  if (((decide (((x9, x11)).2 > 1000000000)) || (decide (((x9, x11)).1 < (-1000000000)))) || (decide (((x9, x11)).1 > 1000000000))) then
  (some (((((0, 0)).1, ((0, 0)).2), 2)))
  else
  some (((((((x9, x11)).1, ((x9, x11)).2)).1, ((((x9, x11)).1, ((x9, x11)).2)).2), 0))

def F109 (F : Nat) (t0 : Int) (t1 : Int) : Option ((Int × Int) × Int) :=
  if ((((decide (t0 < (-1000000000))) || (decide (t0 > 1000000000))) || (decide (t1 < (-1000000000)))) || (decide (t1 > 1000000000))) then
  (some (((((0, 0)).1, ((0, 0)).2), 1)))
  else
  if (t1 == 0) then
  (some (((((0, 0)).1, ((0, 0)).2), 5)))
  else
  if (decide (t1 < 0)) then
  ((F160 F ((wrapA .i64 (0 - t0))) ((wrapA .i64 (0 - t1)))).bind fun r15 =>
  some (((((r15.1.1, r15.1.2)).1, ((r15.1.1, r15.1.2)).2), r15.2)))
  else
  (F160 F t0 t1).bind fun r21 =>
  some (((((r21.1.1, r21.1.2)).1, ((r21.1.1, r21.1.2)).2), r21.2))

def F15 (F : Nat) (t0 : List Int) (t1 : Int) : Option ((Int × Int) × Int) :=
  (F19 F t0 ([t1])).bind fun r9 =>
  if (r9 != 0) then
  (some (((((0, 0)).1, ((0, 0)).2), r9)))
  else
  (F110 F t0 t1).bind fun r16 =>
  (shl? .u16 1 (t0.length : Int)).bind fun x20 =>
  (F110 F t0 ((wrapA .u16 (x20 - 1)))).bind fun r22 =>
  (F109 F r16 r22).bind fun r26 =>
  some (((((r26.1.1, r26.1.2)).1, ((r26.1.1, r26.1.2)).2), r26.2))

def F16 (F : Nat) (t0 : List Int) (t1 : Int) (t2 : Int) : Option ((Int × Int) × Int) :=
  (F19 F t0 ([t1, t2])).bind fun r9 =>
  if (r9 != 0) then
  (some (((((0, 0)).1, ((0, 0)).2), r9)))
  else
  if (t2 == 0) then
  (some (((((0, 0)).1, ((0, 0)).2), 5)))
  else
  (F110 F t0 ((bit .and .u16 t1 t2))).bind fun r19 =>
  (F110 F t0 t2).bind fun r23 =>
  (F109 F r19 r23).bind fun r27 =>
  some (((((r27.1.1, r27.1.2)).1, ((r27.1.1, r27.1.2)).2), r27.2))

def F17 (F : Nat) (t0 : List Int) (t1 : Int) (t2 : Int) : Option (Bool × Int) :=
  (F19 F t0 ([t1, t2])).bind fun r5 =>
  if (r5 != 0) then
  (some ((false, r5)))
  else
  (F110 F t0 ((bit .and .u16 t1 t2))).bind fun r10 =>
  (shl? .u16 1 (t0.length : Int)).bind fun x14 =>
  (F110 F t0 ((wrapA .u16 (x14 - 1)))).bind fun r16 =>
  (F110 F t0 t1).bind fun r20 =>
  (F110 F t0 t2).bind fun r24 =>
  some ((((wrapA .i64 (r10 * r16)) == (wrapA .i64 (r20 * r24))), 0))

def F18_l0 (F : Nat) (t1 : List Int) (s15 : Int × Int) (s21 : Int × Int) : Option (Stp (Int × Int) (Int)) :=
  if (decide (s21.2 < (t1.length : Int))) then
  ((at? t1 s21.2).bind fun x27 =>
  (shr? .u16 x27 s15.2).bind fun x29 =>
  some (.more (((wrapA .i64 (s21.1 + (wrapA .i64 (bit .and .u16 x29 1)))), (wrapA .i64 (s21.2 + 1))))))
  else
  some (.stop s21.1)
def F18_l1 (F : Nat) (t0 : List Int) (t1 : List Int) (t2 : Int) (s15 : Int × Int) : Option (Stp (Int × Int) (Int)) :=
  if (decide (s15.2 < (t0.length : Int))) then
  ((iter (F18_l0 F t1 s15) F (0, 0)).bind fun b31 =>
  if (decide (b31 ≥ t2)) then
  ((shl? .u16 1 s15.2).bind fun x36 =>
  some (.more (((bit .or .u16 s15.1 x36), (wrapA .i64 (s15.2 + 1))))))
  else
  some (.more ((s15.1, (wrapA .i64 (s15.2 + 1))))))
  else
  some (.stop s15.1)
def F18 (F : Nat) (t0 : List Int) (t1 : List Int) (t2 : Int) : Option ((Int × Int) × Int) :=
  (F19 F t0 t1).bind fun r5 =>
  if (r5 != 0) then
  (some (((((0, 0)).1, ((0, 0)).2), r5)))
  else
  if (decide ((t1.length : Int) > 12)) then
  (some (((((0, 0)).1, ((0, 0)).2), 2)))
  else
  (iter (F18_l1 F t0 t1 t2) F (0, 0)).bind fun b38 =>
  (F15 F t0 b38).bind fun r42 =>
  some (((((r42.1.1, r42.1.2)).1, ((r42.1.1, r42.1.2)).2), r42.2))

def F111 (F : Nat) (t0 : Int) : Option Bool :=
  some (((decide (t0 < 1)) || (decide (t0 > 100))))

def F155_111_l0 (F : Nat) (t0 : List Int) (s1 : Int) : Option (Stp (Int) (Unit ⊕ Int)) :=
  if (decide (s1 < (t0.length : Int))) then
  ((at? t0 s1).bind fun x9 =>
  (F111 F x9).bind fun r11 =>
  if r11 then
  (some (.stop ((.inr s1))))
  else
  some (.more ((wrapA .i64 (s1 + 1)))))
  else
  some (.stop ((.inl ())))
def F155_111 (F : Nat) (t0 : List Int) : Option Int :=
  (iter (F155_111_l0 F t0) F 0).bind fun b16 =>
  match b16 with
  | .inl b18 => (some ((-1)))
  | .inr b18 => (some b18)

def F96_111 (F : Nat) (t0 : List Int) : Option Bool :=
  (F155_111 F t0).bind fun r1 =>
  some ((decide (r1 ≥ 0)))

def F113 (F : Nat) (t0 : Int) (c0 : List Int) : Option Bool :=
  (shl? .i64 1 (c0.length : Int)).bind fun x3 =>
  some ((decide ((wrapA .i64 t0) ≥ x3)))

def F161_113_l0 (F : Nat) (t0 : List Int) (t1c0 : List Int) (s1 : Int) : Option (Stp (Int) (Unit ⊕ Int)) :=
  if (decide (s1 < (t0.length : Int))) then
  ((at? t0 s1).bind fun x9 =>
  (F113 F x9 t1c0).bind fun r11 =>
  if r11 then
  (some (.stop ((.inr s1))))
  else
  some (.more ((wrapA .i64 (s1 + 1)))))
  else
  some (.stop ((.inl ())))
def F161_113 (F : Nat) (t0 : List Int) (t1c0 : List Int) : Option Int :=
  (iter (F161_113_l0 F t0 t1c0) F 0).bind fun b16 =>
  match b16 with
  | .inl b18 => (some ((-1)))
  | .inr b18 => (some b18)

def F112_113 (F : Nat) (t0 : List Int) (t1c0 : List Int) : Option Bool :=
  (F161_113 F t0 t1c0).bind fun r1 =>
  some ((decide (r1 ≥ 0)))

def F20 (F : Nat) (t0 : List Int) (t1 : List Int) : Option Int :=
  if (((t0.length : Int) == 0) || (decide ((t0.length : Int) > 12))) then
  (some 2)
  else
  (F96_111 F t0).bind fun r13 =>
  if r13 then
  (some 1)
  else
  (F112_113 F t1 t0).bind fun r19 =>
  if r19 then
  (some 3)
  else
  some 0

def F22_l0 (F : Nat) (t0 : List Int) (t1 : Int) (s1 : Int × Int) : Option (Stp (Int × Int) (Int)) :=
  if (decide (s1.2 < (t0.length : Int))) then
  ((at? t0 s1.2).bind fun x7 =>
  (shr? .u16 t1 s1.2).bind fun x9 =>
  some (.more (((wrapA .i64 (s1.1 + (wrapA .i64 (x7 * (wrapA .i64 (bit .and .u16 x9 1)))))), (wrapA .i64 (s1.2 + 1))))))
  else
  some (.stop s1.1)
def F22 (F : Nat) (t0 : List Int) (t1 : Int) : Option Int :=
  (iter (F22_l0 F t0 t1) F (0, 0)).bind fun b11 =>
  some b11

def F127 : Nat → Int → Int → Option Int
  | 0, _, _ => none
  | F + 1, t0, t1 =>
  let frec := F127 F
  if ((maxI t1 (wrapA .i64 (0 - t1))) == 0) then
  (some ((maxI t0 (wrapA .i64 (0 - t0)))))
  else
  (rem? (maxI t0 (wrapA .i64 (0 - t0))) (maxI t1 (wrapA .i64 (0 - t1)))).bind fun x2 =>
  (frec ((maxI t1 (wrapA .i64 (0 - t1)))) x2).bind fun r4 =>
  some r4

def F114 (F : Nat) (t0 : Int) (t1 : Int) : Option ((Int × Int) × Int) :=
  (F127 F t0 t1).bind fun r5 =>
  (show Option (Int) from (if (decide (t1 < 0)) then
  (some ((wrapA .i64 (0 - r5))))
  else
  some r5)).bind fun b10 =>
  (quo? .i64 t0 b10).bind fun x15 =>
  (quo? .i64 t1 b10).bind fun x17 =>
  if ((decide (x17 > 1000000000)) || (decide ((maxI x15 (wrapA .i64 (0 - x15))) > 1000000000))) then
  (some (((((0, 0)).1, ((0, 0)).2), 2)))
  else
  some (((((x15, x17)).1, ((x15, x17)).2), 0))

def F21 (F : Nat) (t0 : Int) (t1 : Int) : Option ((Int × Int)) :=
  (F114 F t0 t1).bind fun r5 =>
  some ((((((r5.1.1, r5.1.2)).1, ((r5.1.1, r5.1.2)).2)).1, ((((r5.1.1, r5.1.2)).1, ((r5.1.1, r5.1.2)).2)).2))

def F3_l0 (F : Nat) (t0 : List Int) (s44 : Int × Int) : Option (Stp (Int × Int) (Int)) :=
  if (decide (s44.2 < (t0.length : Int))) then
  ((at? t0 s44.2).bind fun x50 =>
  some (.more (((wrapA .i64 (s44.1 + x50)), (wrapA .i64 (s44.2 + 1))))))
  else
  some (.stop s44.1)
def F3_l1 (F : Nat) (t3 : List Int) (s161 : Int × Int) (s169 : Int × Int) : Option (Stp (Int × Int) (Int)) :=
  if (decide (s169.2 < (t3.length : Int))) then
  ((at? t3 s169.2).bind fun x175 =>
  (shr? .u16 x175 s161.2).bind fun x177 =>
  some (.more (((wrapA .i64 (s169.1 + (wrapA .i64 (bit .and .u16 x177 1)))), (wrapA .i64 (s169.2 + 1))))))
  else
  some (.stop s169.1)
def F3_l2 (F : Nat) (t0 : List Int) (t3 : List Int) (t4 : Int) (s161 : Int × Int) : Option (Stp (Int × Int) (Int)) :=
  if (decide (s161.2 < (t0.length : Int))) then
  ((at? t0 s161.2).bind fun x167 =>
  (iter (F3_l1 F t3 s161) F (0, 0)).bind fun b179 =>
  if (decide (b179 ≥ t4)) then
  (some (.more (((wrapA .i64 (s161.1 + x167)), (wrapA .i64 (s161.2 + 1))))))
  else
  some (.more ((s161.1, (wrapA .i64 (s161.2 + 1))))))
  else
  some (.stop s161.1)
def F3 (F : Nat) (t0 : List Int) (t1 : Int) (t2 : Int) (t3 : List Int) (t4 : Int) : Option Bool :=
  (F15 F t0 t1).bind fun r1 =>
  (F16 F t0 t1 t2).bind fun r11 =>
  (F17 F t0 t1 t2).bind fun r21 =>
  (F18 F t0 t3 t4).bind fun r25 =>
  (F19 F t0 t3).bind fun r35 =>
  (F20 F t0 t3).bind fun r39 =>
  if (r35 != r39) then
  (some false)
  else
  (iter (F3_l0 F t0) F (0, 0)).bind fun b52 =>
  (F20 F t0 ([t1])).bind fun r60 =>
  (if ((r1.2 != r60) || ((r60 != 0) && (!(((r1.1.1, r1.1.2)).1 == 0 && (((r1.1.1, r1.1.2)).2 == 0 && true))))) then some true else 
  ((if (r60 == 0) then 
  ((F22 F t0 t1).bind fun r66 =>
  (F21 F r66 b52).bind fun r70 =>
  some (!(((r1.1.1, r1.1.2)).1 == r70.1 && (((r1.1.1, r1.1.2)).2 == r70.2 && true))))
   else some false).bind fun y75 =>
  some y75)
  ).bind fun y80 =>
  if y80 then
  (some false)
  else
  (F20 F t0 ([t1, t2])).bind fun r89 =>
  (if (r21.2 != r89) then some true else 
  ((if (r89 == 0) then 
  ((F22 F t0 ((bit .and .u16 t1 t2))).bind fun r93 =>
  (F22 F t0 t1).bind fun r97 =>
  (F22 F t0 t2).bind fun r101 =>
  some ((wrapA .i64 (r93 * b52)) == (wrapA .i64 (r97 * r101))))
   else some false).bind fun y106 =>
  some (!(r21.1 == y106)))
  ).bind fun y111 =>
  if y111 then
  (some false)
  else
  (show Option (Int) from (if ((r89 == 0) && (t2 == 0)) then
  (some 5)
  else
  some r89)).bind fun b118 =>
  (if ((r11.2 != b118) || ((b118 != 0) && (!(((r11.1.1, r11.1.2)).1 == 0 && (((r11.1.1, r11.1.2)).2 == 0 && true))))) then some true else 
  ((if (b118 == 0) then 
  ((F22 F t0 ((bit .and .u16 t1 t2))).bind fun r125 =>
  (F22 F t0 t2).bind fun r129 =>
  (F21 F r125 r129).bind fun r133 =>
  some (!(((r11.1.1, r11.1.2)).1 == r133.1 && (((r11.1.1, r11.1.2)).2 == r133.2 && true))))
   else some false).bind fun y138 =>
  some y138)
  ).bind fun y143 =>
  if y143 then
  (some false)
  else
  (F20 F t0 t3).bind fun r148 =>
  (show Option (Int) from (if ((r148 == 0) && (decide ((t3.length : Int) > 12))) then
  (some 2)
  else
  some r148)).bind fun b154 =>
  if (b154 != 0) then
  (some (((r25.2 == b154) && (((r25.1.1, r25.1.2)).1 == 0 && (((r25.1.1, r25.1.2)).2 == 0 && true)))))
  else
  (iter (F3_l2 F t0 t3 t4) F (0, 0)).bind fun b184 =>
  (if (r25.2 == 0) then 
  ((F21 F b184 b52).bind fun r188 =>
  some (((r25.1.1, r25.1.2)).1 == r188.1 && (((r25.1.1, r25.1.2)).2 == r188.2 && true)))
   else some false).bind fun y193 =>
  some y193

def F28_l0 (F : Nat) (t0 : List Int) (s2 : Int) : Option (Stp (Int) (Unit ⊕ Int)) :=
  if (decide (s2 < (t0.length : Int))) then
  ((at? t0 s2).bind fun x10 =>
  if ((decide (x10 < 0)) || (decide (x10 > 100))) then
  (some (.stop ((.inr 1))))
  else
  some (.more ((wrapA .i64 (s2 + 1)))))
  else
  some (.stop ((.inl ())))
def F28 (F : Nat) (t0 : List Int) : Option Int :=
  if (decide ((t0.length : Int) > 8)) then
  (some 2)
  else
  (iter (F28_l0 F t0) F 0).bind fun b14 =>
  match b14 with
  | .inl b16 => (some 0)
  | .inr b16 => (some b16)

def F23_l0 (F : Nat) (t0 : List Int) (s6 : Int × Int) : Option (Stp (Int × Int) (Int)) :=
  if (decide (s6.2 < (t0.length : Int))) then
  ((at? t0 s6.2).bind fun x12 =>
  some (.more (((wrapA .i64 (s6.1 + x12)), (wrapA .i64 (s6.2 + 1))))))
  else
  some (.stop s6.1)
def F23 (F : Nat) (t0 : List Int) : Option (Int × Int) :=
  (F28 F t0).bind fun r1 =>
  if (r1 != 0) then
  (some ((0, r1)))
  else
  (iter (F23_l0 F t0) F (0, 0)).bind fun b14 =>
  some ((b14, 0))

def F24_l0 (F : Nat) (t0 : List Int) (s9 : Int × Int) : Option (Stp (Int × Int) (Int)) :=
  (at? t0 s9.2).bind fun x14 =>
  if (decide (s9.1 ≥ x14)) then
  ((at? t0 s9.2).bind fun x17 =>
  some (.more (((wrapA .i64 (s9.1 - x17)), (wrapA .i64 (s9.2 + 1))))))
  else
  some (.stop s9.2)
def F24 (F : Nat) (t0 : List Int) (t1 : Int) : Option (Int × Int) :=
  (F23 F t0).bind fun r1 =>
  if (r1.2 != 0) then
  (some ((0, r1.2)))
  else
  if (r1.1 == 0) then
  (some ((0, 4)))
  else
  if ((decide (t1 < 0)) || (decide (t1 ≥ r1.1))) then
  (some ((0, 1)))
  else
  (iter (F24_l0 F t0) F (t1, 0)).bind fun b19 =>
  some ((b19, 0))

def F25 (F : Nat) (t0 : List Int) (t1 : Int) (t2 : Int) (t3 : Int) : Option ((List Int) × Int) :=
  (F28 F t0).bind fun r1 =>
  if (r1 != 0) then
  (some (([], r1)))
  else
  if (((((decide (t1 < 0)) || (decide (t1 ≥ (t0.length : Int)))) || (decide (t2 < 0))) || (decide (t2 ≥ (t0.length : Int)))) || (decide (t3 < 0))) then
  (some (([], 1)))
  else
  (at? t0 t1).bind fun x11 =>
  if (decide (t3 > x11)) then
  (some (([], 4)))
  else
  (app? ([]) t0).bind fun L18 =>
  (at? L18 t1).bind fun x24 =>
  (ck L18 t1).bind fun u26 =>
  (at? ((L18.set ((Int.toNat t1)) ((wrapA .i64 (x24 - t3))))) t2).bind fun x30 =>
  (ck ((L18.set ((Int.toNat t1)) ((wrapA .i64 (x24 - t3))))) t2).bind fun u32 =>
  (at? ((((L18.set ((Int.toNat t1)) ((wrapA .i64 (x24 - t3))))).set ((Int.toNat t2)) ((wrapA .i64 (x30 + t3))))) t2).bind fun x36 =>
  if (decide (x36 > 100)) then
  (some (([], 9)))
  else
  some (((((L18.set ((Int.toNat t1)) ((wrapA .i64 (x24 - t3))))).set ((Int.toNat t2)) ((wrapA .i64 (x30 + t3)))), 0))

def F26_l0 (F : Nat) (t0 : List Int) (t1 : List Int) (s13 : Int × (List Int)) : Option (Stp (Int × (List Int)) ((List Int) ⊕ ((List Int) × Int))) :=
  if (decide (s13.1 < (t1.length : Int))) then
  ((at? t1 s13.1).bind fun x22 =>
  (F24 F t0 x22).bind fun r24 =>
  if (r24.2 != 0) then
  (some (.stop ((.inr ([], r24.2)))))
  else
  (at? s13.2 r24.1).bind fun x29 =>
  (ck s13.2 r24.1).bind fun u31 =>
  some (.more (((wrapA .i64 (s13.1 + 1)), (s13.2.set ((Int.toNat r24.1)) ((wrapA .i64 (x29 + 1))))))))
  else
  some (.stop ((.inl s13.2)))
def F26 (F : Nat) (t0 : List Int) (t1 : List Int) : Option ((List Int) × Int) :=
  (F28 F t0).bind fun r1 =>
  if (r1 != 0) then
  (some (([], r1)))
  else
  if (decide ((t1.length : Int) > 200)) then
  (some (([], 2)))
  else
  (mk? (t0.length : Int) (0 : Int)).bind fun L7 =>
  (iter (F26_l0 F t0 t1) F (0, L7)).bind fun b35 =>
  match b35 with
  | .inl b37 => (some ((b37, 0)))
  | .inr b37 => (some ((b37.1, b37.2)))

def F115 (F : Nat) (t0 : Int) : Option Bool :=
  some (((decide (t0 < 0)) || (decide (t0 > 100))))

def F155_115_l0 (F : Nat) (t0 : List Int) (s1 : Int) : Option (Stp (Int) (Unit ⊕ Int)) :=
  if (decide (s1 < (t0.length : Int))) then
  ((at? t0 s1).bind fun x9 =>
  (F115 F x9).bind fun r11 =>
  if r11 then
  (some (.stop ((.inr s1))))
  else
  some (.more ((wrapA .i64 (s1 + 1)))))
  else
  some (.stop ((.inl ())))
def F155_115 (F : Nat) (t0 : List Int) : Option Int :=
  (iter (F155_115_l0 F t0) F 0).bind fun b16 =>
  match b16 with
  | .inl b18 => (some ((-1)))
  | .inr b18 => (some b18)

def F96_115 (F : Nat) (t0 : List Int) : Option Bool :=
  (F155_115 F t0).bind fun r1 =>
  some ((decide (r1 ≥ 0)))

def F27 (F : Nat) (t0 : List Int) : Option Int :=
  if (decide ((t0.length : Int) > 8)) then
  (some 2)
  else
  (F96_115 F t0).bind fun r2 =>
  if r2 then
  (some 1)
  else
  some 0

def F29_l0 (F : Nat) (s1 : (List Int) × Int) (x11 : Int) (s13 : (List Int) × Int) : Option (Stp ((List Int) × Int) ((List Int))) :=
  if (decide (s13.2 < x11)) then
  ((app? s13.1 ([s1.2])).bind fun L27 =>
  some (.more ((L27, (wrapA .i64 (s13.2 + 1))))))
  else
  some (.stop s13.1)
def F29_l1 (F : Nat) (t0 : List Int) (s1 : (List Int) × Int) : Option (Stp ((List Int) × Int) ((List Int))) :=
  if (decide (s1.2 < (t0.length : Int))) then
  ((at? t0 s1.2).bind fun x11 =>
  (iter (F29_l0 F s1 x11) F (s1.1, 0)).bind fun b33 =>
  some (.more ((b33, (wrapA .i64 (s1.2 + 1))))))
  else
  some (.stop s1.1)
def F29 (F : Nat) (t0 : List Int) (t1 : Int) : Option (Int × Int) :=
  (iter (F29_l1 F t0) F ([], 0)).bind fun b38 =>
  if ((b38.length : Int) == 0) then
  (some ((0, 4)))
  else
  if ((decide (t1 < 0)) || (decide (t1 ≥ (b38.length : Int)))) then
  (some ((0, 1)))
  else
  (at? b38 t1).bind fun x46 =>
  some ((x46, 0))

def F30 (F : Nat) (t0 : (List Int)) : Option ((List Int)) := if t0.length ≤ 549755813888 then some t0 else none

def F31_l0 (F : Nat) (t0 : List Int) (t1 : List Int) (s2 : Int) : Option (Stp (Int) (Unit ⊕ Bool)) :=
  if (decide (s2 < (t0.length : Int))) then
  ((at? t0 s2).bind fun x10 =>
  (at? t1 s2).bind fun x12 =>
  if (x10 != x12) then
  (some (.stop ((.inr false))))
  else
  some (.more ((wrapA .i64 (s2 + 1)))))
  else
  some (.stop ((.inl ())))
def F31 (F : Nat) (t0 : List Int) (t1 : List Int) : Option Bool :=
  if ((t0.length : Int) != (t1.length : Int)) then
  (some false)
  else
  (iter (F31_l0 F t0 t1) F 0).bind fun b15 =>
  match b15 with
  | .inl b17 => (some true)
  | .inr b17 => (some b17)

def F32 (F : Nat) (t0 : List Int) (t1 : List Int) : Option Bool :=
  (F31 F t0 t1).bind fun r1 =>
  some r1

def F4_l0 (F : Nat) (t0 : List Int) (s37 : Int × Int) : Option (Stp (Int × Int) (Int)) :=
  if (decide (s37.2 < (t0.length : Int))) then
  ((at? t0 s37.2).bind fun x43 =>
  some (.more (((wrapA .i64 (s37.1 + x43)), (wrapA .i64 (s37.2 + 1))))))
  else
  some (.stop s37.1)
def F4_l1 (F : Nat) (t0 : List Int) (t5 : List Int) (r15 : (List Int) × Int) (s119 : Int × (List Int)) : Option (Stp (Int × (List Int)) ((List Int) ⊕ Bool)) :=
  if (decide (s119.1 < (t5.length : Int))) then
  ((at? t5 s119.1).bind fun x127 =>
  (F29 F t0 x127).bind fun r129 =>
  if (r129.2 != 0) then
  (some (.stop ((.inr ((r15.2 == r129.2) && ((r15.1.length : Int) == 0))))))
  else
  (at? s119.2 r129.1).bind fun x135 =>
  (ck s119.2 r129.1).bind fun u137 =>
  some (.more (((wrapA .i64 (s119.1 + 1)), (s119.2.set ((Int.toNat r129.1)) ((wrapA .i64 (x135 + 1))))))))
  else
  some (.stop ((.inl s119.2)))
def F4 (F : Nat) (t0 : List Int) (t1 : Int) (t2 : Int) (t3 : Int) (t4 : Int) (t5 : List Int) : Option Bool :=
  (F23 F t0).bind fun r1 =>
  (F24 F t0 t1).bind fun r5 =>
  (F25 F t0 t2 t3 t4).bind fun r9 =>
  (F26 F t0 t5).bind fun r15 =>
  (F27 F t0).bind fun r21 =>
  (F28 F t0).bind fun r25 =>
  if (r25 != r21) then
  (some false)
  else
  if (r21 != 0) then
  (some ((((((((r1.2 == r21) && (r5.2 == r21)) && (r9.2 == r21)) && (r15.2 == r21)) && (r1.1 == 0)) && (r5.1 == 0)) && ((wrapA .i64 ((r9.1.length : Int) + (r15.1.length : Int))) == 0))))
  else
  (iter (F4_l0 F t0) F (0, 0)).bind fun b45 =>
  (F29 F t0 t1).bind fun r49 =>
  if ((((r1.2 != 0) || (r1.1 != b45)) || (r5.2 != r49.2)) || (r5.1 != r49.1)) then
  (some false)
  else
  (show Option (Int) from (if (((((decide (t2 < 0)) || (decide (t2 ≥ (t0.length : Int)))) || (decide (t3 < 0))) || (decide (t3 ≥ (t0.length : Int)))) || (decide (t4 < 0))) then
  (some 1)
  else
  (at? t0 t2).bind fun x62 =>
  if (decide (t4 > x62)) then
  (some 4)
  else
  (if (t2 != t3) then 
  ((at? t0 t3).bind fun x65 =>
  some (decide ((wrapA .i64 (x65 + t4)) > 100)))
   else some false).bind fun y68 =>
  if y68 then
  (some 9)
  else
  some r21)).bind fun b71 =>
  if ((r9.2 != b71) || ((b71 != 0) && (decide ((r9.1.length : Int) > 0)))) then
  (some false)
  else
  (show Option (Unit ⊕ Bool) from (if (b71 == 0) then
  ((F30 F t0).bind fun r80 =>
  (at? r80 t2).bind fun x86 =>
  (ck r80 t2).bind fun u88 =>
  (at? ((r80.set ((Int.toNat t2)) ((wrapA .i64 (x86 - t4))))) t3).bind fun x92 =>
  (ck ((r80.set ((Int.toNat t2)) ((wrapA .i64 (x86 - t4))))) t3).bind fun u94 =>
  (F31 F r9.1 ((((r80.set ((Int.toNat t2)) ((wrapA .i64 (x86 - t4))))).set ((Int.toNat t3)) ((wrapA .i64 (x92 + t4)))))).bind fun r98 =>
  if (!r98) then
  (some ((.inr false)))
  else
  some ((.inl ())))
  else
  some ((.inl ())))).bind fun b103 =>
  match b103 with
  | .inl b108 => (if (decide ((t5.length : Int) > 200)) then
  (some (((r15.2 == 2) && ((r15.1.length : Int) == 0))))
  else
  (mk? (t0.length : Int) (0 : Int)).bind fun L113 =>
  (iter (F4_l1 F t0 t5 r15) F (0, L113)).bind fun b141 =>
  match b141 with
  | .inl b143 => ((if (r15.2 == 0) then 
  ((F32 F r15.1 b143).bind fun r146 =>
  some r146)
   else some false).bind fun y151 =>
  some y151)
  | .inr b143 => (some b143))
  | .inr b108 => (some b108)

def F33_l0 (F : Nat)  (s21 : Int × (List Int)) : Option (Stp (Int × (List Int)) ((List Int))) :=
  if (decide (s21.1 > 0)) then
  ((at? s21.2 s21.1).bind fun x27 =>
  (at? s21.2 (wrapA .i64 (s21.1 - 1))).bind fun x29 =>
  (ck s21.2 s21.1).bind fun u31 =>
  some (.more (((wrapA .i64 (s21.1 - 1)), (s21.2.set ((Int.toNat s21.1)) ((wrapA .i64 ((wrapA .i64 (s21.1 * x27)) + x29))))))))
  else
  some (.stop s21.2)
def F33_l1 (F : Nat) (t0 : Int) (t1 : Int) (s15 : Int × (List Int)) : Option (Stp (Int × (List Int)) ((List Int))) :=
  if (decide (s15.1 < t0)) then
  ((iter (F33_l0 F) F (t1, s15.2)).bind fun b35 =>
  (ck b35 0).bind fun u39 =>
  some (.more (((wrapA .i64 (s15.1 + 1)), (b35.set ((Int.toNat 0)) 0)))))
  else
  some (.stop s15.2)
def F33 (F : Nat) (t0 : Int) (t1 : Int) : Option (Int × Int) :=
  if ((((decide (t0 < 0)) || (decide (t0 > 10))) || (decide (t1 < 0))) || (decide (t1 > 10))) then
  (some ((0, 1)))
  else
  (mk? (wrapA .i64 (t1 + 1)) (0 : Int)).bind fun L5 =>
  (ck L5 0).bind fun u11 =>
  (iter (F33_l1 F t0 t1) F (0, (L5.set ((Int.toNat 0)) 1))).bind fun b43 =>
  (at? b43 t1).bind fun x47 =>
  some ((x47, 0))

def F34_l0 (F : Nat) (t0 : Int) (s1 : Int × Int) : Option (Stp (Int × Int) (Int ⊕ (Int × Int))) :=
  if (decide (s1.2 < 11)) then
  ((F33 F t0 s1.2).bind fun r9 =>
  if (r9.2 != 0) then
  (some (.stop ((.inr (0, r9.2)))))
  else
  some (.more (((wrapA .i64 (s1.1 + r9.1)), (wrapA .i64 (s1.2 + 1))))))
  else
  some (.stop ((.inl s1.1)))
def F34 (F : Nat) (t0 : Int) : Option (Int × Int) :=
  (iter (F34_l0 F t0) F (0, 0)).bind fun b14 =>
  match b14 with
  | .inl b16 => (some ((b16, 0)))
  | .inr b16 => (some ((b16.1, b16.2)))

def F40_l0 (F : Nat) (t0 : List Int) (s2 : Int × Int) : Option (Stp (Int × Int) (Unit ⊕ Int)) :=
  if (decide (s2.2 < (t0.length : Int))) then
  ((at? t0 s2.2).bind fun x10 =>
  if ((decide (x10 < 0)) || (decide (x10 > (wrapA .i64 (s2.1 + 1))))) then
  (some (.stop ((.inr 3))))
  else
  some (.more (((maxI s2.1 x10), (wrapA .i64 (s2.2 + 1))))))
  else
  some (.stop ((.inl ())))
def F40 (F : Nat) (t0 : List Int) : Option Int :=
  if (decide ((t0.length : Int) > 10)) then
  (some 2)
  else
  (iter (F40_l0 F t0) F ((-1), 0)).bind fun b14 =>
  match b14 with
  | .inl b16 => (some 0)
  | .inr b16 => (some b16)

def F95_l0 (F : Nat) (t0 : List Int) (s9 : Int × Int) : Option (Stp (Int × Int) (Int)) :=
  if (decide (s9.2 < (t0.length : Int))) then
  ((at? t0 s9.2).bind fun x15 =>
  some (.more (((maxI s9.1 x15), (wrapA .i64 (s9.2 + 1))))))
  else
  some (.stop s9.1)
def F95 (F : Nat) (t0 : List Int) : Option Int :=
  (show Option (Unit) from (if (decide ((t0.length : Int) < 1)) then
  (none)
  else
  some (()))).bind fun b2 =>
  (at? t0 0).bind fun x7 =>
  (iter (F95_l0 F t0) F (x7, 1)).bind fun b17 =>
  some b17

def F35_l0 (F : Nat) (t0 : List Int) (s6 : Int) : Option (Stp (Int) (Unit ⊕ ((List Int) × Int))) :=
  if (decide (s6 > 0)) then
  ((at? t0 s6).bind fun x15 =>
  (sub? t0 0 s6).bind fun L17 =>
  (F95 F L17).bind fun r21 =>
  if (decide (x15 ≤ r21)) then
  ((mk? (t0.length : Int) (0 : Int)).bind fun L26 =>
  (sub? t0 0 s6).bind fun L32 =>
  (at? t0 s6).bind fun x38 =>
  (ck ((cpy L26 L32)) s6).bind fun u40 =>
  some (.stop ((.inr ((((cpy L26 L32)).set ((Int.toNat s6)) ((wrapA .i64 (x38 + 1)))), 0)))))
  else
  some (.more ((wrapA .i64 (s6 - 1)))))
  else
  some (.stop ((.inl ())))
def F35 (F : Nat) (t0 : List Int) : Option ((List Int) × Int) :=
  (F40 F t0).bind fun r1 =>
  if (r1 != 0) then
  (some (([], r1)))
  else
  (iter (F35_l0 F t0) F (wrapA .i64 ((t0.length : Int) - 1))).bind fun b44 =>
  match b44 with
  | .inl b46 => (some (([], 4)))
  | .inr b46 => (some ((b46.1, b46.2)))

def F116_l0 (F : Nat) (t0 : List Int) (t1 : Int) (s1 : Int) : Option (Stp (Int) (Unit ⊕ Int)) :=
  if (decide (s1 < (t0.length : Int))) then
  ((at? t0 s1).bind fun x9 =>
  if (t1 == x9) then
  (some (.stop ((.inr s1))))
  else
  some (.more ((wrapA .i64 (s1 + 1)))))
  else
  some (.stop ((.inl ())))
def F116 (F : Nat) (t0 : List Int) (t1 : Int) : Option Int :=
  (iter (F116_l0 F t0 t1) F 0).bind fun b12 =>
  match b12 with
  | .inl b14 => (some ((-1)))
  | .inr b14 => (some b14)

def F36_l0 (F : Nat) (t0 : List Int) (s2 : (List Int) × (List Int) × Int) : Option (Stp ((List Int) × (List Int) × Int) ((List Int))) :=
  if (decide (s2.2.2 < (t0.length : Int))) then
  ((at? t0 s2.2.2).bind fun x15 =>
  (F116 F s2.1 x15).bind fun r17 =>
  if (decide (r17 < 0)) then
  ((app? s2.1 ([x15])).bind fun L26 =>
  (app? s2.2.1 ([(s2.1.length : Int)])).bind fun L36 =>
  some (.more ((L26, L36, (wrapA .i64 (s2.2.2 + 1))))))
  else
  (app? s2.2.1 ([r17])).bind fun L46 =>
  some (.more ((s2.1, L46, (wrapA .i64 (s2.2.2 + 1))))))
  else
  some (.stop s2.2.1)
def F36 (F : Nat) (t0 : List Int) : Option ((List Int) × Int) :=
  if (decide ((t0.length : Int) > 10)) then
  (some (([], 2)))
  else
  (iter (F36_l0 F t0) F ([], [], 0)).bind fun b52 =>
  some ((b52, 0))

def F104_l0 (F : Nat)  (s21 : Int × (List Int)) : Option (Stp (Int × (List Int)) ((List Int))) :=
  if (decide (s21.1 > 0)) then
  ((at? s21.2 s21.1).bind fun x27 =>
  (at? s21.2 (wrapA .i64 (s21.1 - 1))).bind fun x29 =>
  (ck s21.2 s21.1).bind fun u31 =>
  some (.more (((wrapA .i64 (s21.1 - 1)), (s21.2.set ((Int.toNat s21.1)) ((wrapA .i64 (x27 + x29))))))))
  else
  some (.stop s21.2)
def F104_l1 (F : Nat) (t0 : Int) (t1 : Int) (s15 : Int × (List Int)) : Option (Stp (Int × (List Int)) ((List Int))) :=
  if (decide (s15.1 < t0)) then
  ((iter (F104_l0 F) F (t1, s15.2)).bind fun b35 =>
  some (.more (((wrapA .i64 (s15.1 + 1)), b35))))
  else
  some (.stop s15.2)
def F104 (F : Nat) (t0 : Int) (t1 : Int) : Option Int :=
  if ((decide (t1 < 0)) || (decide (t1 > t0))) then
  (some 0)
  else
  if ((t1 == 0) || (t1 == t0)) then
  (some 1)
  else
  (mk? (wrapA .i64 (t1 + 1)) (0 : Int)).bind fun L5 =>
  (ck L5 0).bind fun u11 =>
  (iter (F104_l1 F t0 t1) F (0, (L5.set ((Int.toNat 0)) 1))).bind fun b39 =>
  (at? b39 t1).bind fun x43 =>
  some x43

def F37_l0 (F : Nat) (t0 : Int) (frec : Int → Option Int) (s2 : Int × Int) : Option (Stp (Int × Int) (Int)) :=
  if (decide (s2.2 < t0)) then
  ((F104 F ((wrapA .i64 (t0 - 1))) s2.2).bind fun r8 =>
  (frec s2.2).bind fun r12 =>
  some (.more (((wrapA .i64 (s2.1 + (wrapA .i64 (r8 * r12)))), (wrapA .i64 (s2.2 + 1))))))
  else
  some (.stop s2.1)
def F37 : Nat → Int → Option Int
  | 0, _ => none
  | F + 1, t0 =>
  let frec := F37 F
  if (t0 == 0) then
  (some 1)
  else
  (iter (F37_l0 F t0 frec) F (0, 0)).bind fun b16 =>
  some b16

def F65 : Nat → Int → Option Int
  | 0, _ => none
  | F + 1, t0 =>
  let frec := F65 F
  if (decide (t0 < 2)) then
  (some 1)
  else
  (frec ((wrapA .i64 (t0 - 1)))).bind fun r2 =>
  some ((wrapA .i64 (t0 * r2)))

def F38_l0 (F : Nat) (t0 : Int) (s1 : Int × Int) (s11 : Int × Int) : Option (Stp (Int × Int) (Int)) :=
  if (decide (s11.2 < t0)) then
  (some (.more (((wrapA .i64 (s11.1 * s1.2)), (wrapA .i64 (s11.2 + 1))))))
  else
  some (.stop s11.1)
def F38_l1 (F : Nat) (t0 : Int) (t1 : Int) (s1 : Int × Int) : Option (Stp (Int × Int) (Int)) :=
  if (decide (s1.2 < (wrapA .i64 (t1 + 1)))) then
  ((F104 F t1 s1.2).bind fun r7 =>
  (iter (F38_l0 F t0 s1) F (r7, 0)).bind fun b17 =>
  if ((Int.tmod (wrapA .i64 (t1 - s1.2)) 2) == 1) then
  (some (.more (((wrapA .i64 (s1.1 + (wrapA .i64 (0 - b17)))), (wrapA .i64 (s1.2 + 1))))))
  else
  some (.more (((wrapA .i64 (s1.1 + b17)), (wrapA .i64 (s1.2 + 1))))))
  else
  some (.stop s1.1)
def F38 (F : Nat) (t0 : Int) (t1 : Int) : Option Int :=
  (iter (F38_l1 F t0 t1) F (0, 0)).bind fun b22 =>
  (F65 F t1).bind fun r26 =>
  (quo? .i64 b22 r26).bind fun x30 =>
  some x30

def F117 (F : Nat) (t0 : List Int) (t1 : Int) : Option Bool :=
  (F116 F t0 t1).bind fun r1 =>
  some ((decide (r1 ≥ 0)))

def F39_l0 (F : Nat) (t0 : List Int) (s2 : Int) : Option (Stp (Int) (Unit ⊕ Int)) :=
  if (decide (s2 < (t0.length : Int))) then
  ((at? t0 s2).bind fun x10 =>
  (if (decide (x10 < 0)) then some true else 
  ((if (decide (x10 > 0)) then 
  ((sub? t0 0 s2).bind fun L12 =>
  (F117 F L12 ((wrapA .i64 (x10 - 1)))).bind fun r16 =>
  some (!r16))
   else some false).bind fun y21 =>
  some y21)
  ).bind fun y26 =>
  if y26 then
  (some (.stop ((.inr 3))))
  else
  some (.more ((wrapA .i64 (s2 + 1)))))
  else
  some (.stop ((.inl ())))
def F39 (F : Nat) (t0 : List Int) : Option Int :=
  if (decide ((t0.length : Int) > 10)) then
  (some 2)
  else
  (iter (F39_l0 F t0) F 0).bind fun b31 =>
  match b31 with
  | .inl b33 => (some 0)
  | .inr b33 => (some b33)

def F41_l0 (F : Nat) (t0 : List Int) (s1 : Int) : Option (Stp (Int) (Unit ⊕ ((List Int) × Bool))) :=
  if (decide (s1 ≥ 1)) then
  ((sub? t0 0 s1).bind fun L10 =>
  (at? t0 s1).bind fun x14 =>
  (F117 F L10 x14).bind fun r16 =>
  if r16 then
  ((sub? t0 0 s1).bind fun L21 =>
  (F30 F L21).bind fun r25 =>
  (at? t0 s1).bind fun x31 =>
  (app? r25 ([(wrapA .i64 (x31 + 1))])).bind fun L37 =>
  (appZ? L37 (wrapA .i64 ((wrapA .i64 ((t0.length : Int) - s1)) - 1)) (0 : Int)).bind fun L43 =>
  some (.stop ((.inr (L43, true)))))
  else
  some (.more ((wrapA .i64 (s1 - 1)))))
  else
  some (.stop ((.inl ())))
def F41 (F : Nat) (t0 : List Int) : Option ((List Int) × Bool) :=
  (iter (F41_l0 F t0) F (wrapA .i64 ((t0.length : Int) - 1))).bind fun b49 =>
  match b49 with
  | .inl b51 => (some (([], false)))
  | .inr b51 => (some ((b51.1, b51.2)))

def F5_l0 (F : Nat) (t3 : List Int) (r15 : (List Int) × Int) (s73 : Int) (s81 : Int) : Option (Stp (Int) (Unit ⊕ Bool)) :=
  if (decide (s81 < s73)) then
  ((at? t3 s73).bind fun x89 =>
  (at? t3 s81).bind fun x91 =>
  (at? r15.1 s73).bind fun x93 =>
  (at? r15.1 s81).bind fun x95 =>
  if (!((x89 == x91) == (x93 == x95))) then
  (some (.stop ((.inr false))))
  else
  some (.more ((wrapA .i64 (s81 + 1)))))
  else
  some (.stop ((.inl ())))
def F5_l1 (F : Nat) (t3 : List Int) (r15 : (List Int) × Int) (s73 : Int) : Option (Stp (Int) (Unit ⊕ Bool)) :=
  if (decide (s73 < (t3.length : Int))) then
  ((iter (F5_l0 F t3 r15 s73) F 0).bind fun b98 =>
  match b98 with
  | .inl b100 => (some (.more ((wrapA .i64 (s73 + 1)))))
  | .inr b100 => (some (.stop ((.inr b100)))))
  else
  some (.stop ((.inl ())))
def F5 (F : Nat) (t0 : List Int) (t1 : Int) (t2 : Int) (t3 : List Int) : Option Bool :=
  (F33 F t1 t2).bind fun r1 =>
  (F34 F t1).bind fun r5 =>
  (F35 F t0).bind fun r9 =>
  (F36 F t3).bind fun r15 =>
  (show Option (Unit ⊕ Bool) from (if ((decide (t1 < 0)) || (decide (t1 > 10))) then
  (if ((((r1.2 != 1) || (r5.2 != r1.2)) || (r1.1 != 0)) || (r5.1 != 0)) then
  (some ((.inr false)))
  else
  some ((.inl ())))
  else
  (if (r5.2 != 0) then some true else 
  ((F37 F t1).bind fun r27 =>
  some (r5.1 != r27))
  ).bind fun y32 =>
  if y32 then
  (some ((.inr false)))
  else
  if ((decide (t2 < 0)) || (decide (t2 > 10))) then
  (if ((r1.2 != 1) || (r1.1 != 0)) then
  (some ((.inr false)))
  else
  some ((.inl ())))
  else
  (if (r1.2 != 0) then some true else 
  ((F38 F t1 t2).bind fun r41 =>
  some (r1.1 != r41))
  ).bind fun y46 =>
  if y46 then
  (some ((.inr false)))
  else
  some ((.inl ())))).bind fun b51 =>
  match b51 with
  | .inl b56 => ((show Option (Unit ⊕ Bool) from (if (decide ((t3.length : Int) > 10)) then
  (if ((r15.2 != 2) || (decide ((r15.1.length : Int) > 0))) then
  (some ((.inr false)))
  else
  some ((.inl ())))
  else
  (if ((r15.2 != 0) || ((r15.1.length : Int) != (t3.length : Int))) then some true else 
  ((F39 F r15.1).bind fun r63 =>
  some (r63 != 0))
  ).bind fun y68 =>
  if y68 then
  (some ((.inr false)))
  else
  (iter (F5_l1 F t3 r15) F 0).bind fun b105 =>
  match b105 with
  | .inl b107 => (some ((.inl ())))
  | .inr b107 => (some ((.inr b107))))).bind fun b112 =>
  match b112 with
  | .inl b117 => ((F39 F t0).bind fun r120 =>
  (F40 F t0).bind fun r124 =>
  if (r124 != r120) then
  (some false)
  else
  if (r120 != 0) then
  (some (((r9.2 == r120) && ((r9.1.length : Int) == 0))))
  else
  (F41 F t0).bind fun r131 =>
  if (!r131.2) then
  (some (((r9.2 == 4) && ((r9.1.length : Int) == 0))))
  else
  (if (r9.2 == 0) then 
  ((F32 F r9.1 r131.1).bind fun r139 =>
  some r139)
   else some false).bind fun y144 =>
  some y144)
  | .inr b117 => (some b117))
  | .inr b56 => (some b56)

def F44 (F : Nat) (t0 : Int) (t1 : Int) (t2 : Int) (t3 : Int) : Option Int :=
  if ((((((((decide (t1 < 1)) || (decide (t1 > 12))) || (decide (t0 < 0))) || (decide (t0 > t1))) || (decide (t2 < 1))) || (decide (t2 > 20))) || (decide (t3 < 1))) || (decide (t3 > 20))) then
  (some 1)
  else
  some 0

def F118_l0 (F : Nat) (t0 : Int) (t1 : Int) (s1 : Int × Int) : Option (Stp (Int × Int) (Int)) :=
  if (decide (s1.2 < t1)) then
  (some (.more (((wrapA .i64 (s1.1 * t0)), (wrapA .i64 (s1.2 + 1))))))
  else
  some (.stop s1.1)
def F118 (F : Nat) (t0 : Int) (t1 : Int) : Option Int :=
  (iter (F118_l0 F t0 t1) F (1, 0)).bind fun b7 =>
  some b7

def F42_l0 (F : Nat) (t0 : Int) (t1 : Int) (t2 : Int) (t3 : Int) (s12 : Int × Int × Int) : Option (Stp (Int × Int × Int) (Int × Int)) :=
  if (decide (s12.2.2 < t1)) then
  ((F118 F t3 s12.2.2).bind fun r18 =>
  (F118 F t2 ((wrapA .i64 ((wrapA .i64 (t1 - 1)) - s12.2.2)))).bind fun r22 =>
  if (decide (s12.2.2 < t0)) then
  (some (.more (((wrapA .i64 (s12.1 + (wrapA .i64 (r18 * r22)))), (wrapA .i64 (s12.2.1 + (wrapA .i64 (r18 * r22)))), (wrapA .i64 (s12.2.2 + 1))))))
  else
  some (.more ((s12.1, (wrapA .i64 (s12.2.1 + (wrapA .i64 (r18 * r22)))), (wrapA .i64 (s12.2.2 + 1))))))
  else
  some (.stop ((s12.1, s12.2.1)))
def F42_l1 (F : Nat) (b27 : Int × Int) (s31 : Int × Int × (Int × Int)) : Option (Stp (Int × Int × (Int × Int)) (Int × (Int × Int))) :=
  if (s31.2.1 == 0) then
  ((quo? .i64 b27.2 s31.1).bind fun x37 =>
  if (decide (x37 > 1000000000)) then
  (some (.stop ((2, (0, 0)))))
  else
  (quo? .i64 b27.1 s31.1).bind fun x42 =>
  (quo? .i64 b27.2 s31.1).bind fun x44 =>
  (F109 F x42 x44).bind fun r46 =>
  some (.stop ((r46.2, (r46.1.1, r46.1.2)))))
  else
  (rem? s31.1 s31.2.1).bind fun x52 =>
  some (.more ((s31.2.1, x52, s31.2.2)))
def F42 (F : Nat) (t0 : Int) (t1 : Int) (t2 : Int) (t3 : Int) : Option ((Int × Int) × Int) :=
  (F44 F t0 t1 t2 t3).bind fun r5 =>
  if (r5 != 0) then
  (some (((((0, 0)).1, ((0, 0)).2), r5)))
  else
  (iter (F42_l0 F t0 t1 t2 t3) F (0, 0, 0)).bind fun b27 =>
  (iter (F42_l1 F b27) F (b27.1, b27.2, (0, 0))).bind fun b54 =>
  some (((b54.2.1, b54.2.2), b54.1))

def F150 (F : Nat) (t0 : Int × Int) : Option Int :=
  if ((((decide (((t0.1, t0.2)).2 < 1)) || (decide (((t0.1, t0.2)).2 > 1000000000))) || (decide (((t0.1, t0.2)).1 < (-1000000000)))) || (decide (((t0.1, t0.2)).1 > 1000000000))) then
  (some 1)
  else
  (F169 F (((t0.1, t0.2)).1) (((t0.1, t0.2)).2)).bind fun r9 =>
  if (r9 != 1) then
  (some 3)
  else
  some 0

def F162 (F : Nat) (t0 : Int × Int) (t1 : Int × Int) : Option Int :=
  (F150 F ((((t0.1, t0.2)).1, ((t0.1, t0.2)).2))).bind fun r9 =>
  if (r9 != 0) then
  (some r9)
  else
  (F150 F ((((t1.1, t1.2)).1, ((t1.1, t1.2)).2))).bind fun r14 =>
  some r14

def F119 (F : Nat) (t0 : Int × Int) (t1 : Int × Int) : Option ((Int × Int) × Int) :=
  (F162 F ((((t0.1, t0.2)).1, ((t0.1, t0.2)).2)) ((((t1.1, t1.2)).1, ((t1.1, t1.2)).2))).bind fun r13 =>
  if (r13 != 0) then
  (some (((((0, 0)).1, ((0, 0)).2), r13)))
  else
  (F160 F ((wrapA .i64 (((t0.1, t0.2)).1 * ((t1.1, t1.2)).1))) ((wrapA .i64 (((t0.1, t0.2)).2 * ((t1.1, t1.2)).2)))).bind fun r20 =>
  some (((((r20.1.1, r20.1.2)).1, ((r20.1.1, r20.1.2)).2), r20.2))

def F120 (F : Nat) (t0 : Int × Int) (t1 : Int × Int) : Option ((Int × Int) × Int) :=
  (F162 F ((((t0.1, t0.2)).1, ((t0.1, t0.2)).2)) ((((t1.1, t1.2)).1, ((t1.1, t1.2)).2))).bind fun r13 =>
  if (r13 != 0) then
  (some (((((0, 0)).1, ((0, 0)).2), r13)))
  else
  (F160 F ((wrapA .i64 ((wrapA .i64 (((t0.1, t0.2)).1 * ((t1.1, t1.2)).2)) + (wrapA .i64 (((t1.1, t1.2)).1 * ((t0.1, t0.2)).2))))) ((wrapA .i64 (((t0.1, t0.2)).2 * ((t1.1, t1.2)).2)))).bind fun r20 =>
  some (((((r20.1.1, r20.1.2)).1, ((r20.1.1, r20.1.2)).2), r20.2))

def F43 (F : Nat) (t0 : Int) (t1 : Int) (t2 : Int) (t3 : Int) : Option ((Int × Int) × Int) :=
  (F44 F t0 t1 t2 t3).bind fun r5 =>
  if (r5 != 0) then
  (some (((((0, 0)).1, ((0, 0)).2), r5)))
  else
  if (t2 == t3) then
  ((F109 F ((wrapA .i64 (t0 * (wrapA .i64 (t1 - t0))))) 1).bind fun r13 =>
  some (((((r13.1.1, r13.1.2)).1, ((r13.1.1, r13.1.2)).2), r13.2)))
  else
  (F42 F t0 t1 t2 t3).bind fun r19 =>
  if (r19.2 != 0) then
  (some (((((0, 0)).1, ((0, 0)).2), r19.2)))
  else
  (F119 F ((((r19.1.1, r19.1.2)).1, ((r19.1.1, r19.1.2)).2)) ((t1, 1))).bind fun r32 =>
  if (r32.2 != 0) then
  (some (((((0, 0)).1, ((0, 0)).2), r32.2)))
  else
  (F120 F ((((r32.1.1, r32.1.2)).1, ((r32.1.1, r32.1.2)).2)) (((wrapA .i64 (0 - t0)), 1))).bind fun r45 =>
  if (r45.2 != 0) then
  (some (((((0, 0)).1, ((0, 0)).2), r45.2)))
  else
  (F109 F ((wrapA .i64 (t2 + t3))) ((wrapA .i64 (t2 - t3)))).bind fun r54 =>
  (F119 F ((((r45.1.1, r45.1.2)).1, ((r45.1.1, r45.1.2)).2)) ((((r54.1.1, r54.1.2)).1, ((r54.1.1, r54.1.2)).2))).bind fun r64 =>
  some (((((r64.1.1, r64.1.2)).1, ((r64.1.1, r64.1.2)).2), r64.2))

def F45_l0 (F : Nat) (t1 : Int) (t2 : Int) (s11 : Int × Int) : Option (Stp (Int × Int) (Int)) :=
  if (decide (s11.2 < (wrapA .i64 (t1 - 1)))) then
  (some (.more (((wrapA .i64 (s11.1 * t2)), (wrapA .i64 (s11.2 + 1))))))
  else
  some (.stop s11.1)
def F45_l1 (F : Nat) (t1 : Int) (t2 : Int) (t3 : Int) (s21 : Int × Int × (List Int)) : Option (Stp (Int × Int × (List Int)) ((List Int))) :=
  if (decide (s21.2.1 ≤ t1)) then
  ((at? s21.2.2 (wrapA .i64 (s21.2.1 - 1))).bind fun x27 =>
  (ck s21.2.2 s21.2.1).bind fun u29 =>
  (quo? .i64 s21.1 t2).bind fun x33 =>
  some (.more (((wrapA .i64 (x33 * t3)), (wrapA .i64 (s21.2.1 + 1)), (s21.2.2.set ((Int.toNat s21.2.1)) ((wrapA .i64 (x27 + s21.1))))))))
  else
  some (.stop s21.2.2)
def F45 (F : Nat) (t0 : Int) (t1 : Int) (t2 : Int) (t3 : Int) : Option ((Int × Int) × Int) :=
  (mk? (wrapA .i64 (t1 + 1)) (0 : Int)).bind fun L5 =>
  (iter (F45_l0 F t1 t2) F (1, 0)).bind fun b17 =>
  (iter (F45_l1 F t1 t2 t3) F (b17, 1, L5)).bind fun b35 =>
  (at? b35 t0).bind fun x39 =>
  (at? b35 t1).bind fun x41 =>
  (F114 F x39 x41).bind fun r43 =>
  some (((((r43.1.1, r43.1.2)).1, ((r43.1.1, r43.1.2)).2), r43.2))

def F46 (F : Nat) (t0 : Int × Int) (t1 : Int × Int) : Option ((Int × Int) × Int) :=
  (F114 F ((wrapA .i64 (((t0.1, t0.2)).1 * ((t1.1, t1.2)).1))) ((wrapA .i64 (((t0.1, t0.2)).2 * ((t1.1, t1.2)).2)))).bind fun r13 =>
  some (((((r13.1.1, r13.1.2)).1, ((r13.1.1, r13.1.2)).2), r13.2))

def F47 (F : Nat) (t0 : Int × Int) (t1 : Int × Int) : Option ((Int × Int) × Int) :=
  (F114 F ((wrapA .i64 ((wrapA .i64 (((t0.1, t0.2)).1 * ((t1.1, t1.2)).2)) + (wrapA .i64 (((t0.1, t0.2)).2 * ((t1.1, t1.2)).1))))) ((wrapA .i64 (((t0.1, t0.2)).2 * ((t1.1, t1.2)).2)))).bind fun r13 =>
  some (((((r13.1.1, r13.1.2)).1, ((r13.1.1, r13.1.2)).2), r13.2))

def F6 (F : Nat) (t0 : Int) (t1 : Int) (t2 : Int) (t3 : Int) : Option Bool :=
  (F42 F t0 t1 t2 t3).bind fun r1 =>
  (F43 F t0 t1 t2 t3).bind fun r11 =>
  (show Option (Int) from (if ((((((decide (t1 < 1)) || (decide (t1 > 12))) || (decide (t0 < 0))) || (decide (t0 > t1))) || (decide ((minI t2 t3) < 1))) || (decide ((maxI t2 t3) > 20))) then
  (some 1)
  else
  some 0)).bind fun b27 =>
  (F44 F t0 t1 t2 t3).bind fun r32 =>
  if (r32 != b27) then
  (some false)
  else
  if (b27 != 0) then
  (some (((((r1.2 == b27) && (r11.2 == b27)) && (((r1.1.1, r1.1.2)).1 == 0 && (((r1.1.1, r1.1.2)).2 == 0 && true))) && (((r11.1.1, r11.1.2)).1 == 0 && (((r11.1.1, r11.1.2)).2 == 0 && true)))))
  else
  (F45 F t0 t1 t2 t3).bind fun r41 =>
  if ((r1.2 != r41.2) || (!(((r1.1.1, r1.1.2)).1 == ((r41.1.1, r41.1.2)).1 && (((r1.1.1, r1.1.2)).2 == ((r41.1.1, r41.1.2)).2 && true)))) then
  (some false)
  else
  if (t2 == t3) then
  (some (((r11.2 == 0) && (((r11.1.1, r11.1.2)).1 == (wrapA .i64 (t0 * (wrapA .i64 (t1 - t0)))) && (((r11.1.1, r11.1.2)).2 == 1 && true)))))
  else
  (show Option (Int × (Int × Int)) from (if (r41.2 == 0) then
  ((F46 F ((((r41.1.1, r41.1.2)).1, ((r41.1.1, r41.1.2)).2)) ((t1, 1))).bind fun r62 =>
  some ((r62.2, (r62.1.1, r62.1.2))))
  else
  some ((r41.2, (((r41.1.1, r41.1.2)).1, ((r41.1.1, r41.1.2)).2))))).bind fun b68 =>
  (show Option (Int × (Int × Int)) from (if (b68.1 == 0) then
  ((F47 F ((b68.2.1, b68.2.2)) (((wrapA .i64 (0 - t0)), 1))).bind fun r74 =>
  some ((r74.2, (r74.1.1, r74.1.2))))
  else
  some ((b68.1, b68.2)))).bind fun b80 =>
  (show Option (Int × (Int × Int)) from (if (b80.1 == 0) then
  ((F21 F ((wrapA .i64 (t2 + t3))) ((wrapA .i64 (t2 - t3)))).bind fun r86 =>
  (F46 F ((b80.2.1, b80.2.2)) ((r86.1, r86.2))).bind fun r90 =>
  some ((r90.2, (r90.1.1, r90.1.2))))
  else
  some ((b80.1, b80.2)))).bind fun b96 =>
  some (((r11.2 == b96.1) && (((b96.1 != 0) && (((r11.1.1, r11.1.2)).1 == 0 && (((r11.1.1, r11.1.2)).2 == 0 && true))) || ((b96.1 == 0) && (((r11.1.1, r11.1.2)).1 == b96.2.1 && (((r11.1.1, r11.1.2)).2 == b96.2.2 && true))))))

def F53_l0 (F : Nat) (t0 : (List Int) × (List Int)) (s8 : Int) : Option (Stp (Int) (Unit ⊕ Int)) :=
  if (decide (s8 < (t0.1.length : Int))) then
  ((at? t0.1 s8).bind fun x16 =>
  (if ((decide (x16 < (-20))) || (decide (x16 > 20))) then some true else 
  ((at? t0.2 s8).bind fun x19 =>
  some (decide (x19 < 1)))
  ).bind fun y22 =>
  (if y22 then some true else 
  ((at? t0.2 s8).bind fun x24 =>
  some (decide (x24 > 100)))
  ).bind fun y27 =>
  if y27 then
  (some (.stop ((.inr 1))))
  else
  some (.more ((wrapA .i64 (s8 + 1)))))
  else
  some (.stop ((.inl ())))
def F53 (F : Nat) (t0 : (List Int) × (List Int)) : Option Int :=
  if ((decide ((t0.1.length : Int) < 1)) || (decide ((t0.1.length : Int) > 12))) then
  (some 2)
  else
  if ((t0.2.length : Int) != (t0.1.length : Int)) then
  (some 3)
  else
  (iter (F53_l0 F t0) F 0).bind fun b30 =>
  match b30 with
  | .inl b32 => (some 0)
  | .inr b32 => (some b32)

def F122 (F : Nat) (t0 : Int) : Option Int :=
  some t0

def F121_122_l0 (F : Nat) (t0 : (List Int) × (List Int)) (s5 : Int × Int) : Option (Stp (Int × Int) (Int)) :=
  if (decide (s5.2 < (t0.1.length : Int))) then
  ((at? t0.1 s5.2).bind fun x11 =>
  (at? t0.2 s5.2).bind fun x13 =>
  (F122 F x11).bind fun r15 =>
  some (.more (((wrapA .i64 (s5.1 + (wrapA .i64 (x13 * r15)))), (wrapA .i64 (s5.2 + 1))))))
  else
  some (.stop s5.1)
def F121_122 (F : Nat) (t0 : (List Int) × (List Int)) : Option Int :=
  (iter (F121_122_l0 F t0) F (0, 0)).bind fun b19 =>
  some b19

def F123 (F : Nat) (t0 : Int) : Option Int :=
  some 1

def F121_123_l0 (F : Nat) (t0 : (List Int) × (List Int)) (s5 : Int × Int) : Option (Stp (Int × Int) (Int)) :=
  if (decide (s5.2 < (t0.1.length : Int))) then
  ((at? t0.1 s5.2).bind fun x11 =>
  (at? t0.2 s5.2).bind fun x13 =>
  (F123 F x11).bind fun r15 =>
  some (.more (((wrapA .i64 (s5.1 + (wrapA .i64 (x13 * r15)))), (wrapA .i64 (s5.2 + 1))))))
  else
  some (.stop s5.1)
def F121_123 (F : Nat) (t0 : (List Int) × (List Int)) : Option Int :=
  (iter (F121_123_l0 F t0) F (0, 0)).bind fun b19 =>
  some b19

def F48 (F : Nat) (t0 : (List Int) × (List Int)) : Option ((Int × Int) × Int) :=
  (F53 F ((t0.1, t0.2))).bind fun r9 =>
  if (r9 != 0) then
  (some (((((0, 0)).1, ((0, 0)).2), r9)))
  else
  (F121_122 F ((t0.1, t0.2))).bind fun r16 =>
  (F121_123 F ((t0.1, t0.2))).bind fun r20 =>
  (F109 F r16 r20).bind fun r24 =>
  some (((((r24.1.1, r24.1.2)).1, ((r24.1.1, r24.1.2)).2), r24.2))

def F124 (F : Nat) (t0 : Int) : Option Int :=
  some t0

def F121_124_l0 (F : Nat) (t0 : (List Int) × (List Int)) (s5 : Int × Int) : Option (Stp (Int × Int) (Int)) :=
  if (decide (s5.2 < (t0.1.length : Int))) then
  ((at? t0.1 s5.2).bind fun x11 =>
  (at? t0.2 s5.2).bind fun x13 =>
  (F124 F x11).bind fun r15 =>
  some (.more (((wrapA .i64 (s5.1 + (wrapA .i64 (x13 * r15)))), (wrapA .i64 (s5.2 + 1))))))
  else
  some (.stop s5.1)
def F121_124 (F : Nat) (t0 : (List Int) × (List Int)) : Option Int :=
  (iter (F121_124_l0 F t0) F (0, 0)).bind fun b19 =>
  some b19

def F125 (F : Nat) (t0 : Int) : Option Int :=
  some ((wrapA .i64 (t0 * t0)))

def F121_125_l0 (F : Nat) (t0 : (List Int) × (List Int)) (s5 : Int × Int) : Option (Stp (Int × Int) (Int)) :=
  if (decide (s5.2 < (t0.1.length : Int))) then
  ((at? t0.1 s5.2).bind fun x11 =>
  (at? t0.2 s5.2).bind fun x13 =>
  (F125 F x11).bind fun r15 =>
  some (.more (((wrapA .i64 (s5.1 + (wrapA .i64 (x13 * r15)))), (wrapA .i64 (s5.2 + 1))))))
  else
  some (.stop s5.1)
def F121_125 (F : Nat) (t0 : (List Int) × (List Int)) : Option Int :=
  (iter (F121_125_l0 F t0) F (0, 0)).bind fun b19 =>
  some b19

def F49_l0 (F : Nat) (r16 : Int) (r20 : Int) (r24 : Int) (s28 : Int × Int × (Int × Int)) : Option (Stp (Int × Int × (Int × Int)) (Int × (Int × Int))) :=
  if (s28.2.1 == 0) then
  ((quo? .i64 (wrapA .i64 ((wrapA .i64 (r16 * r24)) - (wrapA .i64 (r20 * r20)))) s28.1).bind fun x34 =>
  (quo? .i64 (wrapA .i64 (r16 * r16)) s28.1).bind fun x36 =>
  (F109 F x34 x36).bind fun r38 =>
  some (.stop ((r38.2, (r38.1.1, r38.1.2)))))
  else
  (rem? s28.1 s28.2.1).bind fun x44 =>
  some (.more ((s28.2.1, x44, s28.2.2)))
def F49 (F : Nat) (t0 : (List Int) × (List Int)) : Option ((Int × Int) × Int) :=
  (F53 F ((t0.1, t0.2))).bind fun r9 =>
  if (r9 != 0) then
  (some (((((0, 0)).1, ((0, 0)).2), r9)))
  else
  (F121_123 F ((t0.1, t0.2))).bind fun r16 =>
  (F121_124 F ((t0.1, t0.2))).bind fun r20 =>
  (F121_125 F ((t0.1, t0.2))).bind fun r24 =>
  (iter (F49_l0 F r16 r20 r24) F ((wrapA .i64 ((wrapA .i64 (r16 * r24)) - (wrapA .i64 (r20 * r20)))), (wrapA .i64 (r16 * r16)), (0, 0))).bind fun b46 =>
  some (((b46.2.1, b46.2.2), b46.1))

def F126 (F : Nat) (t0 : Int) (c0 : Int) : Option Int :=
  if (decide (t0 ≥ c0)) then
  (some 1)
  else
  some 0

def F121_126_l0 (F : Nat) (t0 : (List Int) × (List Int)) (t1c0 : Int) (s5 : Int × Int) : Option (Stp (Int × Int) (Int)) :=
  if (decide (s5.2 < (t0.1.length : Int))) then
  ((at? t0.1 s5.2).bind fun x11 =>
  (at? t0.2 s5.2).bind fun x13 =>
  (F126 F x11 t1c0).bind fun r15 =>
  some (.more (((wrapA .i64 (s5.1 + (wrapA .i64 (x13 * r15)))), (wrapA .i64 (s5.2 + 1))))))
  else
  some (.stop s5.1)
def F121_126 (F : Nat) (t0 : (List Int) × (List Int)) (t1c0 : Int) : Option Int :=
  (iter (F121_126_l0 F t0 t1c0) F (0, 0)).bind fun b19 =>
  some b19

def F50 (F : Nat) (t0 : (List Int) × (List Int)) (t1 : Int) : Option ((Int × Int) × Int) :=
  (F53 F ((t0.1, t0.2))).bind fun r13 =>
  if (r13 != 0) then
  (some (((((0, 0)).1, ((0, 0)).2), r13)))
  else
  (F121_126 F ((t0.1, t0.2)) t1).bind fun r21 =>
  (F121_123 F ((t0.1, t0.2))).bind fun r25 =>
  (F109 F r21 r25).bind fun r29 =>
  some (((((r29.1.1, r29.1.2)).1, ((r29.1.1, r29.1.2)).2), r29.2))

def F58_l0 (F : Nat) (t0 : List (Int × Int × Bool × Bool)) (s3 : Int) : Option (Stp (Int) (Unit ⊕ Int)) :=
  if (decide (s3 < (t0.length : Int))) then
  ((at? t0 s3).bind fun x11 =>
  if ((((decide (((x11.1, x11.2.1, x11.2.2.1, x11.2.2.2)).1 < 1)) || (decide (((x11.1, x11.2.1, x11.2.2.1, x11.2.2.2)).1 > 10))) || (decide (((x11.1, x11.2.1, x11.2.2.1, x11.2.2.2)).2.1 < 0))) || (decide (((x11.1, x11.2.1, x11.2.2.1, x11.2.2.2)).2.1 > 100000))) then
  (some (.stop ((.inr 1))))
  else
  some (.more ((wrapA .i64 (s3 + 1)))))
  else
  some (.stop ((.inl ())))
def F58_l1 (F : Nat) (t0 : List (Int × Int × Bool × Bool)) (t1 : List (Int × Int × Int)) (s28 : Int) : Option (Stp (Int) (Unit ⊕ Int)) :=
  if (decide (s28 < (t1.length : Int))) then
  ((at? t1 s28).bind fun x36 =>
  if ((((((decide (((x36.1, x36.2.1, x36.2.2)).1 < 0)) || (decide (((x36.1, x36.2.1, x36.2.2)).1 > 200))) || (decide (((x36.1, x36.2.1, x36.2.2)).2.1 < 0))) || (decide (((x36.1, x36.2.1, x36.2.2)).2.1 ≥ (t0.length : Int)))) || (decide (((x36.1, x36.2.1, x36.2.2)).2.2 < 1))) || (decide (((x36.1, x36.2.1, x36.2.2)).2.2 > 4))) then
  (some (.stop ((.inr 1))))
  else
  (if (decide (s28 > 0)) then 
  ((at? t1 (wrapA .i64 (s28 - 1))).bind fun x50 =>
  some (decide (((x36.1, x36.2.1, x36.2.2)).1 < x50.1)))
   else some false).bind fun y53 =>
  if y53 then
  (some (.stop ((.inr 3))))
  else
  some (.more ((wrapA .i64 (s28 + 1)))))
  else
  some (.stop ((.inl ())))
def F58 (F : Nat) (t0 : List (Int × Int × Bool × Bool)) (t1 : List (Int × Int × Int)) : Option Int :=
  if ((decide ((t0.length : Int) > 8)) || (decide ((t1.length : Int) > 30))) then
  (some 2)
  else
  (iter (F58_l0 F t0) F 0).bind fun b23 =>
  match b23 with
  | .inl b25 => ((iter (F58_l1 F t0 t1) F 0).bind fun b56 =>
  match b56 with
  | .inl b58 => (some 0)
  | .inr b58 => (some b58))
  | .inr b25 => (some b25)

def F133_l0 (F : Nat) (t0 : List Int) (s6 : Int × (List Bool)) : Option (Stp (Int × (List Bool)) (Unit ⊕ Int)) :=
  if (decide (s6.1 < (t0.length : Int))) then
  ((at? t0 s6.1).bind fun x14 =>
  (if ((decide (x14 < 0)) || (decide (x14 ≥ (t0.length : Int)))) then some true else 
  ((at? s6.2 x14).bind fun x17 =>
  some x17)
  ).bind fun y20 =>
  if y20 then
  (some (.stop ((.inr 3))))
  else
  (ck s6.2 x14).bind fun u23 =>
  some (.more (((wrapA .i64 (s6.1 + 1)), (s6.2.set ((Int.toNat x14)) true)))))
  else
  some (.stop ((.inl ())))
def F133 (F : Nat) (t0 : List Int) : Option Int :=
  if (decide ((t0.length : Int) > 10)) then
  (some 2)
  else
  (iter (F133_l0 F t0) F (0, (List.replicate 10 false))).bind fun b27 =>
  match b27 with
  | .inl b29 => (some 0)
  | .inr b29 => (some b29)

def F60_l0 (F : Nat) (s12 : Int × (List Int)) (x18 : Int) (L20 : List Int) (s24 : Int × (List Int)) : Option (Stp (Int × (List Int)) ((List Int))) :=
  if (decide (s24.1 < (L20.length : Int))) then
  ((at? L20 s24.1).bind fun x30 =>
  if (decide (x30 < x18)) then
  ((at? s24.2 s12.1).bind fun x33 =>
  (ck s24.2 s12.1).bind fun u35 =>
  some (.more (((wrapA .i64 (s24.1 + 1)), (s24.2.set ((Int.toNat s12.1)) ((wrapA .i64 (x33 + 1))))))))
  else
  some (.more (((wrapA .i64 (s24.1 + 1)), s24.2))))
  else
  some (.stop s24.2)
def F60_l1 (F : Nat) (t0 : List Int) (s12 : Int × (List Int)) : Option (Stp (Int × (List Int)) ((List Int))) :=
  if (decide (s12.1 < (t0.length : Int))) then
  ((at? t0 s12.1).bind fun x18 =>
  (sub? t0 (wrapA .i64 (s12.1 + 1)) t0.length).bind fun L20 =>
  (iter (F60_l0 F s12 x18 L20) F (0, s12.2)).bind fun b39 =>
  some (.more (((wrapA .i64 (s12.1 + 1)), b39))))
  else
  some (.stop s12.2)
def F60 (F : Nat) (t0 : List Int) : Option ((List Int) × Int) :=
  (F133 F t0).bind fun r1 =>
  if (r1 != 0) then
  (some (([], r1)))
  else
  (mk? (t0.length : Int) (0 : Int)).bind fun L6 =>
  (iter (F60_l1 F t0) F (0, L6)).bind fun b43 =>
  some ((b43, 0))

def F61_l0 (F : Nat) (r1 : (List Int) × Int) (s8 : Int × Int) : Option (Stp (Int × Int) (Int)) :=
  if (decide (s8.2 < (r1.1.length : Int))) then
  ((at? r1.1 s8.2).bind fun x14 =>
  some (.more (((wrapA .i64 ((wrapA .i64 (s8.1 * (wrapA .i64 ((r1.1.length : Int) - s8.2)))) + x14)), (wrapA .i64 (s8.2 + 1))))))
  else
  some (.stop s8.1)
def F61 (F : Nat) (t0 : List Int) : Option (Int × Int) :=
  (F60 F t0).bind fun r1 =>
  if (r1.2 != 0) then
  (some ((0, r1.2)))
  else
  (iter (F61_l0 F r1) F (0, 0)).bind fun b16 =>
  some ((b16, 0))

def F134_l0 (F : Nat)  (s1 : Int × Int × (List Int)) : Option (Stp (Int × Int × (List Int)) ((List Int))) :=
  if (decide (s1.1 < s1.2.1)) then
  ((at? s1.2.2 s1.2.1).bind fun x7 =>
  (at? s1.2.2 s1.1).bind fun x9 =>
  (ck s1.2.2 s1.1).bind fun u11 =>
  (ck ((s1.2.2.set ((Int.toNat s1.1)) x7)) s1.2.1).bind fun u15 =>
  some (.more (((wrapA .i64 (s1.1 + 1)), (wrapA .i64 (s1.2.1 - 1)), (((s1.2.2.set ((Int.toNat s1.1)) x7)).set ((Int.toNat s1.2.1)) x9)))))
  else
  some (.stop s1.2.2)
def F134 (F : Nat) (t0 : List Int) : Option ((List Int)) :=
  (iter (F134_l0 F) F (0, (wrapA .i64 ((t0.length : Int) - 1)), t0)).bind fun b19 =>
  some b19

def F62_l0 (F : Nat) (t0 : List Int) (s6 : Int) : Option (Stp (Int) (Int)) :=
  (if (decide (s6 ≥ 0)) then 
  ((at? t0 s6).bind fun x11 =>
  (at? t0 (wrapA .i64 (s6 + 1))).bind fun x13 =>
  some (decide (x11 > x13)))
   else some false).bind fun y16 =>
  if y16 then
  (some (.more ((wrapA .i64 (s6 - 1)))))
  else
  some (.stop s6)
def F62_l1 (F : Nat) (b19 : Int) (r24 : List Int) (s30 : Int) : Option (Stp (Int) (Int)) :=
  (at? r24 s30).bind fun x35 =>
  (at? r24 b19).bind fun x37 =>
  if (decide (x35 < x37)) then
  (some (.more ((wrapA .i64 (s30 - 1)))))
  else
  some (.stop s30)
def F62 (F : Nat) (t0 : List Int) : Option ((List Int) × Int) :=
  (F133 F t0).bind fun r1 =>
  if (r1 != 0) then
  (some (([], r1)))
  else
  (iter (F62_l0 F t0) F (wrapA .i64 ((t0.length : Int) - 2))).bind fun b19 =>
  if (decide (b19 < 0)) then
  (some (([], 4)))
  else
  (F30 F t0).bind fun r24 =>
  (iter (F62_l1 F b19 r24) F (wrapA .i64 ((r24.length : Int) - 1))).bind fun b40 =>
  (at? r24 b40).bind fun x44 =>
  (at? r24 b19).bind fun x46 =>
  (ck r24 b19).bind fun u48 =>
  (ck ((r24.set ((Int.toNat b19)) x44)) b40).bind fun u52 =>
  (sub? ((((r24.set ((Int.toNat b19)) x44)).set ((Int.toNat b40)) x46)) (wrapA .i64 (b19 + 1)) ((((r24.set ((Int.toNat b19)) x44)).set ((Int.toNat b40)) x46)).length).bind fun L56 =>
  (F134 F L56).bind fun r61 =>
  some (((putL ((((r24.set ((Int.toNat b19)) x44)).set ((Int.toNat b40)) x46)) ((wrapA .i64 (b19 + 1))) r61), 0))

def F135_l0 (F : Nat) (t0 : Int) (s1 : Int × Int) : Option (Stp (Int × Int) (Int)) :=
  if (decide (s1.2 ≤ t0)) then
  (some (.more (((wrapA .i64 (s1.1 * s1.2)), (wrapA .i64 (s1.2 + 1))))))
  else
  some (.stop s1.1)
def F135 (F : Nat) (t0 : Int) : Option Int :=
  (iter (F135_l0 F t0) F (1, 2)).bind fun b7 =>
  some b7

def F63 (F : Nat) (t0 : Int) : Option (Int × Int) :=
  if ((decide (t0 < 0)) || (decide (t0 > 10))) then
  (some ((0, 1)))
  else
  (F135 F t0).bind fun r3 =>
  some ((r3, 0))

def F136 (F : Nat) (t0 : (List Int)) (t1 : Int) (t2 : Int) : Option ((List Int)) := if 0 ≤ t1 then del? t0 t1 t2 else none

def F64_l0 (F : Nat) (L8 : List Int) (s14 : Int × (List Int)) : Option (Stp (Int × (List Int)) ((List Int))) :=
  if (decide (s14.1 < (L8.length : Int))) then
  ((ck s14.2 s14.1).bind fun u20 =>
  some (.more (((wrapA .i64 (s14.1 + 1)), (s14.2.set ((Int.toNat s14.1)) s14.1)))))
  else
  some (.stop s14.2)
def F64_l1 (F : Nat)  (s34 : Int × (List Int) × (List Int) × Int) : Option (Stp (Int × (List Int) × (List Int) × Int) ((List Int))) :=
  if (decide (s34.2.2.2 ≥ 0)) then
  ((F135 F s34.2.2.2).bind fun r47 =>
  (quo? .i64 s34.1 r47).bind fun x51 =>
  (at? s34.2.1 x51).bind fun x53 =>
  (app? s34.2.2.1 ([x53])).bind fun L59 =>
  (quo? .i64 s34.1 r47).bind fun x65 =>
  (quo? .i64 s34.1 r47).bind fun x67 =>
  (F136 F s34.2.1 x65 ((wrapA .i64 (x67 + 1)))).bind fun r69 =>
  (rem? s34.1 r47).bind fun x75 =>
  some (.more ((x75, r69, L59, (wrapA .i64 (s34.2.2.2 - 1))))))
  else
  some (.stop s34.2.2.1)
def F64 (F : Nat) (t0 : Int) (t1 : Int) : Option ((List Int) × Int) :=
  (F63 F t0).bind fun r1 =>
  if (((r1.2 != 0) || (decide (t1 < 0))) || (decide (t1 ≥ r1.1))) then
  (some (([], 1)))
  else
  (mk? t0 (0 : Int)).bind fun L8 =>
  (iter (F64_l0 F L8) F (0, L8)).bind fun b24 =>
  (mkC? 0 t0 (0 : Int)).bind fun L28 =>
  (iter (F64_l1 F) F (t1, b24, L28, (wrapA .i64 (t0 - 1)))).bind fun b77 =>
  some ((b77, 0))

def F66_l0 (F : Nat) (t0 : List Int) (s2 : Int) : Option (Stp (Int) (Unit ⊕ Int)) :=
  if (decide (s2 < (t0.length : Int))) then
  ((F117 F t0 s2).bind fun r10 =>
  if (!r10) then
  (some (.stop ((.inr 3))))
  else
  some (.more ((wrapA .i64 (s2 + 1)))))
  else
  some (.stop ((.inl ())))
def F66 (F : Nat) (t0 : List Int) : Option Int :=
  if (decide ((t0.length : Int) > 10)) then
  (some 2)
  else
  (iter (F66_l0 F t0) F 0).bind fun b15 =>
  match b15 with
  | .inl b17 => (some 0)
  | .inr b17 => (some b17)

def F67_l0 (F : Nat) (t0 : List Int) (L2 : List Int) (s6 : (List Int) × Int) : Option (Stp ((List Int) × Int) ((List Int))) :=
  if (decide (s6.2 < (L2.length : Int))) then
  ((at? L2 s6.2).bind fun x16 =>
  (at? t0 0).bind fun x18 =>
  if (decide (x16 > x18)) then
  ((app? s6.1 ([(wrapA .i64 (x16 - 1))])).bind fun L25 =>
  some (.more ((L25, (wrapA .i64 (s6.2 + 1))))))
  else
  (app? s6.1 ([x16])).bind fun L35 =>
  some (.more ((L35, (wrapA .i64 (s6.2 + 1))))))
  else
  some (.stop s6.1)
def F67 : Nat → (List Int) → Option Int
  | 0, _ => none
  | F + 1, t0 =>
  let frec := F67 F
  if ((t0.length : Int) == 0) then
  (some 0)
  else
  (sub? t0 1 t0.length).bind fun L2 =>
  (iter (F67_l0 F t0 L2) F ([], 0)).bind fun b41 =>
  (at? t0 0).bind fun x46 =>
  (F65 F ((b41.length : Int))).bind fun r48 =>
  (frec b41).bind fun r52 =>
  some ((wrapA .i64 ((wrapA .i64 (x46 * r48)) + r52)))

def F9_l0 (F : Nat) (t0 : List Int) (s96 : Int) (s104 : Int × Int) : Option (Stp (Int × Int) (Int)) :=
  if (decide (s104.2 < (t0.length : Int))) then
  ((at? t0 s104.2).bind fun x110 =>
  (at? t0 s96).bind fun x112 =>
  if (decide (x110 < x112)) then
  (some (.more (((wrapA .i64 (s104.1 + 1)), (wrapA .i64 (s104.2 + 1))))))
  else
  some (.more ((s104.1, (wrapA .i64 (s104.2 + 1))))))
  else
  some (.stop s104.1)
def F9_l1 (F : Nat) (t0 : List Int) (r1 : (List Int) × Int) (s96 : Int) : Option (Stp (Int) (Unit ⊕ Bool)) :=
  if (decide (s96 < (t0.length : Int))) then
  ((iter (F9_l0 F t0 s96) F (0, (wrapA .i64 (s96 + 1)))).bind fun b115 =>
  (at? r1.1 s96).bind fun x119 =>
  if (x119 != b115) then
  (some (.stop ((.inr false))))
  else
  some (.more ((wrapA .i64 (s96 + 1)))))
  else
  some (.stop ((.inl ())))
def F9 (F : Nat) (t0 : List Int) (t1 : Int) (t2 : Int) : Option Bool :=
  (F60 F t0).bind fun r1 =>
  (F61 F t0).bind fun r7 =>
  (F62 F t0).bind fun r11 =>
  (F63 F t1).bind fun r17 =>
  (F64 F t1 t2).bind fun r21 =>
  (show Option (Unit ⊕ Bool) from (if ((decide (t1 < 0)) || (decide (t1 > 10))) then
  (if ((((r17.2 != 1) || (r17.1 != 0)) || (r21.2 != r17.2)) || (decide ((r21.1.length : Int) > 0))) then
  (some ((.inr false)))
  else
  some ((.inl ())))
  else
  (if (r17.2 != 0) then some true else 
  ((F65 F t1).bind fun r33 =>
  some (r17.1 != r33))
  ).bind fun y38 =>
  if y38 then
  (some ((.inr false)))
  else
  if ((decide (t2 < 0)) || (decide (t2 ≥ r17.1))) then
  (if ((r21.2 != 1) || (decide ((r21.1.length : Int) > 0))) then
  (some ((.inr false)))
  else
  some ((.inl ())))
  else
  (if ((r21.2 != 0) || ((r21.1.length : Int) != t1)) then some true else 
  ((F66 F r21.1).bind fun r48 =>
  some (r48 != 0))
  ).bind fun y53 =>
  (if y53 then some true else 
  ((F67 F r21.1).bind fun r57 =>
  some (r57 != t2))
  ).bind fun y62 =>
  if y62 then
  (some ((.inr false)))
  else
  some ((.inl ())))).bind fun b67 =>
  match b67 with
  | .inl b72 => ((F66 F t0).bind fun r75 =>
  if (r75 != 0) then
  (some ((((((r1.2 == r75) && (r7.2 == r75)) && (r11.2 == r75)) && ((wrapA .i64 ((r1.1.length : Int) + (r11.1.length : Int))) == 0)) && (r7.1 == 0))))
  else
  (if (((r1.2 != 0) || ((r1.1.length : Int) != (t0.length : Int))) || (r7.2 != 0)) then some true else 
  ((F67 F t0).bind fun r86 =>
  some (r7.1 != r86))
  ).bind fun y91 =>
  if y91 then
  (some false)
  else
  (iter (F9_l1 F t0 r1) F 0).bind fun b122 =>
  match b122 with
  | .inl b124 => ((F65 F ((t0.length : Int))).bind fun r127 =>
  if (r7.1 == (wrapA .i64 (r127 - 1))) then
  (some (((r11.2 == 4) && ((r11.1.length : Int) == 0))))
  else
  (if ((r11.2 == 0) && ((r11.1.length : Int) == (t0.length : Int))) then 
  ((F66 F r11.1).bind fun r134 =>
  some (r134 == 0))
   else some false).bind fun y139 =>
  (if y139 then 
  ((F67 F r11.1).bind fun r143 =>
  some (r143 == (wrapA .i64 (r7.1 + 1))))
   else some false).bind fun y148 =>
  some y148)
  | .inr b124 => (some b124))
  | .inr b72 => (some b72)

def F71_l0 (F : Nat) (t0 : List Int) (s3 : Int × Int) : Option (Stp (Int × Int) (Int ⊕ Int)) :=
  if (decide (s3.2 < (t0.length : Int))) then
  ((at? t0 s3.2).bind fun x11 =>
  if ((decide (x11 < 0)) || (decide (x11 > 12))) then
  (some (.stop ((.inr 1))))
  else
  some (.more (((wrapA .i64 (s3.1 + x11)), (wrapA .i64 (s3.2 + 1))))))
  else
  some (.stop ((.inl s3.1)))
def F71 (F : Nat) (t0 : List Int) (t1 : Int) : Option Int :=
  if ((decide ((t0.length : Int) < 1)) || (decide ((t0.length : Int) > 5))) then
  (some 2)
  else
  (iter (F71_l0 F t0) F (0, 0)).bind fun b15 =>
  match b15 with
  | .inl b17 => (if (b17 == 0) then
  (some 5)
  else
  if ((decide (t1 < 0)) || (decide (t1 > 12))) then
  (some 1)
  else
  some 0)
  | .inr b17 => (some b17)

def F68_l0 (F : Nat) (s31 : Int × (Int × Int) × (List Int) × (Int × Int)) (s45 : Int × Int) : Option (Stp (Int × Int) (Int)) :=
  if (decide (s45.2 < (s31.2.2.1.length : Int))) then
  ((at? s31.2.2.1 s45.2).bind fun x51 =>
  some (.more (((wrapA .i64 (s45.1 + x51)), (wrapA .i64 (s45.2 + 1))))))
  else
  some (.stop s45.1)
def F68_l1 (F : Nat) (t1 : Int) (t2 : List Int) (s31 : Int × (Int × Int) × (List Int) × (Int × Int)) : Option (Stp (Int × (Int × Int) × (List Int) × (Int × Int)) (((Int × Int) × (Int × Int)) ⊕ (Int × (Int × Int)))) :=
  if (decide (s31.1 < (t2.length : Int))) then
  ((at? t2 s31.1).bind fun x39 =>
  if ((decide (x39 < 0)) || (decide (x39 ≥ (s31.2.2.1.length : Int)))) then
  (some (.stop ((.inr (1, (0, 0))))))
  else
  (iter (F68_l0 F s31) F (0, 0)).bind fun b53 =>
  (at? s31.2.2.1 x39).bind fun x57 =>
  (F109 F x57 b53).bind fun r59 =>
  (F119 F ((s31.2.2.2.1, s31.2.2.2.2)) ((((r59.1.1, r59.1.2)).1, ((r59.1.1, r59.1.2)).2))).bind fun r69 =>
  if (r69.2 != 0) then
  (some (.stop ((.inr (r69.2, (0, 0))))))
  else
  (at? s31.2.2.1 x39).bind fun x84 =>
  (ck s31.2.2.1 x39).bind fun u86 =>
  some (.more (((wrapA .i64 (s31.1 + 1)), s31.2.1, (s31.2.2.1.set ((Int.toNat x39)) ((wrapA .i64 (x84 + t1)))), (((r69.1.1, r69.1.2)).1, ((r69.1.1, r69.1.2)).2)))))
  else
  some (.stop ((.inl (s31.2.1, s31.2.2.2))))
def F68 (F : Nat) (t0 : List Int) (t1 : Int) (t2 : List Int) : Option ((Int × Int) × Int) :=
  (F71 F t0 t1).bind fun r5 =>
  if (r5 != 0) then
  (some (((((0, 0)).1, ((0, 0)).2), r5)))
  else
  if (decide ((t2.length : Int) > 12)) then
  (some (((((0, 0)).1, ((0, 0)).2), 2)))
  else
  (app? ([]) t0).bind fun L19 =>
  (iter (F68_l1 F t1 t2) F (0, (0, 0), L19, (1, 1))).bind fun b90 =>
  match b90 with
  | .inl b92 => (some (((((b92.2.1, b92.2.2)).1, ((b92.2.1, b92.2.2)).2), 0)))
  | .inr b92 => (some (((b92.2.1, b92.2.2), b92.1)))

def F69_l0 (F : Nat) (t1 : Int) (t2 : List Int) (s17 : Int × (List Int)) : Option (Stp (Int × (List Int)) ((List Int) ⊕ ((List Int) × Int))) :=
  if (decide (s17.1 < (t2.length : Int))) then
  ((at? t2 s17.1).bind fun x26 =>
  if ((decide (x26 < 0)) || (decide (x26 ≥ (s17.2.length : Int)))) then
  (some (.stop ((.inr ([], 1)))))
  else
  (at? s17.2 x26).bind fun x30 =>
  if (x30 == 0) then
  (some (.stop ((.inr ([], 4)))))
  else
  (at? s17.2 x26).bind fun x33 =>
  (ck s17.2 x26).bind fun u35 =>
  some (.more (((wrapA .i64 (s17.1 + 1)), (s17.2.set ((Int.toNat x26)) ((wrapA .i64 (x33 + t1))))))))
  else
  some (.stop ((.inl s17.2)))
def F69 (F : Nat) (t0 : List Int) (t1 : Int) (t2 : List Int) : Option ((List Int) × Int) :=
  (F71 F t0 t1).bind fun r1 =>
  if (r1 != 0) then
  (some (([], r1)))
  else
  if (decide ((t2.length : Int) > 12)) then
  (some (([], 2)))
  else
  (app? ([]) t0).bind fun L11 =>
  (iter (F69_l0 F t1 t2) F (0, L11)).bind fun b39 =>
  match b39 with
  | .inl b41 => (some ((b41, 0)))
  | .inr b41 => (some ((b41.1, b41.2)))

def F137 (F : Nat) (t0 : Int) : Option Bool :=
  some (((decide (t0 < 0)) || (decide (t0 > 12))))

def F155_137_l0 (F : Nat) (t0 : List Int) (s1 : Int) : Option (Stp (Int) (Unit ⊕ Int)) :=
  if (decide (s1 < (t0.length : Int))) then
  ((at? t0 s1).bind fun x9 =>
  (F137 F x9).bind fun r11 =>
  if r11 then
  (some (.stop ((.inr s1))))
  else
  some (.more ((wrapA .i64 (s1 + 1)))))
  else
  some (.stop ((.inl ())))
def F155_137 (F : Nat) (t0 : List Int) : Option Int :=
  (iter (F155_137_l0 F t0) F 0).bind fun b16 =>
  match b16 with
  | .inl b18 => (some ((-1)))
  | .inr b18 => (some b18)

def F96_137 (F : Nat) (t0 : List Int) : Option Bool :=
  (F155_137 F t0).bind fun r1 =>
  some ((decide (r1 ≥ 0)))

def F70 (F : Nat) (t0 : List Int) (t1 : Int) : Option Int :=
  if (((t0.length : Int) == 0) || (decide ((t0.length : Int) > 5))) then
  (some 2)
  else
  (F96_137 F t0).bind fun r3 =>
  if r3 then
  (some 1)
  else
  (F95 F t0).bind fun r8 =>
  if (r8 == 0) then
  (some 5)
  else
  if ((decide (t1 < 0)) || (decide (t1 > 12))) then
  (some 1)
  else
  some 0

def F72_l0 (F : Nat) (t0 : List Int) (s5 : Int × Int) : Option (Stp (Int × Int) (Int)) :=
  if (decide (s5.2 < (t0.length : Int))) then
  ((at? t0 s5.2).bind fun x11 =>
  some (.more (((wrapA .i64 (s5.1 + x11)), (wrapA .i64 (s5.2 + 1))))))
  else
  some (.stop s5.1)
def F72_l1 (F : Nat) (x31 : Int) (L37 : List Int) (s41 : Int × Int) : Option (Stp (Int × Int) (Int)) :=
  if (decide (s41.2 < (L37.length : Int))) then
  ((at? L37 s41.2).bind fun x47 =>
  if (x47 == x31) then
  (some (.more (((wrapA .i64 (s41.1 + 1)), (wrapA .i64 (s41.2 + 1))))))
  else
  some (.more ((s41.1, (wrapA .i64 (s41.2 + 1))))))
  else
  some (.stop s41.1)
def F72_l2 (F : Nat) (t0 : List Int) (t1 : Int) (t2 : List Int) (b13 : Int) (s23 : Int × (Int × Int) × (Int × Int)) : Option (Stp (Int × (Int × Int) × (Int × Int)) (((Int × Int) × (Int × Int)) ⊕ (Int × (Int × Int)))) :=
  if (decide (s23.1 < (t2.length : Int))) then
  ((at? t2 s23.1).bind fun x31 =>
  if ((decide (x31 < 0)) || (decide (x31 ≥ (t0.length : Int)))) then
  (some (.stop ((.inr (1, (0, 0))))))
  else
  (sub? t2 0 s23.1).bind fun L37 =>
  (iter (F72_l1 F x31 L37) F (0, 0)).bind fun b50 =>
  (at? t0 x31).bind fun x54 =>
  (F21 F ((wrapA .i64 (x54 + (wrapA .i64 (b50 * t1))))) ((wrapA .i64 (b13 + (wrapA .i64 (s23.1 * t1)))))).bind fun r56 =>
  (F46 F ((s23.2.2.1, s23.2.2.2)) ((r56.1, r56.2))).bind fun r60 =>
  if (r60.2 != 0) then
  (some (.stop ((.inr (r60.2, (0, 0))))))
  else
  some (.more (((wrapA .i64 (s23.1 + 1)), s23.2.1, (r60.1.1, r60.1.2)))))
  else
  some (.stop ((.inl (s23.2.1, s23.2.2))))
def F72 (F : Nat) (t0 : List Int) (t1 : Int) (t2 : List Int) : Option ((Int × Int) × Int) :=
  (iter (F72_l0 F t0) F (0, 0)).bind fun b13 =>
  (iter (F72_l2 F t0 t1 t2 b13) F (0, (0, 0), (1, 1))).bind fun b69 =>
  match b69 with
  | .inl b71 => (some (((((b71.2.1, b71.2.2)).1, ((b71.2.1, b71.2.2)).2), 0)))
  | .inr b71 => (some (((b71.2.1, b71.2.2), b71.1)))

def F10_l0 (F : Nat) (t1 : Int) (t2 : List Int) (r11 : (List Int) × Int) (s58 : Int × (List Int)) : Option (Stp (Int × (List Int)) ((List Int) ⊕ Bool)) :=
  if (decide (s58.1 < (t2.length : Int))) then
  ((at? t2 s58.1).bind fun x66 =>
  if ((decide (x66 < 0)) || (decide (x66 ≥ (s58.2.length : Int)))) then
  (some (.stop ((.inr ((r11.2 == 1) && ((r11.1.length : Int) == 0))))))
  else
  (at? s58.2 x66).bind fun x71 =>
  if (x71 == 0) then
  (some (.stop ((.inr ((r11.2 == 4) && ((r11.1.length : Int) == 0))))))
  else
  (at? s58.2 x66).bind fun x75 =>
  (ck s58.2 x66).bind fun u77 =>
  some (.more (((wrapA .i64 (s58.1 + 1)), (s58.2.set ((Int.toNat x66)) ((wrapA .i64 (x75 + t1))))))))
  else
  some (.stop ((.inl s58.2)))
def F10 (F : Nat) (t0 : List Int) (t1 : Int) (t2 : List Int) : Option Bool :=
  (F68 F t0 t1 t2).bind fun r1 =>
  (F69 F t0 t1 t2).bind fun r11 =>
  (F70 F t0 t1).bind fun r17 =>
  (F71 F t0 t1).bind fun r21 =>
  if (r21 != r17) then
  (some false)
  else
  (show Option (Int) from (if ((r17 == 0) && (decide ((t2.length : Int) > 12))) then
  (some 2)
  else
  some r17)).bind fun b28 =>
  if (b28 != 0) then
  (some (((((r1.2 == b28) && (r11.2 == b28)) && (((r1.1.1, r1.1.2)).1 == 0 && (((r1.1.1, r1.1.2)).2 == 0 && true))) && ((r11.1.length : Int) == 0))))
  else
  (F72 F t0 t1 t2).bind fun r37 =>
  if (((r1.2 != r37.2) || ((r37.2 != 0) && (!(((r1.1.1, r1.1.2)).1 == 0 && (((r1.1.1, r1.1.2)).2 == 0 && true))))) || ((r37.2 == 0) && (!(((r1.1.1, r1.1.2)).1 == ((r37.1.1, r37.1.2)).1 && (((r1.1.1, r1.1.2)).2 == ((r37.1.1, r37.1.2)).2 && true))))) then
  (some false)
  else
  (F30 F t0).bind fun r52 =>
  (iter (F10_l0 F t1 t2 r11) F (0, r52)).bind fun b81 =>
  match b81 with
  | .inl b83 => ((if (r11.2 == 0) then 
  ((F31 F r11.1 b83).bind fun r86 =>
  some r86)
   else some false).bind fun y91 =>
  some y91)
  | .inr b83 => (some b83)

def F77_l0 (F : Nat) (t0 : List Int) (s2 : Int) : Option (Stp (Int) (Unit ⊕ Int)) :=
  if (decide (s2 < (t0.length : Int))) then
  ((at? t0 s2).bind fun x10 =>
  if ((decide (x10 < 0)) || (decide (x10 > s2))) then
  (some (.stop ((.inr 1))))
  else
  some (.more ((wrapA .i64 (s2 + 1)))))
  else
  some (.stop ((.inl ())))
def F77 (F : Nat) (t0 : List Int) : Option Int :=
  if (decide ((t0.length : Int) > 10)) then
  (some 2)
  else
  (iter (F77_l0 F t0) F 0).bind fun b14 =>
  match b14 with
  | .inl b16 => (some 0)
  | .inr b16 => (some b16)

def F73_l0 (F : Nat) (t0 : List Int) (s12 : Int × (List Int)) : Option (Stp (Int × (List Int)) ((List Int))) :=
  if (decide (s12.1 < (t0.length : Int))) then
  ((at? t0 s12.1).bind fun x18 =>
  (at? s12.2 x18).bind fun x20 =>
  (ck s12.2 s12.1).bind fun u22 =>
  (ck ((s12.2.set ((Int.toNat s12.1)) x20)) x18).bind fun u26 =>
  some (.more (((wrapA .i64 (s12.1 + 1)), (((s12.2.set ((Int.toNat s12.1)) x20)).set ((Int.toNat x18)) s12.1)))))
  else
  some (.stop s12.2)
def F73 (F : Nat) (t0 : List Int) : Option ((List Int) × Int) :=
  (F77 F t0).bind fun r1 =>
  if (r1 != 0) then
  (some (([], r1)))
  else
  (mk? (t0.length : Int) (0 : Int)).bind fun L6 =>
  (iter (F73_l0 F t0) F (0, L6)).bind fun b30 =>
  some ((b30, 0))

def F74_l0 (F : Nat) (s20 : Int × (List Int) × (List Int)) (L26 : List Int) (s30 : Int × (List Int)) : Option (Stp (Int × (List Int)) ((List Int))) :=
  if (decide (s30.1 < (L26.length : Int))) then
  ((at? L26 s30.1).bind fun x36 =>
  if (x36 == s20.1) then
  ((ck s30.2 s20.1).bind fun u39 =>
  some (.more (((wrapA .i64 (s30.1 + 1)), (s30.2.set ((Int.toNat s20.1)) s30.1)))))
  else
  some (.more (((wrapA .i64 (s30.1 + 1)), s30.2))))
  else
  some (.stop s30.2)
def F74_l1 (F : Nat)  (s20 : Int × (List Int) × (List Int)) : Option (Stp (Int × (List Int) × (List Int)) ((List Int))) :=
  if (decide (s20.1 ≥ 0)) then
  ((sub? s20.2.1 0 (wrapA .i64 (s20.1 + 1))).bind fun L26 =>
  (iter (F74_l0 F s20 L26) F (0, s20.2.2)).bind fun b43 =>
  (at? b43 s20.1).bind fun x47 =>
  (at? s20.2.1 s20.1).bind fun x49 =>
  (ck s20.2.1 x47).bind fun u51 =>
  some (.more (((wrapA .i64 (s20.1 - 1)), (s20.2.1.set ((Int.toNat x47)) x49), b43))))
  else
  some (.stop s20.2.2)
def F74 (F : Nat) (t0 : List Int) : Option ((List Int) × Int) :=
  (F133 F t0).bind fun r1 =>
  if (r1 != 0) then
  (some (([], r1)))
  else
  (mk? (t0.length : Int) (0 : Int)).bind fun L6 =>
  (mk? (t0.length : Int) (0 : Int)).bind fun L14 =>
  (iter (F74_l1 F) F ((wrapA .i64 ((((cpy L6 t0)).length : Int) - 1)), (cpy L6 t0), L14)).bind fun b55 =>
  some ((b55, 0))

def F138_l0 (F : Nat) (t0 : List Int) (s2 : Int) : Option (Stp (Int) (Unit ⊕ Int)) :=
  if (decide (s2 < (t0.length : Int))) then
  ((at? t0 s2).bind fun x10 =>
  if (decide (x10 > 1)) then
  (some (.stop ((.inr 3))))
  else
  some (.more ((wrapA .i64 (s2 + 1)))))
  else
  some (.stop ((.inl ())))
def F138 (F : Nat) (t0 : List Int) : Option Int :=
  if (decide ((t0.length : Int) > 200)) then
  (some 2)
  else
  (iter (F138_l0 F t0) F 0).bind fun b13 =>
  match b13 with
  | .inl b15 => (some 0)
  | .inr b15 => (some b15)

def F181_l0 (F : Nat) (t0 : Int) (s3 : Int) : Option (Stp (Int) (Int)) :=
  (shl? .i64 1 s3).bind fun x8 =>
  if (decide (x8 < t0)) then
  (some (.more ((wrapA .i64 (s3 + 1)))))
  else
  some (.stop s3)
def F181 (F : Nat) (t0 : Int) : Option (Int × Int) :=
  if ((decide (t0 < 1)) || (decide (t0 > 1024))) then
  (some ((0, 1)))
  else
  (iter (F181_l0 F t0) F 0).bind fun b11 =>
  some ((b11, 0))

def F163_l0 (F : Nat) (L19 : List Int) (s23 : Int × Int) : Option (Stp (Int × Int) (Int)) :=
  if (decide (s23.2 < (L19.length : Int))) then
  ((at? L19 s23.2).bind fun x29 =>
  some (.more (((wrapA .i64 ((wrapA .i64 (2 * s23.1)) + (wrapA .i64 x29))), (wrapA .i64 (s23.2 + 1))))))
  else
  some (.stop s23.1)
def F163_l1 (F : Nat) (t0 : List Int) (t1 : Int) (r6 : Int × Int) (s11 : Int) : Option (Stp (Int) (Unit ⊕ (Int × Int × Int))) :=
  if (decide ((wrapA .i64 (s11 + r6.1)) ≤ (t0.length : Int))) then
  ((sub? t0 s11 (wrapA .i64 (s11 + r6.1))).bind fun L19 =>
  (iter (F163_l0 F L19) F (0, 0)).bind fun b31 =>
  if (decide (b31 < t1)) then
  (some (.stop ((.inr (b31, (wrapA .i64 (s11 + r6.1)), 0)))))
  else
  some (.more ((wrapA .i64 (s11 + r6.1)))))
  else
  some (.stop ((.inl ())))
def F163 (F : Nat) (t0 : List Int) (t1 : Int) : Option (Int × Int × Int) :=
  (F138 F t0).bind fun r1 =>
  if (r1 != 0) then
  (some ((0, 0, r1)))
  else
  (F181 F t1).bind fun r6 =>
  if (r6.2 != 0) then
  (some ((0, 0, r6.2)))
  else
  (iter (F163_l1 F t0 t1 r6) F 0).bind fun b36 =>
  match b36 with
  | .inl b38 => (some ((0, 0, 6)))
  | .inr b38 => (some ((b38.1, b38.2.1, b38.2.2)))

def F139_l0 (F : Nat) (t0 : List Int) (t1 : List Int) (s7 : (List Int) × Int × Int) : Option (Stp ((List Int) × Int × Int) (((List Int) × Int) ⊕ ((List Int) × Int × Int))) :=
  if (decide (s7.2.2 < (t1.length : Int))) then
  ((at? t1 s7.2.2).bind fun x20 =>
  (sub? t0 s7.2.1 t0.length).bind fun L22 =>
  (F163 F L22 x20).bind fun r26 =>
  if (r26.2.2 != 0) then
  (some (.stop ((.inr ([], 0, r26.2.2)))))
  else
  (app? s7.1 ([r26.1])).bind fun L35 =>
  some (.more ((L35, (wrapA .i64 (s7.2.1 + r26.2.1)), (wrapA .i64 (s7.2.2 + 1))))))
  else
  some (.stop ((.inl (s7.1, s7.2.1))))
def F139 (F : Nat) (t0 : List Int) (t1 : List Int) : Option ((List Int) × Int × Int) :=
  (F138 F t0).bind fun r1 =>
  if (r1 != 0) then
  (some (([], 0, r1)))
  else
  if (decide ((t1.length : Int) > 30)) then
  (some (([], 0, 2)))
  else
  (iter (F139_l0 F t0 t1) F ([], 0, 0)).bind fun b41 =>
  match b41 with
  | .inl b43 => (some ((b43.1, b43.2, 0)))
  | .inr b43 => (some ((b43.1, b43.2.1, b43.2.2)))

def F75_l0 (F : Nat) (t1 : Int) (s8 : (List Int) × Int) : Option (Stp ((List Int) × Int) ((List Int))) :=
  if (decide (s8.2 < t1)) then
  ((app? s8.1 ([(wrapA .i64 (s8.2 + 1))])).bind fun L22 =>
  some (.more ((L22, (wrapA .i64 (s8.2 + 1))))))
  else
  some (.stop s8.1)
def F75 (F : Nat) (t0 : List Int) (t1 : Int) : Option ((List Int) × Int × Int) :=
  (F138 F t0).bind fun r1 =>
  if (r1 != 0) then
  (some (([], 0, r1)))
  else
  if ((decide (t1 < 0)) || (decide (t1 > 10))) then
  (some (([], 0, 1)))
  else
  (iter (F75_l0 F t1) F ([], 0)).bind fun b28 =>
  (F139 F t0 b28).bind fun r33 =>
  if (r33.2.2 != 0) then
  (some (([], 0, r33.2.2)))
  else
  (F73 F r33.1).bind fun r40 =>
  some ((r40.1, r33.2.1, 0))

def F76_l0 (F : Nat) (t0 : List Int) (s2 : Int) : Option (Stp (Int) (Unit ⊕ Int)) :=
  if (decide (s2 < (t0.length : Int))) then
  ((at? t0 s2).bind fun x10 =>
  if ((decide (x10 < 0)) || (decide (x10 > s2))) then
  (some (.stop ((.inr 1))))
  else
  some (.more ((wrapA .i64 (s2 + 1)))))
  else
  some (.stop ((.inl ())))
def F76 (F : Nat) (t0 : List Int) : Option Int :=
  if (decide ((t0.length : Int) > 10)) then
  (some 2)
  else
  (iter (F76_l0 F t0) F 0).bind fun b14 =>
  match b14 with
  | .inl b16 => (some 0)
  | .inr b16 => (some b16)

def F78_l0 (F : Nat) (t0 : List Int) (s1 : (List Int) × Int) : Option (Stp ((List Int) × Int) ((List Int))) :=
  if (decide (s1.2 < (t0.length : Int))) then
  ((at? t0 s1.2).bind fun x11 =>
  (app? s1.1 ([s1.2])).bind fun L17 =>
  (at? L17 x11).bind fun x23 =>
  (at? L17 s1.2).bind fun x25 =>
  (ck L17 s1.2).bind fun u27 =>
  (ck ((L17.set ((Int.toNat s1.2)) x23)) x11).bind fun u31 =>
  some (.more (((((L17.set ((Int.toNat s1.2)) x23)).set ((Int.toNat x11)) x25), (wrapA .i64 (s1.2 + 1))))))
  else
  some (.stop s1.1)
def F78 (F : Nat) (t0 : List Int) : Option ((List Int)) :=
  (iter (F78_l0 F t0) F ([], 0)).bind fun b35 =>
  some b35

def F141 (F : Nat) (t0 : Int) : Option Bool :=
  some ((decide (t0 > 1)))

def F164_141_l0 (F : Nat) (t0 : List Int) (s1 : Int) : Option (Stp (Int) (Unit ⊕ Int)) :=
  if (decide (s1 < (t0.length : Int))) then
  ((at? t0 s1).bind fun x9 =>
  (F141 F x9).bind fun r11 =>
  if r11 then
  (some (.stop ((.inr s1))))
  else
  some (.more ((wrapA .i64 (s1 + 1)))))
  else
  some (.stop ((.inl ())))
def F164_141 (F : Nat) (t0 : List Int) : Option Int :=
  (iter (F164_141_l0 F t0) F 0).bind fun b16 =>
  match b16 with
  | .inl b18 => (some ((-1)))
  | .inr b18 => (some b18)

def F140_141 (F : Nat) (t0 : List Int) : Option Bool :=
  (F164_141 F t0).bind fun r1 =>
  some ((decide (r1 ≥ 0)))

def F79 (F : Nat) (t0 : List Int) : Option Int :=
  if (decide ((t0.length : Int) > 200)) then
  (some 2)
  else
  (F140_141 F t0).bind fun r2 =>
  if r2 then
  (some 3)
  else
  some 0

def F165 : Nat → Int → Option Int
  | 0, _ => none
  | F + 1, t0 =>
  let frec := F165 F
  if (t0 == 1) then
  (some 0)
  else
  (frec ((wrapA .i64 (Int.tdiv (wrapA .i64 (t0 + 1)) 2)))).bind fun r2 =>
  some ((wrapA .i64 (1 + r2)))

def F142_l0 (F : Nat) (r3 : Int) (L8 : List Int) (s12 : Int × Int) : Option (Stp (Int × Int) (Int)) :=
  if (decide (s12.2 < (L8.length : Int))) then
  ((at? L8 s12.2).bind fun x18 =>
  (shl? .i64 (wrapA .i64 x18) (wrapA .i64 ((wrapA .i64 (r3 - 1)) - s12.2))).bind fun x20 =>
  some (.more (((wrapA .i64 (s12.1 + x20)), (wrapA .i64 (s12.2 + 1))))))
  else
  some (.stop s12.1)
def F142 : Nat → (List Int) → Int → Option (Int × Int × Int)
  | 0, _, _ => none
  | F + 1, t0, t1 =>
  let frec := F142 F
  if ((decide (t1 < 1)) || (decide (t1 > 1024))) then
  (some ((0, 0, 1)))
  else
  (F165 F t1).bind fun r3 =>
  if (decide ((t0.length : Int) < r3)) then
  (some ((0, 0, 6)))
  else
  (sub? t0 0 r3).bind fun L8 =>
  (iter (F142_l0 F r3 L8) F (0, 0)).bind fun b22 =>
  if (decide (b22 < t1)) then
  (some ((b22, r3, 0)))
  else
  (sub? t0 r3 t0.length).bind fun L27 =>
  (frec L27 t1).bind fun r31 =>
  if (r31.2.2 != 0) then
  (some ((0, 0, r31.2.2)))
  else
  some ((r31.1, (wrapA .i64 (r31.2.1 + r3)), 0))

def F80_l0 (F : Nat) (t0 : List Int) (t1 : List Int) (s1 : (List Int) × Int × Int) : Option (Stp ((List Int) × Int × Int) (((List Int) × Int) ⊕ ((List Int) × Int × Int))) :=
  if (decide (s1.2.2 < (t1.length : Int))) then
  ((at? t1 s1.2.2).bind fun x14 =>
  (sub? t0 s1.2.1 t0.length).bind fun L16 =>
  (F142 F L16 x14).bind fun r20 =>
  if (r20.2.2 != 0) then
  (some (.stop ((.inr ([], 0, r20.2.2)))))
  else
  (app? s1.1 ([r20.1])).bind fun L29 =>
  some (.more ((L29, (wrapA .i64 (s1.2.1 + r20.2.1)), (wrapA .i64 (s1.2.2 + 1))))))
  else
  some (.stop ((.inl (s1.1, s1.2.1))))
def F80 (F : Nat) (t0 : List Int) (t1 : List Int) : Option ((List Int) × Int × Int) :=
  (iter (F80_l0 F t0 t1) F ([], 0, 0)).bind fun b35 =>
  match b35 with
  | .inl b37 => (some ((b37.1, b37.2, 0)))
  | .inr b37 => (some ((b37.1, b37.2.1, b37.2.2)))

def F11_l0 (F : Nat) (t3 : Int) (s102 : (List Int)) : Option (Stp ((List Int)) ((List Int))) :=
  if (decide ((s102.length : Int) < t3)) then
  ((app? s102 ([(wrapA .i64 ((s102.length : Int) + 1))])).bind fun L116 =>
  some (.more L116))
  else
  some (.stop s102)
def F11 (F : Nat) (t0 : List Int) (t1 : List Int) (t2 : List Int) (t3 : Int) : Option Bool :=
  (F73 F t0).bind fun r1 =>
  (F74 F t1).bind fun r7 =>
  (F75 F t2 t3).bind fun r13 =>
  (F76 F t0).bind fun r19 =>
  (F77 F t0).bind fun r23 =>
  (if (((r23 != r19) || (r1.2 != r19)) || ((r19 != 0) && (decide ((r1.1.length : Int) > 0)))) then some true else 
  ((if (r19 == 0) then 
  ((F78 F t0).bind fun r30 =>
  (F32 F r1.1 r30).bind fun r36 =>
  some (!r36))
   else some false).bind fun y41 =>
  some y41)
  ).bind fun y46 =>
  if y46 then
  (some false)
  else
  (F66 F t1).bind fun r51 =>
  (if ((r7.2 != r51) || ((r51 != 0) && (decide ((r7.1.length : Int) > 0)))) then some true else 
  ((if (r51 == 0) then 
  ((F76 F r7.1).bind fun r57 =>
  (if (r57 != 0) then some true else 
  ((F78 F r7.1).bind fun r61 =>
  (F32 F r61 t1).bind fun r67 =>
  some (!r67))
  ).bind fun y72 =>
  some y72)
   else some false).bind fun y77 =>
  some y77)
  ).bind fun y82 =>
  if y82 then
  (some false)
  else
  (F79 F t2).bind fun r87 =>
  (show Option (Int) from (if ((r87 == 0) && ((decide (t3 < 0)) || (decide (t3 > 10)))) then
  (some 1)
  else
  some r87)).bind fun b94 =>
  if (b94 != 0) then
  (some ((((r13.2.2 == b94) && ((r13.1.length : Int) == 0)) && (r13.2.1 == 0))))
  else
  (iter (F11_l0 F t3) F []).bind fun b122 =>
  (F80 F t2 b122).bind fun r127 =>
  (if ((r13.2.2 == r127.2.2) && (r13.2.1 == r127.2.1)) then 
  ((if ((r127.2.2 != 0) && ((r13.1.length : Int) == 0)) then some true else 
  ((if (r127.2.2 == 0) then 
  ((F78 F r127.1).bind fun r135 =>
  (F32 F r13.1 r135).bind fun r141 =>
  some r141)
   else some false).bind fun y146 =>
  some y146)
  ).bind fun y151 =>
  some y151)
   else some false).bind fun y156 =>
  some y156

def F93_l0 (F : Nat) (L11 : List Int) (s16 : Int) : Option (Stp (Int) (Unit ⊕ Int)) :=
  if (decide (s16 < (L11.length : Int))) then
  ((at? L11 s16).bind fun x24 =>
  if ((decide (x24 < 0)) || (decide (x24 > 20))) then
  (some (.stop ((.inr 1))))
  else
  some (.more ((wrapA .i64 (s16 + 1)))))
  else
  some (.stop ((.inl ())))
def F93_l1 (F : Nat) (t0 : List (List Int)) (s3 : Int) : Option (Stp (Int) (Unit ⊕ Int)) :=
  if (decide (s3 < (t0.length : Int))) then
  ((at? t0 s3).bind fun L11 =>
  if ((L11.length : Int) != (t0.length : Int)) then
  (some (.stop ((.inr 3))))
  else
  (iter (F93_l0 F L11) F 0).bind fun b28 =>
  match b28 with
  | .inl b30 => (some (.more ((wrapA .i64 (s3 + 1)))))
  | .inr b30 => (some (.stop ((.inr b30)))))
  else
  some (.stop ((.inl ())))
def F93 (F : Nat) (t0 : List (List Int)) : Option Int :=
  if ((decide ((t0.length : Int) < 1)) || (decide ((t0.length : Int) > 5))) then
  (some 2)
  else
  (iter (F93_l1 F t0) F 0).bind fun b35 =>
  match b35 with
  | .inl b37 => (some 0)
  | .inr b37 => (some b37)

def F151_l0 (F : Nat) (t0 : List Int) (s1 : Int × Int) : Option (Stp (Int × Int) (Int)) :=
  if (decide (s1.2 < (t0.length : Int))) then
  ((at? t0 s1.2).bind fun x7 =>
  some (.more (((wrapA .i64 (s1.1 + x7)), (wrapA .i64 (s1.2 + 1))))))
  else
  some (.stop s1.1)
def F151 (F : Nat) (t0 : List Int) : Option Int :=
  (iter (F151_l0 F t0) F (0, 0)).bind fun b9 =>
  some b9

def F89_l0 (F : Nat) (t1 : List (Int × Int)) (s7 : Int) : Option (Stp (Int) (Unit ⊕ ((List (Int × Int)) × Int))) :=
  if (decide (s7 < (t1.length : Int))) then
  ((at? t1 s7).bind fun x16 =>
  (F150 F ((((x16.1, x16.2)).1, ((x16.1, x16.2)).2))).bind fun r24 =>
  if (r24 != 0) then
  (some (.stop ((.inr ([], r24)))))
  else
  some (.more ((wrapA .i64 (s7 + 1)))))
  else
  some (.stop ((.inl ())))
def F89_l1 (F : Nat) (L34 : List (Int × Int)) (s40 : Int × (List (Int × Int))) : Option (Stp (Int × (List (Int × Int))) ((List (Int × Int)))) :=
  if (decide (s40.1 < (L34.length : Int))) then
  ((at? s40.2 s40.1).bind fun x46 =>
  some (.more (((wrapA .i64 (s40.1 + 1)), (s40.2.set ((Int.toNat s40.1)) ((x46.1, 1)))))))
  else
  some (.stop s40.2)
def F89_l2 (F : Nat) (t1 : List (Int × Int)) (s54 : Int × (List (Int × Int))) (L63 : List Int) (r67 : Int) (s71 : Int × (List (Int × Int))) : Option (Stp (Int × (List (Int × Int))) (((List (Int × Int))) ⊕ ((List (Int × Int)) × Int))) :=
  if (decide (s71.1 < (L63.length : Int))) then
  ((at? L63 s71.1).bind fun x80 =>
  (show Option ((Int × Int)) from (if (r67 == 0) then
  (if (s54.1 == s71.1) then
  (some ((1, ((0, 1)).2)))
  else
  some ((0, 1)))
  else
  some ((x80, r67)))).bind fun b94 =>
  (F109 F b94.1 b94.2).bind fun r99 =>
  (at? t1 s54.1).bind fun x105 =>
  (F119 F ((x105.1, x105.2)) ((((r99.1.1, r99.1.2)).1, ((r99.1.1, r99.1.2)).2))).bind fun r107 =>
  if (r107.2 == 0) then
  ((at? s71.2 s71.1).bind fun x118 =>
  (F120 F ((x118.1, x118.2)) ((((r107.1.1, r107.1.2)).1, ((r107.1.1, r107.1.2)).2))).bind fun r120 =>
  (ck s71.2 s71.1).bind fun u124 =>
  if (r120.2 != 0) then
  (some (.stop ((.inr ([], r120.2)))))
  else
  some (.more (((wrapA .i64 (s71.1 + 1)), (s71.2.set ((Int.toNat s71.1)) ((r120.1.1, r120.1.2)))))))
  else
  if (r107.2 != 0) then
  (some (.stop ((.inr ([], r107.2)))))
  else
  some (.more (((wrapA .i64 (s71.1 + 1)), s71.2))))
  else
  some (.stop ((.inl s71.2)))
def F89_l3 (F : Nat) (t0 : List (List Int)) (t1 : List (Int × Int)) (s54 : Int × (List (Int × Int))) : Option (Stp (Int × (List (Int × Int))) (((List (Int × Int))) ⊕ ((List (Int × Int)) × Int))) :=
  if (decide (s54.1 < (t0.length : Int))) then
  ((at? t0 s54.1).bind fun L63 =>
  (F151 F L63).bind fun r67 =>
  (iter (F89_l2 F t1 s54 L63 r67) F (0, s54.2)).bind fun b130 =>
  match b130 with
  | .inl b132 => (some (.more (((wrapA .i64 (s54.1 + 1)), b132))))
  | .inr b132 => (some (.stop ((.inr (b132.1, b132.2))))))
  else
  some (.stop ((.inl s54.2)))
def F89 (F : Nat) (t0 : List (List Int)) (t1 : List (Int × Int)) : Option ((List (Int × Int)) × Int) :=
  (F93 F t0).bind fun r1 =>
  if (r1 != 0) then
  (some (([], r1)))
  else
  if ((t1.length : Int) != (t0.length : Int)) then
  (some (([], 3)))
  else
  (iter (F89_l0 F t1) F 0).bind fun b29 =>
  match b29 with
  | .inl b31 => ((mk? (t0.length : Int) ((0, 0) : Int × Int)).bind fun L34 =>
  (iter (F89_l1 F L34) F (0, L34)).bind fun b50 =>
  (iter (F89_l3 F t0 t1) F (0, b50)).bind fun b138 =>
  match b138 with
  | .inl b140 => (some ((b140, 0)))
  | .inr b140 => (some ((b140.1, b140.2))))
  | .inr b31 => (some ((b31.1, b31.2)))

def F170_l0 (F : Nat) (c0 : Int) (c1 : Int) (c2 : (List Int)) (s11 : Int × Int) : Option (Stp (Int × Int) (Int)) :=
  if (decide (s11.2 < c0)) then
  (if (s11.1 != c1) then
  ((at? c2 s11.1).bind fun x18 =>
  some (.more ((x18, (wrapA .i64 (s11.2 + 1))))))
  else
  some (.more ((s11.1, (wrapA .i64 (s11.2 + 1))))))
  else
  some (.stop s11.1)
def F170_l1 (F : Nat) (c0 : Int) (c1 : Int) (c2 : (List Int)) (s3 : Int) : Option (Stp (Int) (Unit ⊕ Unit)) :=
  if (decide (s3 < c0)) then
  ((iter (F170_l0 F c0 c1 c2) F (s3, 0)).bind fun b20 =>
  if (b20 != c1) then
  (some (.stop ((.inr ()))))
  else
  some (.more ((wrapA .i64 (s3 + 1)))))
  else
  some (.stop ((.inl ())))
def F170_l2 (F : Nat) (t0 : Int) (t1 : Int) (c0 : Int) (c1 : Int) (c5 : List (List Int)) (frec : Int → Int → Int → Int → ((List Int)) → Int → (List (List Int)) → Option (((List Int)) × Int)) (s44 : Int × (List Int) × Int) : Option (Stp (Int × (List Int) × Int) ((List Int) × Int)) :=
  if (decide (s44.1 < c0)) then
  (if (s44.1 != t0) then
  ((ck s44.2.1 t0).bind fun u55 =>
  (at? c5 t0).bind fun L61 =>
  (at? L61 s44.1).bind fun x65 =>
  (frec ((wrapA .i64 (t0 + 1))) ((wrapA .i64 (t1 * x65))) c0 c1 ((s44.2.1.set ((Int.toNat t0)) s44.1)) s44.2.2 c5).bind fun r67 =>
  some (.more (((wrapA .i64 (s44.1 + 1)), r67.1, r67.2))))
  else
  some (.more (((wrapA .i64 (s44.1 + 1)), s44.2.1, s44.2.2))))
  else
  some (.stop ((s44.2.1, s44.2.2)))
def F170 : Nat → Int → Int → Int → Int → ((List Int)) → Int → (List (List Int)) → Option (((List Int)) × Int)
  | 0, _, _, _, _, _, _, _ => none
  | F + 1, t0, t1, c0, c1, c2, c3, c5 =>
  let frec := F170 F
  if (t1 == 0) then
  (some ((c2, c3)))
  else
  if (t0 == c0) then
  ((iter (F170_l1 F c0 c1 c2) F 0).bind fun b25 =>
  match b25 with
  | .inl b27 => (some ((c2, (wrapA .i64 (c3 + t1)))))
  | .inr b27 => (some ((c2, c3))))
  else
  if (t0 == c1) then
  ((frec ((wrapA .i64 (t0 + 1))) t1 c0 c1 c2 c3 c5).bind fun r35 =>
  some ((r35.1, r35.2)))
  else
  (iter (F170_l2 F t0 t1 c0 c1 c5 frec) F (0, c2, c3)).bind fun b76 =>
  some ((b76.1, b76.2))

def F152 (F : Nat) (t0 : List (List Int)) (t1 : Int) : Option Int :=
  (mk? ((t0.length : Int)) (0 : Int)).bind fun L23 =>
  (F170 F 0 1 ((t0.length : Int)) t1 L23 0 t0).bind fun r45 =>
  some r45.2

def F90_l0 (F : Nat) (t0 : List (List Int)) (s12 : Bool × Int × (List Int)) : Option (Stp (Bool × Int × (List Int)) (Bool × (List Int))) :=
  if (decide (s12.2.1 < (t0.length : Int))) then
  ((F152 F t0 s12.2.1).bind fun r18 =>
  (ck s12.2.2 s12.2.1).bind fun u22 =>
  (if s12.1 then some true else 
  ((at? ((s12.2.2.set ((Int.toNat s12.2.1)) r18)) s12.2.1).bind fun x26 =>
  some (decide (x26 > 0)))
  ).bind fun y29 =>
  some (.more ((y29, (wrapA .i64 (s12.2.1 + 1)), (s12.2.2.set ((Int.toNat s12.2.1)) r18)))))
  else
  some (.stop ((s12.1, s12.2.2)))
def F90 (F : Nat) (t0 : List (List Int)) : Option ((List Int) × Int) :=
  (F93 F t0).bind fun r1 =>
  if (r1 != 0) then
  (some (([], r1)))
  else
  (mk? (t0.length : Int) (0 : Int)).bind fun L6 =>
  (iter (F90_l0 F t0) F (false, 0, L6)).bind fun b31 =>
  if (!b31.1) then
  (some (([], 4)))
  else
  some ((b31.2, 0))

def F91_l0 (F : Nat) (t1 : List Int) (s7 : Int) : Option (Stp (Int) (Unit ⊕ (Bool × Int))) :=
  if (decide (s7 < (t1.length : Int))) then
  ((at? t1 s7).bind fun x15 =>
  if ((decide (x15 < 0)) || (decide (x15 > 1000000000))) then
  (some (.stop ((.inr (false, 1)))))
  else
  some (.more ((wrapA .i64 (s7 + 1)))))
  else
  some (.stop ((.inl ())))
def F91_l1 (F : Nat) (t0 : List (List Int)) (t1 : List Int) (s24 : Int) (L32 : List Int) (s36 : Int) : Option (Stp (Int) (Unit ⊕ (Bool × Int))) :=
  if (decide (s36 < (L32.length : Int))) then
  ((at? L32 s36).bind fun x44 =>
  (at? t1 s24).bind fun x46 =>
  (at? t1 s36).bind fun x48 =>
  (at? t0 s36).bind fun L50 =>
  (at? L50 s24).bind fun x54 =>
  if ((wrapA .i64 (x46 * x44)) != (wrapA .i64 (x48 * x54))) then
  (some (.stop ((.inr (false, 0)))))
  else
  some (.more ((wrapA .i64 (s36 + 1)))))
  else
  some (.stop ((.inl ())))
def F91_l2 (F : Nat) (t0 : List (List Int)) (t1 : List Int) (s24 : Int) : Option (Stp (Int) (Unit ⊕ (Bool × Int))) :=
  if (decide (s24 < (t0.length : Int))) then
  ((at? t0 s24).bind fun L32 =>
  (iter (F91_l1 F t0 t1 s24 L32) F 0).bind fun b57 =>
  match b57 with
  | .inl b59 => (some (.more ((wrapA .i64 (s24 + 1)))))
  | .inr b59 => (some (.stop ((.inr (b59.1, b59.2))))))
  else
  some (.stop ((.inl ())))
def F91 (F : Nat) (t0 : List (List Int)) (t1 : List Int) : Option (Bool × Int) :=
  (F93 F t0).bind fun r1 =>
  if (r1 != 0) then
  (some ((false, r1)))
  else
  if ((t1.length : Int) != (t0.length : Int)) then
  (some ((false, 3)))
  else
  (iter (F91_l0 F t1) F 0).bind fun b19 =>
  match b19 with
  | .inl b21 => ((iter (F91_l2 F t0 t1) F 0).bind fun b64 =>
  match b64 with
  | .inl b66 => (some ((true, 0)))
  | .inr b66 => (some ((b66.1, b66.2))))
  | .inr b21 => (some ((b21.1, b21.2)))

def F153 (F : Nat) (t0 : Int) : Option Bool :=
  some (((decide (t0 < 0)) || (decide (t0 > 20))))

def F155_153_l0 (F : Nat) (t0 : List Int) (s1 : Int) : Option (Stp (Int) (Unit ⊕ Int)) :=
  if (decide (s1 < (t0.length : Int))) then
  ((at? t0 s1).bind fun x9 =>
  (F153 F x9).bind fun r11 =>
  if r11 then
  (some (.stop ((.inr s1))))
  else
  some (.more ((wrapA .i64 (s1 + 1)))))
  else
  some (.stop ((.inl ())))
def F155_153 (F : Nat) (t0 : List Int) : Option Int :=
  (iter (F155_153_l0 F t0) F 0).bind fun b16 =>
  match b16 with
  | .inl b18 => (some ((-1)))
  | .inr b18 => (some b18)

def F96_153 (F : Nat) (t0 : List Int) : Option Bool :=
  (F155_153 F t0).bind fun r1 =>
  some ((decide (r1 ≥ 0)))

def F92_l0 (F : Nat) (t0 : List (List Int)) (s3 : Int) : Option (Stp (Int) (Unit ⊕ Int)) :=
  if (decide (s3 < (t0.length : Int))) then
  ((at? t0 s3).bind fun L11 =>
  if ((L11.length : Int) != (t0.length : Int)) then
  (some (.stop ((.inr 3))))
  else
  (F96_153 F L11).bind fun r16 =>
  if r16 then
  (some (.stop ((.inr 1))))
  else
  some (.more ((wrapA .i64 (s3 + 1)))))
  else
  some (.stop ((.inl ())))
def F92 (F : Nat) (t0 : List (List Int)) : Option Int :=
  if (((t0.length : Int) == 0) || (decide ((t0.length : Int) > 5))) then
  (some 2)
  else
  (iter (F92_l0 F t0) F 0).bind fun b21 =>
  match b21 with
  | .inl b23 => (some 0)
  | .inr b23 => (some b23)

def F154_l0 (F : Nat) (s6 : Int × Int) (L14 : List (List Int)) (s18 : (List (List Int)) × Int) : Option (Stp ((List (List Int)) × Int) ((List (List Int)))) :=
  if (decide (s18.2 < (L14.length : Int))) then
  ((at? L14 s18.2).bind fun L28 =>
  (sub? L28 0 s6.2).bind fun L32 =>
  (F30 F L32).bind fun r36 =>
  (sub? L28 (wrapA .i64 (s6.2 + 1)) L28.length).bind fun L42 =>
  (app? r36 L42).bind fun L46 =>
  (app? s18.1 ([L46])).bind fun L56 =>
  some (.more ((L56, (wrapA .i64 (s18.2 + 1))))))
  else
  some (.stop s18.1)
def F154_l1 (F : Nat) (t0 : List (List Int)) (frec : (List (List Int)) → Option Int) (L2 : List Int) (s6 : Int × Int) : Option (Stp (Int × Int) (Int)) :=
  if (decide (s6.2 < (L2.length : Int))) then
  ((at? L2 s6.2).bind fun x12 =>
  (sub? t0 1 t0.length).bind fun L14 =>
  (iter (F154_l0 F s6 L14) F ([], 0)).bind fun b62 =>
  if ((Int.tmod s6.2 2) == 1) then
  ((frec b62).bind fun r68 =>
  some (.more (((wrapA .i64 (s6.1 + (wrapA .i64 ((wrapA .i64 (0 - x12)) * r68)))), (wrapA .i64 (s6.2 + 1))))))
  else
  (frec b62).bind fun r72 =>
  some (.more (((wrapA .i64 (s6.1 + (wrapA .i64 (x12 * r72)))), (wrapA .i64 (s6.2 + 1))))))
  else
  some (.stop s6.1)
def F154 : Nat → (List (List Int)) → Option Int
  | 0, _ => none
  | F + 1, t0 =>
  let frec := F154 F
  if ((t0.length : Int) == 0) then
  (some 1)
  else
  (at? t0 0).bind fun L2 =>
  (iter (F154_l1 F t0 frec L2) F (0, 0)).bind fun b76 =>
  some b76

def F94_l0 (F : Nat) (s11 : (List (List Int)) × Int) (L40 : List Int) (s44 : Int × Int) : Option (Stp (Int × Int) (Int)) :=
  if (decide (s44.2 < (L40.length : Int))) then
  ((at? L40 s44.2).bind fun x50 =>
  if (s44.2 != s11.2) then
  (some (.more (((wrapA .i64 (s44.1 + x50)), (wrapA .i64 (s44.2 + 1))))))
  else
  some (.more ((s44.1, (wrapA .i64 (s44.2 + 1))))))
  else
  some (.stop s44.1)
def F94_l1 (F : Nat) (t0 : List (List Int)) (s1 : (List Int) × Int) (s11 : (List (List Int)) × Int) (s22 : (List Int) × Int) : Option (Stp ((List Int) × Int) ((List Int))) :=
  if (decide (s22.2 < (t0.length : Int))) then
  (if (s22.2 == s1.2) then
  (some (.more ((s22.1, (wrapA .i64 (s22.2 + 1))))))
  else
  (at? t0 s11.2).bind fun L33 =>
  (at? L33 s22.2).bind fun x37 =>
  if (s11.2 == s22.2) then
  ((at? t0 s11.2).bind fun L40 =>
  (iter (F94_l0 F s11 L40) F (0, 0)).bind fun b53 =>
  (app? s22.1 ([b53])).bind fun L61 =>
  some (.more ((L61, (wrapA .i64 (s22.2 + 1))))))
  else
  (app? s22.1 ([(wrapA .i64 (0 - x37))])).bind fun L71 =>
  some (.more ((L71, (wrapA .i64 (s22.2 + 1))))))
  else
  some (.stop s22.1)
def F94_l2 (F : Nat) (t0 : List (List Int)) (s1 : (List Int) × Int) (s11 : (List (List Int)) × Int) : Option (Stp ((List (List Int)) × Int) ((List (List Int)))) :=
  if (decide (s11.2 < (t0.length : Int))) then
  (if (s11.2 == s1.2) then
  (some (.more ((s11.1, (wrapA .i64 (s11.2 + 1))))))
  else
  (iter (F94_l1 F t0 s1 s11) F ([], 0)).bind fun b77 =>
  (app? s11.1 ([b77])).bind fun L86 =>
  some (.more ((L86, (wrapA .i64 (s11.2 + 1))))))
  else
  some (.stop s11.1)
def F94_l3 (F : Nat) (t0 : List (List Int)) (s1 : (List Int) × Int) : Option (Stp ((List Int) × Int) ((List Int))) :=
  if (decide (s1.2 < (t0.length : Int))) then
  ((iter (F94_l2 F t0 s1) F ([], 0)).bind fun b92 =>
  (F154 F b92).bind fun r97 =>
  (app? s1.1 ([r97])).bind fun L105 =>
  some (.more ((L105, (wrapA .i64 (s1.2 + 1))))))
  else
  some (.stop s1.1)
def F94 (F : Nat) (t0 : List (List Int)) : Option ((List Int)) :=
  (iter (F94_l3 F t0) F ([], 0)).bind fun b111 =>
  some b111

def F97 (F : Nat) (t0 : Int) : Option Bool :=
  some (((decide (t0 < 0)) || (decide (t0 > 1000000000))))

def F155_97_l0 (F : Nat) (t0 : List Int) (s1 : Int) : Option (Stp (Int) (Unit ⊕ Int)) :=
  if (decide (s1 < (t0.length : Int))) then
  ((at? t0 s1).bind fun x9 =>
  (F97 F x9).bind fun r11 =>
  if r11 then
  (some (.stop ((.inr s1))))
  else
  some (.more ((wrapA .i64 (s1 + 1)))))
  else
  some (.stop ((.inl ())))
def F155_97 (F : Nat) (t0 : List Int) : Option Int :=
  (iter (F155_97_l0 F t0) F 0).bind fun b16 =>
  match b16 with
  | .inl b18 => (some ((-1)))
  | .inr b18 => (some b18)

def F96_97 (F : Nat) (t0 : List Int) : Option Bool :=
  (F155_97 F t0).bind fun r1 =>
  some ((decide (r1 ≥ 0)))

def F98 (F : Nat) (t0 : Int × Int) : Option Int :=
  if ((((decide (((t0.1, t0.2)).2 < 1)) || (decide (((t0.1, t0.2)).2 > 1000000000))) || (decide (((t0.1, t0.2)).1 < (-1000000000)))) || (decide (((t0.1, t0.2)).1 > 1000000000))) then
  (some 1)
  else
  (F127 F (((t0.1, t0.2)).1) (((t0.1, t0.2)).2)).bind fun r9 =>
  if (r9 != 1) then
  (some 3)
  else
  some 0

def F99_l0 (F : Nat) (L1 : List (Int × Int)) (s7 : Int × (List (Int × Int))) : Option (Stp (Int × (List (Int × Int))) ((List (Int × Int)))) :=
  if (decide (s7.1 < (L1.length : Int))) then
  ((ck s7.2 s7.1).bind fun u13 =>
  some (.more (((wrapA .i64 (s7.1 + 1)), (s7.2.set ((Int.toNat s7.1)) ((0, 1)))))))
  else
  some (.stop s7.2)
def F99_l1 (F : Nat) (L30 : List Int) (s34 : Int × Int) : Option (Stp (Int × Int) (Int)) :=
  if (decide (s34.2 < (L30.length : Int))) then
  ((at? L30 s34.2).bind fun x40 =>
  some (.more (((wrapA .i64 (s34.1 + x40)), (wrapA .i64 (s34.2 + 1))))))
  else
  some (.stop s34.1)
def F99_l2 (F : Nat) (t1 : List (Int × Int)) (s21 : Int × (List (Int × Int))) (L30 : List Int) (b42 : Int) (s46 : Int × (List (Int × Int))) : Option (Stp (Int × (List (Int × Int))) (((List (Int × Int))) ⊕ ((List (Int × Int)) × Int))) :=
  if (decide (s46.1 < (L30.length : Int))) then
  ((at? L30 s46.1).bind fun x55 =>
  (show Option ((Int × Int)) from (if (decide (b42 > 0)) then
  ((F21 F x55 b42).bind fun r64 =>
  some ((r64.1, r64.2)))
  else
  if (s21.1 == s46.1) then
  (some ((1, ((0, 1)).2)))
  else
  some ((0, 1)))).bind fun b73 =>
  (at? t1 s21.1).bind fun x78 =>
  (F46 F ((x78.1, x78.2)) ((b73.1, b73.2))).bind fun r80 =>
  if (r80.2 == 0) then
  ((at? s46.2 s46.1).bind fun x91 =>
  (F47 F ((x91.1, x91.2)) ((((r80.1.1, r80.1.2)).1, ((r80.1.1, r80.1.2)).2))).bind fun r93 =>
  if (r93.2 != 0) then
  (some (.stop ((.inr ([], r93.2)))))
  else
  (ck s46.2 s46.1).bind fun u100 =>
  some (.more (((wrapA .i64 (s46.1 + 1)), (s46.2.set ((Int.toNat s46.1)) ((((r93.1.1, r93.1.2)).1, ((r93.1.1, r93.1.2)).2)))))))
  else
  if (r80.2 != 0) then
  (some (.stop ((.inr ([], r80.2)))))
  else
  (ck s46.2 s46.1).bind fun u105 =>
  some (.more (((wrapA .i64 (s46.1 + 1)), (s46.2.set ((Int.toNat s46.1)) ((((r80.1.1, r80.1.2)).1, ((r80.1.1, r80.1.2)).2)))))))
  else
  some (.stop ((.inl s46.2)))
def F99_l3 (F : Nat) (t0 : List (List Int)) (t1 : List (Int × Int)) (s21 : Int × (List (Int × Int))) : Option (Stp (Int × (List (Int × Int))) (((List (Int × Int))) ⊕ ((List (Int × Int)) × Int))) :=
  if (decide (s21.1 < (t0.length : Int))) then
  ((at? t0 s21.1).bind fun L30 =>
  (iter (F99_l1 F L30) F (0, 0)).bind fun b42 =>
  (iter (F99_l2 F t1 s21 L30 b42) F (0, s21.2)).bind fun b109 =>
  match b109 with
  | .inl b111 => (some (.more (((wrapA .i64 (s21.1 + 1)), b111))))
  | .inr b111 => (some (.stop ((.inr (b111.1, b111.2))))))
  else
  some (.stop ((.inl s21.2)))
def F99 (F : Nat) (t0 : List (List Int)) (t1 : List (Int × Int)) : Option ((List (Int × Int)) × Int) :=
  (mk? (t0.length : Int) ((0, 0) : Int × Int)).bind fun L1 =>
  (iter (F99_l0 F L1) F (0, L1)).bind fun b17 =>
  (iter (F99_l3 F t0 t1) F (0, b17)).bind fun b117 =>
  match b117 with
  | .inl b119 => (some ((b119, 0)))
  | .inr b119 => (some ((b119.1, b119.2)))

def F156_l0 (F : Nat) (t0 : List (Int × Int)) (t1 : List (Int × Int)) (s2 : Int) : Option (Stp (Int) (Unit ⊕ Bool)) :=
  if (decide (s2 < (t0.length : Int))) then
  ((at? t0 s2).bind fun x10 =>
  (at? t1 s2).bind fun x12 =>
  if (!(x10.1 == x12.1 && (x10.2 == x12.2 && true))) then
  (some (.stop ((.inr false))))
  else
  some (.more ((wrapA .i64 (s2 + 1)))))
  else
  some (.stop ((.inl ())))
def F156 (F : Nat) (t0 : List (Int × Int)) (t1 : List (Int × Int)) : Option Bool :=
  if ((t0.length : Int) != (t1.length : Int)) then
  (some false)
  else
  (iter (F156_l0 F t0 t1) F 0).bind fun b15 =>
  match b15 with
  | .inl b17 => (some true)
  | .inr b17 => (some b17)

def F100 (F : Nat) (t0 : List (Int × Int)) (t1 : List (Int × Int)) : Option Bool :=
  (F156 F t0 t1).bind fun r1 =>
  some r1

def F13_l0 (F : Nat) (t0 : List (List Int)) (t2 : List Int) (b68 : Int) (s73 : Bool × Int) (s79 : Bool × Int) : Option (Stp (Bool × Int) (Bool)) :=
  if (decide (s79.2 < s73.2)) then
  ((if (b68 == 0) then 
  ((at? t2 s73.2).bind fun x85 =>
  (at? t0 s73.2).bind fun L87 =>
  (at? L87 s79.2).bind fun x91 =>
  (at? t2 s79.2).bind fun x93 =>
  (at? t0 s79.2).bind fun L95 =>
  (at? L95 s73.2).bind fun x99 =>
  some ((wrapA .i64 (x85 * x91)) != (wrapA .i64 (x93 * x99))))
   else some false).bind fun y102 =>
  if y102 then
  (some (.more ((false, (wrapA .i64 (s79.2 + 1))))))
  else
  some (.more ((s79.1, (wrapA .i64 (s79.2 + 1))))))
  else
  some (.stop s79.1)
def F13_l1 (F : Nat) (t0 : List (List Int)) (t2 : List Int) (b68 : Int) (s73 : Bool × Int) : Option (Stp (Bool × Int) (Bool)) :=
  if (decide (s73.2 < (t0.length : Int))) then
  ((iter (F13_l0 F t0 t2 b68 s73) F (s73.1, 0)).bind fun b105 =>
  some (.more ((b105, (wrapA .i64 (s73.2 + 1))))))
  else
  some (.stop s73.1)
def F13_l2 (F : Nat) (t1 : List (Int × Int)) (r1 : (List (Int × Int)) × Int) (s117 : Int) : Option (Stp (Int) (Unit ⊕ Bool)) :=
  if (decide (s117 < (t1.length : Int))) then
  ((at? t1 s117).bind fun x125 =>
  (F98 F ((((x125.1, x125.2)).1, ((x125.1, x125.2)).2))).bind fun r133 =>
  if (r133 != 0) then
  (some (.stop ((.inr ((r1.2 == r133) && ((r1.1.length : Int) == 0))))))
  else
  some (.more ((wrapA .i64 (s117 + 1)))))
  else
  some (.stop ((.inl ())))
def F13 (F : Nat) (t0 : List (List Int)) (t1 : List (Int × Int)) (t2 : List Int) : Option Bool :=
  (F89 F t0 t1).bind fun r1 =>
  (F90 F t0).bind fun r7 =>
  (F91 F t0 t2).bind fun r13 =>
  (F92 F t0).bind fun r17 =>
  (F93 F t0).bind fun r21 =>
  if (r21 != r17) then
  (some false)
  else
  if (r17 != 0) then
  (some ((((((r1.2 == r17) && (r7.2 == r17)) && (r13.2 == r17)) && ((wrapA .i64 ((r1.1.length : Int) + (r7.1.length : Int))) == 0)) && (!r13.1))))
  else
  (F94 F t0).bind fun r31 =>
  (F95 F r31).bind fun r37 =>
  (show Option (Unit ⊕ Bool) from (if (r37 == 0) then
  (if ((r7.2 != 4) || (decide ((r7.1.length : Int) > 0))) then
  (some ((.inr false)))
  else
  some ((.inl ())))
  else
  (if (r7.2 != 0) then some true else 
  ((F31 F r7.1 r31).bind fun r44 =>
  some (!r44))
  ).bind fun y49 =>
  if y49 then
  (some ((.inr false)))
  else
  some ((.inl ())))).bind fun b54 =>
  match b54 with
  | .inl b59 => ((show Option (Int) from (if ((t2.length : Int) != (t0.length : Int)) then
  (some 3)
  else
  (F96_97 F t2).bind fun r63 =>
  if r63 then
  (some 1)
  else
  some 0)).bind fun b68 =>
  (iter (F13_l1 F t0 t2 b68) F ((b68 == 0), 0)).bind fun b109 =>
  if ((r13.2 != b68) || (!(r13.1 == b109))) then
  (some false)
  else
  if ((t1.length : Int) != (t0.length : Int)) then
  (some (((r1.2 == 3) && ((r1.1.length : Int) == 0))))
  else
  (iter (F13_l2 F t1 r1) F 0).bind fun b139 =>
  match b139 with
  | .inl b141 => ((F99 F t0 t1).bind fun r144 =>
  (if (r1.2 == r144.2) then 
  ((F100 F r1.1 r144.1).bind fun r150 =>
  some r150)
   else some false).bind fun y155 =>
  some y155)
  | .inr b141 => (some b141))
  | .inr b59 => (some b59)

def F106_l0 (F : Nat) (t1 : List Int) (s4 : Int) : Option (Stp (Int) (Unit ⊕ Int)) :=
  if (decide (s4 < (t1.length : Int))) then
  ((at? t1 s4).bind fun x12 =>
  if ((decide (x12 < 0)) || (decide (x12 > s4))) then
  (some (.stop ((.inr 3))))
  else
  some (.more ((wrapA .i64 (s4 + 1)))))
  else
  some (.stop ((.inl ())))
def F106 (F : Nat) (t0 : Int) (t1 : List Int) : Option Int :=
  if ((decide (t0 < 1)) || (decide (t0 > 12))) then
  (some 1)
  else
  if (decide ((t1.length : Int) > 30)) then
  (some 2)
  else
  (iter (F106_l0 F t1) F 0).bind fun b16 =>
  match b16 with
  | .inl b18 => (some 0)
  | .inr b18 => (some b18)

def F101_l0 (F : Nat) (t0 : Int) (t1 : List Int) (s6 : (List Int) × Int) : Option (Stp ((List Int) × Int) ((List Int))) :=
  if (decide (s6.2 < (t1.length : Int))) then
  ((at? t1 s6.2).bind fun x16 =>
  if (decide (s6.2 < t0)) then
  ((app? s6.1 ([s6.2])).bind fun L23 =>
  some (.more ((L23, (wrapA .i64 (s6.2 + 1))))))
  else
  if (decide (x16 < t0)) then
  ((ck s6.1 x16).bind fun u30 =>
  some (.more (((s6.1.set ((Int.toNat x16)) s6.2), (wrapA .i64 (s6.2 + 1))))))
  else
  some (.more ((s6.1, (wrapA .i64 (s6.2 + 1))))))
  else
  some (.stop s6.1)
def F101 (F : Nat) (t0 : Int) (t1 : List Int) : Option ((List Int) × Int) :=
  (F106 F t0 t1).bind fun r1 =>
  if (r1 != 0) then
  (some (([], r1)))
  else
  (iter (F101_l0 F t0 t1) F ([], 0)).bind fun b34 =>
  some ((b34, 0))

def F179 (F : Nat) (t0 : Int) : Option Int :=
  (show Option (Int × Int) from (if (decide (t0 ≥ 65536)) then
  ((shr? .u32 t0 16).bind fun x2 =>
  some ((x2, 16)))
  else
  some ((t0, 0)))).bind fun b4 =>
  if (decide (b4.1 ≥ 256)) then
  ((shr? .u32 b4.1 8).bind fun x10 =>
  (at? ([0, 1, 2, 2, 3, 3, 3, 3, 4, 4, 4, 4, 4, 4, 4, 4, 5, 5, 5, 5, 5, 5, 5, 5, 5, 5, 5, 5, 5, 5, 5, 5, 6, 6, 6, 6, 6, 6, 6, 6, 6, 6, 6, 6, 6, 6, 6, 6, 6, 6, 6, 6, 6, 6, 6, 6, 6, 6, 6, 6, 6, 6, 6, 6, 7, 7, 7, 7, 7, 7, 7, 7, 7, 7, 7, 7, 7, 7, 7, 7, 7, 7, 7, 7, 7, 7, 7, 7, 7, 7, 7, 7, 7, 7, 7, 7, 7, 7, 7, 7, 7, 7, 7, 7, 7, 7, 7, 7, 7, 7, 7, 7, 7, 7, 7, 7, 7, 7, 7, 7, 7, 7, 7, 7, 7, 7, 7, 7, 8, 8, 8, 8, 8, 8, 8, 8, 8, 8, 8, 8, 8, 8, 8, 8, 8, 8, 8, 8, 8, 8, 8, 8, 8, 8, 8, 8, 8, 8, 8, 8, 8, 8, 8, 8, 8, 8, 8, 8, 8, 8, 8, 8, 8, 8, 8, 8, 8, 8, 8, 8, 8, 8, 8, 8, 8, 8, 8, 8, 8, 8, 8, 8, 8, 8, 8, 8, 8, 8, 8, 8, 8, 8, 8, 8, 8, 8, 8, 8, 8, 8, 8, 8, 8, 8, 8, 8, 8, 8, 8, 8, 8, 8, 8, 8, 8, 8, 8, 8, 8, 8, 8, 8, 8, 8, 8, 8, 8, 8, 8, 8, 8, 8, 8, 8, 8, 8, 8, 8, 8, 8, 8, 8, 8, 8, 8, 8] : List UInt8) (wrapA .u8 x10)).bind fun x12 =>
  some ((wrapA .i64 ((wrapA .i64 (b4.2 + 8)) + (wrapA .i64 (x12.toNat : Int))))))
  else
  (at? ([0, 1, 2, 2, 3, 3, 3, 3, 4, 4, 4, 4, 4, 4, 4, 4, 5, 5, 5, 5, 5, 5, 5, 5, 5, 5, 5, 5, 5, 5, 5, 5, 6, 6, 6, 6, 6, 6, 6, 6, 6, 6, 6, 6, 6, 6, 6, 6, 6, 6, 6, 6, 6, 6, 6, 6, 6, 6, 6, 6, 6, 6, 6, 6, 7, 7, 7, 7, 7, 7, 7, 7, 7, 7, 7, 7, 7, 7, 7, 7, 7, 7, 7, 7, 7, 7, 7, 7, 7, 7, 7, 7, 7, 7, 7, 7, 7, 7, 7, 7, 7, 7, 7, 7, 7, 7, 7, 7, 7, 7, 7, 7, 7, 7, 7, 7, 7, 7, 7, 7, 7, 7, 7, 7, 7, 7, 7, 7, 8, 8, 8, 8, 8, 8, 8, 8, 8, 8, 8, 8, 8, 8, 8, 8, 8, 8, 8, 8, 8, 8, 8, 8, 8, 8, 8, 8, 8, 8, 8, 8, 8, 8, 8, 8, 8, 8, 8, 8, 8, 8, 8, 8, 8, 8, 8, 8, 8, 8, 8, 8, 8, 8, 8, 8, 8, 8, 8, 8, 8, 8, 8, 8, 8, 8, 8, 8, 8, 8, 8, 8, 8, 8, 8, 8, 8, 8, 8, 8, 8, 8, 8, 8, 8, 8, 8, 8, 8, 8, 8, 8, 8, 8, 8, 8, 8, 8, 8, 8, 8, 8, 8, 8, 8, 8, 8, 8, 8, 8, 8, 8, 8, 8, 8, 8, 8, 8, 8, 8, 8, 8, 8, 8, 8, 8, 8, 8] : List UInt8) (wrapA .u8 b4.1)).bind fun x14 =>
  some ((wrapA .i64 (b4.2 + (wrapA .i64 (x14.toNat : Int)))))

def F180 (F : Nat) (t0 : Int) : Option Int :=
  (show Option (Int × Int) from (if (decide (t0 ≥ 4294967296)) then
  ((shr? .u64 t0 32).bind fun x2 =>
  some ((x2, 32)))
  else
  some ((t0, 0)))).bind fun b4 =>
  (show Option (Int × Int) from (if (decide (b4.1 ≥ 65536)) then
  ((shr? .u64 b4.1 16).bind fun x10 =>
  some ((x10, (wrapA .i64 (b4.2 + 16)))))
  else
  some ((b4.1, b4.2)))).bind fun b12 =>
  if (decide (b12.1 ≥ 256)) then
  ((shr? .u64 b12.1 8).bind fun x18 =>
  (at? ([0, 1, 2, 2, 3, 3, 3, 3, 4, 4, 4, 4, 4, 4, 4, 4, 5, 5, 5, 5, 5, 5, 5, 5, 5, 5, 5, 5, 5, 5, 5, 5, 6, 6, 6, 6, 6, 6, 6, 6, 6, 6, 6, 6, 6, 6, 6, 6, 6, 6, 6, 6, 6, 6, 6, 6, 6, 6, 6, 6, 6, 6, 6, 6, 7, 7, 7, 7, 7, 7, 7, 7, 7, 7, 7, 7, 7, 7, 7, 7, 7, 7, 7, 7, 7, 7, 7, 7, 7, 7, 7, 7, 7, 7, 7, 7, 7, 7, 7, 7, 7, 7, 7, 7, 7, 7, 7, 7, 7, 7, 7, 7, 7, 7, 7, 7, 7, 7, 7, 7, 7, 7, 7, 7, 7, 7, 7, 7, 8, 8, 8, 8, 8, 8, 8, 8, 8, 8, 8, 8, 8, 8, 8, 8, 8, 8, 8, 8, 8, 8, 8, 8, 8, 8, 8, 8, 8, 8, 8, 8, 8, 8, 8, 8, 8, 8, 8, 8, 8, 8, 8, 8, 8, 8, 8, 8, 8, 8, 8, 8, 8, 8, 8, 8, 8, 8, 8, 8, 8, 8, 8, 8, 8, 8, 8, 8, 8, 8, 8, 8, 8, 8, 8, 8, 8, 8, 8, 8, 8, 8, 8, 8, 8, 8, 8, 8, 8, 8, 8, 8, 8, 8, 8, 8, 8, 8, 8, 8, 8, 8, 8, 8, 8, 8, 8, 8, 8, 8, 8, 8, 8, 8, 8, 8, 8, 8, 8, 8, 8, 8, 8, 8, 8, 8, 8, 8] : List UInt8) (wrapA .u8 x18)).bind fun x20 =>
  some ((wrapA .i64 ((wrapA .i64 (b12.2 + 8)) + (wrapA .i64 (x20.toNat : Int))))))
  else
  (at? ([0, 1, 2, 2, 3, 3, 3, 3, 4, 4, 4, 4, 4, 4, 4, 4, 5, 5, 5, 5, 5, 5, 5, 5, 5, 5, 5, 5, 5, 5, 5, 5, 6, 6, 6, 6, 6, 6, 6, 6, 6, 6, 6, 6, 6, 6, 6, 6, 6, 6, 6, 6, 6, 6, 6, 6, 6, 6, 6, 6, 6, 6, 6, 6, 7, 7, 7, 7, 7, 7, 7, 7, 7, 7, 7, 7, 7, 7, 7, 7, 7, 7, 7, 7, 7, 7, 7, 7, 7, 7, 7, 7, 7, 7, 7, 7, 7, 7, 7, 7, 7, 7, 7, 7, 7, 7, 7, 7, 7, 7, 7, 7, 7, 7, 7, 7, 7, 7, 7, 7, 7, 7, 7, 7, 7, 7, 7, 7, 8, 8, 8, 8, 8, 8, 8, 8, 8, 8, 8, 8, 8, 8, 8, 8, 8, 8, 8, 8, 8, 8, 8, 8, 8, 8, 8, 8, 8, 8, 8, 8, 8, 8, 8, 8, 8, 8, 8, 8, 8, 8, 8, 8, 8, 8, 8, 8, 8, 8, 8, 8, 8, 8, 8, 8, 8, 8, 8, 8, 8, 8, 8, 8, 8, 8, 8, 8, 8, 8, 8, 8, 8, 8, 8, 8, 8, 8, 8, 8, 8, 8, 8, 8, 8, 8, 8, 8, 8, 8, 8, 8, 8, 8, 8, 8, 8, 8, 8, 8, 8, 8, 8, 8, 8, 8, 8, 8, 8, 8, 8, 8, 8, 8, 8, 8, 8, 8, 8, 8, 8, 8, 8, 8, 8, 8, 8, 8] : List UInt8) (wrapA .u8 b12.1)).bind fun x22 =>
  some ((wrapA .i64 (b12.2 + (wrapA .i64 (x22.toNat : Int)))))

def F159 (F : Nat) (t0 : Int) : Option Int :=
  if false then
  ((F179 F ((wrapA .u32 t0))).bind fun r2 =>
  some r2)
  else
  (F180 F t0).bind fun r6 =>
  some r6

def F182 (F : Nat) (t0 : Int) : Option Bool :=
  some ((t0 != t0))

def F167 (F : Nat) (t0 : Int) (t1 : Int) : Option Bool :=
  (F182 F t0).bind fun r1 =>
  (if r1 then 
  ((F182 F t1).bind fun r5 =>
  some (!r5))
   else some false).bind fun y10 =>
  some ((y10 || (decide (t0 < t1))))

def F171_l0 (F : Nat) (t1 : Int) (s7 : Int × (List Int)) : Option (Stp (Int × (List Int)) ((List Int))) :=
  (if (decide (s7.1 > t1)) then 
  ((at? s7.2 s7.1).bind fun x12 =>
  (at? s7.2 (wrapA .i64 (s7.1 - 1))).bind fun x14 =>
  (F167 F x12 x14).bind fun r16 =>
  some r16)
   else some false).bind fun y21 =>
  if y21 then
  ((at? s7.2 (wrapA .i64 (s7.1 - 1))).bind fun x26 =>
  (at? s7.2 s7.1).bind fun x28 =>
  (ck s7.2 s7.1).bind fun u30 =>
  (ck ((s7.2.set ((Int.toNat s7.1)) x26)) (wrapA .i64 (s7.1 - 1))).bind fun u34 =>
  some (.more (((wrapA .i64 (s7.1 - 1)), (((s7.2.set ((Int.toNat s7.1)) x26)).set ((Int.toNat (wrapA .i64 (s7.1 - 1)))) x28)))))
  else
  some (.stop s7.2)
def F171_l1 (F : Nat) (t1 : Int) (t2 : Int) (s1 : Int × (List Int)) : Option (Stp (Int × (List Int)) ((List Int))) :=
  if (decide (s1.1 < t2)) then
  ((iter (F171_l0 F t1) F (s1.1, s1.2)).bind fun b38 =>
  some (.more (((wrapA .i64 (s1.1 + 1)), b38))))
  else
  some (.stop s1.2)
def F171 (F : Nat) (t0 : List Int) (t1 : Int) (t2 : Int) : Option ((List Int)) :=
  (iter (F171_l1 F t1 t2) F ((wrapA .i64 (t1 + 1)), t0)).bind fun b42 =>
  some b42

def F158_l0 (F : Nat)  (s1 : Int × Int × Int × Bool × Bool × (List Int)) : Option (Stp (Int × Int × Int × Bool × Bool × (List Int)) ((List Int))) :=
  if (decide ((wrapA .i64 (s1.2.1 - s1.1)) ≤ 12)) then
  ((F171 F s1.2.2.2.2.2 s1.1 s1.2.1).bind fun r7 =>
  some (.stop r7))
  else
  if (s1.2.2.1 == 0) then
  (none)
  else
  (show Option (Int × (List Int)) from (if (!s1.2.2.2.1) then
  (none)
  else
  some ((s1.2.2.1, s1.2.2.2.2.2)))).bind fun b13 =>
  none
def F158 (F : Nat) (t0 : List Int) (t1 : Int) (t2 : Int) (t3 : Int) : Option ((List Int)) :=
  (iter (F158_l0 F) F (t1, t2, t3, true, true, t0)).bind fun b18 =>
  some b18

def F108 (F : Nat) (t0 : List Int) : Option ((List Int)) :=
  (F159 F ((wrapA .u64 (t0.length : Int)))).bind fun r1 =>
  (F158 F t0 0 ((t0.length : Int)) r1).bind fun r5 =>
  some r5

def F102 (F : Nat) (t0 : Int) (t1 : List Int) : Option ((List Int) × Int) :=
  (F101 F t0 t1).bind fun r1 =>
  (F108 F r1.1).bind fun r7 =>
  some ((r7, r1.2))

def F157_l0 (F : Nat) (t0 : Int) (s1 : Int × Int) : Option (Stp (Int × Int) (Int)) :=
  if (decide (s1.2 ≤ t0)) then
  (some (.more (((wrapA .i64 (s1.1 * s1.2)), (wrapA .i64 (s1.2 + 1))))))
  else
  some (.stop s1.1)
def F157 (F : Nat) (t0 : Int) : Option Int :=
  (iter (F157_l0 F t0) F (1, 2)).bind fun b7 =>
  some b7

def F103 (F : Nat) (t0 : Int) (t1 : Int) : Option (Int × Int) :=
  if ((((decide (t0 < 0)) || (decide (t0 > 10))) || (decide (t1 < 1))) || (decide (t1 > 12))) then
  (some ((0, 1)))
  else
  if (decide (t0 < t1)) then
  ((F157 F t0).bind fun r6 =>
  some ((r6, 0)))
  else
  (F157 F t1).bind fun r10 =>
  (F157 F ((wrapA .i64 (t0 - t1)))).bind fun r14 =>
  some (((wrapA .i64 (r10 * r14)), 0))

def F105_l0 (F : Nat) (t1 : List Int) (s4 : Int) : Option (Stp (Int) (Unit ⊕ Int)) :=
  if (decide (s4 < (t1.length : Int))) then
  ((at? t1 s4).bind fun x12 =>
  if ((decide (x12 < 0)) || (decide (x12 > s4))) then
  (some (.stop ((.inr 3))))
  else
  some (.more ((wrapA .i64 (s4 + 1)))))
  else
  some (.stop ((.inl ())))
def F105 (F : Nat) (t0 : Int) (t1 : List Int) : Option Int :=
  if ((decide (t0 < 1)) || (decide (t0 > 12))) then
  (some 1)
  else
  if (decide ((t1.length : Int) > 30)) then
  (some 2)
  else
  (iter (F105_l0 F t1) F 0).bind fun b16 =>
  match b16 with
  | .inl b18 => (some 0)
  | .inr b18 => (some b18)

def F107_l0 (F : Nat) (t1 : List Int) (s1 : (List Int) × Int) (s11 : Int × Int) : Option (Stp (Int × Int) (Int)) :=
  if (decide (s11.2 < (t1.length : Int))) then
  ((at? t1 s11.2).bind fun x17 =>
  if (x17 == s1.2) then
  (some (.more ((s11.2, (wrapA .i64 (s11.2 + 1))))))
  else
  some (.more ((s11.1, (wrapA .i64 (s11.2 + 1))))))
  else
  some (.stop s11.1)
def F107_l1 (F : Nat) (t0 : Int) (t1 : List Int) (s1 : (List Int) × Int) : Option (Stp ((List Int) × Int) ((List Int))) :=
  if (decide (s1.2 < (minI t0 (t1.length : Int)))) then
  ((iter (F107_l0 F t1 s1) F (s1.2, t0)).bind fun b20 =>
  (app? s1.1 ([b20])).bind fun L28 =>
  some (.more ((L28, (wrapA .i64 (s1.2 + 1))))))
  else
  some (.stop s1.1)
def F107 (F : Nat) (t0 : Int) (t1 : List Int) : Option ((List Int)) :=
  (iter (F107_l1 F t0 t1) F ([], 0)).bind fun b34 =>
  some b34

def F14 (F : Nat) (t0 : Int) (t1 : List Int) (t2 : Int) : Option Bool :=
  (F101 F t0 t1).bind fun r1 =>
  (F102 F t0 t1).bind fun r7 =>
  (F103 F t2 t0).bind fun r13 =>
  (show Option (Unit ⊕ Bool) from (if ((((decide (t2 < 0)) || (decide (t2 > 10))) || (decide (t0 < 1))) || (decide (t0 > 12))) then
  (if ((r13.2 != 1) || (r13.1 != 0)) then
  (some ((.inr false)))
  else
  some ((.inl ())))
  else
  (if (r13.2 != 0) then some true else 
  ((F104 F ((maxI t2 t0)) t0).bind fun r23 =>
  (F65 F t2).bind fun r27 =>
  some (((wrapA .i64 (r13.1 * r23)) != r27) && (decide (t2 ≥ t0))))
  ).bind fun y33 =>
  (if y33 then some true else 
  ((if (decide (t2 < t0)) then 
  ((F65 F t2).bind fun r37 =>
  some (r13.1 != r37))
   else some false).bind fun y42 =>
  some y42)
  ).bind fun y47 =>
  if y47 then
  (some ((.inr false)))
  else
  some ((.inl ())))).bind fun b52 =>
  match b52 with
  | .inl b57 => ((F105 F t0 t1).bind fun r60 =>
  (F106 F t0 t1).bind fun r64 =>
  if (r64 != r60) then
  (some false)
  else
  if (r60 != 0) then
  (some ((((r1.2 == r60) && (r7.2 == r60)) && ((wrapA .i64 ((r1.1.length : Int) + (r7.1.length : Int))) == 0))))
  else
  (F107 F t0 t1).bind fun r72 =>
  (if (r1.2 != 0) then some true else 
  ((F32 F r1.1 r72).bind fun r78 =>
  some (!r78))
  ).bind fun y83 =>
  if y83 then
  (some false)
  else
  (F108 F r72).bind fun r88 =>
  (if (r7.2 == 0) then 
  ((F32 F r7.1 r88).bind fun r92 =>
  some r92)
   else some false).bind fun y97 =>
  some y97)
  | .inr b57 => (some b57)

def F52_l0 (F : Nat) (t0 : (List Int) × (List Int)) (s8 : Int) : Option (Stp (Int) (Unit ⊕ Int)) :=
  if (decide (s8 < (t0.1.length : Int))) then
  ((at? t0.1 s8).bind fun x16 =>
  (at? t0.1 s8).bind fun x18 =>
  (if (decide ((maxI x16 (wrapA .i64 (0 - x18))) > 20)) then some true else 
  ((at? t0.1 s8).bind fun x20 =>
  some (decide (x20 < (-20))))
  ).bind fun y23 =>
  (if y23 then some true else 
  ((at? t0.2 s8).bind fun x25 =>
  some (decide (x25 < 1)))
  ).bind fun y28 =>
  (if y28 then some true else 
  ((at? t0.2 s8).bind fun x30 =>
  some (decide (x30 > 100)))
  ).bind fun y33 =>
  if y33 then
  (some (.stop ((.inr 1))))
  else
  some (.more ((wrapA .i64 (s8 + 1)))))
  else
  some (.stop ((.inl ())))
def F52 (F : Nat) (t0 : (List Int) × (List Int)) : Option Int :=
  if (((t0.1.length : Int) == 0) || (decide ((t0.1.length : Int) > 12))) then
  (some 2)
  else
  if ((t0.2.length : Int) != (t0.1.length : Int)) then
  (some 3)
  else
  (iter (F52_l0 F t0) F 0).bind fun b36 =>
  match b36 with
  | .inl b38 => (some 0)
  | .inr b38 => (some b38)

def F54_l0 (F : Nat) (t0 : (List Int) × (List Int)) (s5 : Int × Int × Int) : Option (Stp (Int × Int × Int) (Int × Int)) :=
  if (decide (s5.2.2 < (t0.2.length : Int))) then
  ((at? t0.2 s5.2.2).bind fun x11 =>
  (at? t0.1 s5.2.2).bind fun x13 =>
  some (.more (((wrapA .i64 (s5.1 + x11)), (wrapA .i64 (s5.2.1 + (wrapA .i64 (x11 * x13)))), (wrapA .i64 (s5.2.2 + 1))))))
  else
  some (.stop ((s5.1, s5.2.1)))
def F54 (F : Nat) (t0 : (List Int) × (List Int)) : Option (Int × Int) :=
  (iter (F54_l0 F t0) F (0, 0, 0)).bind fun b15 =>
  some ((b15.1, b15.2))

def F55_l0 (F : Nat) (t0 : (List Int) × (List Int)) (r9 : Int × Int) (s13 : Int × Int) : Option (Stp (Int × Int) (Int)) :=
  if (decide (s13.2 < (t0.2.length : Int))) then
  ((at? t0.2 s13.2).bind fun x19 =>
  (at? t0.1 s13.2).bind fun x21 =>
  some (.more (((wrapA .i64 (s13.1 + (wrapA .i64 ((wrapA .i64 (x19 * (wrapA .i64 ((wrapA .i64 (r9.1 * x21)) - r9.2)))) * (wrapA .i64 ((wrapA .i64 (r9.1 * x21)) - r9.2)))))), (wrapA .i64 (s13.2 + 1))))))
  else
  some (.stop s13.1)
def F55 (F : Nat) (t0 : (List Int) × (List Int)) : Option ((Int × Int)) :=
  (F54 F ((t0.1, t0.2))).bind fun r9 =>
  (iter (F55_l0 F t0 r9) F (0, 0)).bind fun b23 =>
  (F127 F b23 ((wrapA .i64 ((wrapA .i64 (r9.1 * r9.1)) * r9.1)))).bind fun r27 =>
  (quo? .i64 b23 r27).bind fun x31 =>
  (quo? .i64 (wrapA .i64 ((wrapA .i64 (r9.1 * r9.1)) * r9.1)) r27).bind fun x33 =>
  some ((((x31, x33)).1, ((x31, x33)).2))

def F57_l0 (F : Nat) (t0 : List (Int × Int × Bool × Bool)) (s3 : Int) : Option (Stp (Int) (Unit ⊕ Int)) :=
  if (decide (s3 < (t0.length : Int))) then
  ((at? t0 s3).bind fun x11 =>
  if ((((decide (((x11.1, x11.2.1, x11.2.2.1, x11.2.2.2)).1 < 1)) || (decide (((x11.1, x11.2.1, x11.2.2.1, x11.2.2.2)).1 > 10))) || (decide (((x11.1, x11.2.1, x11.2.2.1, x11.2.2.2)).2.1 < 0))) || (decide (((x11.1, x11.2.1, x11.2.2.1, x11.2.2.2)).2.1 > 100000))) then
  (some (.stop ((.inr 1))))
  else
  some (.more ((wrapA .i64 (s3 + 1)))))
  else
  some (.stop ((.inl ())))
def F57_l1 (F : Nat) (t0 : List (Int × Int × Bool × Bool)) (t1 : List (Int × Int × Int)) (s28 : Int × Int) : Option (Stp (Int × Int) (Unit ⊕ Int)) :=
  if (decide (s28.2 < (t1.length : Int))) then
  ((at? t1 s28.2).bind fun x36 =>
  if ((((((decide (((x36.1, x36.2.1, x36.2.2)).1 < 0)) || (decide (((x36.1, x36.2.1, x36.2.2)).1 > 200))) || (decide (((x36.1, x36.2.1, x36.2.2)).2.1 < 0))) || (decide (((x36.1, x36.2.1, x36.2.2)).2.1 ≥ (t0.length : Int)))) || (decide (((x36.1, x36.2.1, x36.2.2)).2.2 < 1))) || (decide (((x36.1, x36.2.1, x36.2.2)).2.2 > 4))) then
  (some (.stop ((.inr 1))))
  else
  if (decide (((x36.1, x36.2.1, x36.2.2)).1 < s28.1)) then
  (some (.stop ((.inr 3))))
  else
  some (.more ((((x36.1, x36.2.1, x36.2.2)).1, (wrapA .i64 (s28.2 + 1))))))
  else
  some (.stop ((.inl ())))
def F57 (F : Nat) (t0 : List (Int × Int × Bool × Bool)) (t1 : List (Int × Int × Int)) : Option Int :=
  if ((decide ((t0.length : Int) > 8)) || (decide ((t1.length : Int) > 30))) then
  (some 2)
  else
  (iter (F57_l0 F t0) F 0).bind fun b23 =>
  match b23 with
  | .inl b25 => ((iter (F57_l1 F t0 t1) F (0, 0)).bind fun b51 =>
  match b51 with
  | .inl b53 => (some 0)
  | .inr b53 => (some b53))
  | .inr b25 => (some b25)

def F130 (F : Nat) (t0 : (List (Int × Int × Bool × Bool))) : Option ((List (Int × Int × Bool × Bool))) := if t0.length ≤ 549755813888 then some t0 else none

def F83_l0 (F : Nat) (t0 : List (List Int)) (s1 : Int × Int) : Option (Stp (Int × Int) (Int)) :=
  if (decide (s1.2 < (t0.length : Int))) then
  ((at? t0 s1.2).bind fun L7 =>
  some (.more (((wrapA .i64 (s1.1 + (L7.length : Int))), (wrapA .i64 (s1.2 + 1))))))
  else
  some (.stop s1.1)
def F83_l1 (F : Nat) (t0 : List (List Int)) (b11 : Int) (s21 : Int × (List Bool)) (L29 : List Int) (s44 : Int × (List Bool)) : Option (Stp (Int × (List Bool)) ((List Bool) ⊕ Int)) :=
  if (decide (s44.1 < (L29.length : Int))) then
  ((at? L29 s44.1).bind fun x52 =>
  (if ((decide (x52 < 0)) || (decide (x52 ≥ b11))) then some true else 
  ((at? s44.2 x52).bind fun x55 =>
  some x55)
  ).bind fun y58 =>
  (if y58 then some true else 
  ((if (decide (s44.1 > 0)) then 
  ((at? L29 (wrapA .i64 (s44.1 - 1))).bind fun x60 =>
  some (decide (x52 < x60)))
   else some false).bind fun y63 =>
  some y63)
  ).bind fun y66 =>
  (if y66 then some true else 
  ((if (decide (s21.1 > 0)) then 
  ((at? t0 (wrapA .i64 (s21.1 - 1))).bind fun L68 =>
  (at? L68 s44.1).bind fun x72 =>
  some (decide (x52 < x72)))
   else some false).bind fun y75 =>
  some y75)
  ).bind fun y78 =>
  if y78 then
  (some (.stop ((.inr 3))))
  else
  (ck s44.2 x52).bind fun u81 =>
  some (.more (((wrapA .i64 (s44.1 + 1)), (s44.2.set ((Int.toNat x52)) true)))))
  else
  some (.stop ((.inl s44.2)))
def F83_l2 (F : Nat) (t0 : List (List Int)) (b11 : Int) (s21 : Int × (List Bool)) : Option (Stp (Int × (List Bool)) (Unit ⊕ Int)) :=
  if (decide (s21.1 < (t0.length : Int))) then
  ((at? t0 s21.1).bind fun L29 =>
  (if ((L29.length : Int) == 0) then some true else 
  ((if (decide (s21.1 > 0)) then 
  ((at? t0 (wrapA .i64 (s21.1 - 1))).bind fun L33 =>
  some (decide ((L29.length : Int) > (L33.length : Int))))
   else some false).bind fun y38 =>
  some y38)
  ).bind fun y41 =>
  if y41 then
  (some (.stop ((.inr 3))))
  else
  (iter (F83_l1 F t0 b11 s21 L29) F (0, s21.2)).bind fun b85 =>
  match b85 with
  | .inl b87 => (some (.more (((wrapA .i64 (s21.1 + 1)), b87))))
  | .inr b87 => (some (.stop ((.inr b87)))))
  else
  some (.stop ((.inl ())))
def F83 (F : Nat) (t0 : List (List Int)) : Option Int :=
  (iter (F83_l0 F t0) F (0, 0)).bind fun b11 =>
  if ((decide (b11 > 10)) || (decide ((t0.length : Int) > 10))) then
  (some 2)
  else
  (iter (F83_l2 F t0 b11) F (0, (List.replicate 10 false))).bind fun b92 =>
  match b92 with
  | .inl b94 => (some 0)
  | .inr b94 => (some b94)

def F144_l0 (F : Nat) (t0 : List (List Int)) (s1 : (List (List Int)) × Int) : Option (Stp ((List (List Int)) × Int) ((List (List Int)))) :=
  if (decide (s1.2 < (t0.length : Int))) then
  ((at? t0 s1.2).bind fun L11 =>
  (F30 F L11).bind fun r15 =>
  (app? s1.1 ([r15])).bind fun L25 =>
  some (.more ((L25, (wrapA .i64 (s1.2 + 1))))))
  else
  some (.stop s1.1)
def F144 (F : Nat) (t0 : List (List Int)) : Option ((List (List Int))) :=
  (iter (F144_l0 F t0) F ([], 0)).bind fun b31 =>
  some b31

def F147_l0 (F : Nat) (t0 : List Int) (s1 : Int) : Option (Stp (Int) (Unit ⊕ Bool)) :=
  if (decide (s1 > 0)) then
  ((at? t0 s1).bind fun x9 =>
  (at? t0 (wrapA .i64 (s1 - 1))).bind fun x11 =>
  (F167 F x9 x11).bind fun r13 =>
  if r13 then
  (some (.stop ((.inr false))))
  else
  some (.more ((wrapA .i64 (s1 - 1)))))
  else
  some (.stop ((.inl ())))
def F147 (F : Nat) (t0 : List Int) : Option Bool :=
  (iter (F147_l0 F t0) F (wrapA .i64 ((t0.length : Int) - 1))).bind fun b18 =>
  match b18 with
  | .inl b20 => (some true)
  | .inr b20 => (some b20)

def F84_l0 (F : Nat) (t0 : List (List Int)) (s1 : (List Int) × Int) : Option (Stp ((List Int) × Int) ((List Int))) :=
  if (decide (s1.2 < (t0.length : Int))) then
  ((at? t0 s1.2).bind fun L11 =>
  (app? s1.1 L11).bind fun L15 =>
  some (.more ((L15, (wrapA .i64 (s1.2 + 1))))))
  else
  some (.stop s1.1)
def F84_l1 (F : Nat) (t0 : List (List Int)) (s33 : Int) (L41 : List Int) (s65 : Int) : Option (Stp (Int) (Unit ⊕ Int)) :=
  if (decide (s65 < (L41.length : Int))) then
  ((at? L41 s65).bind fun x73 =>
  (if (decide (s33 > 0)) then 
  ((at? t0 (wrapA .i64 (s33 - 1))).bind fun L75 =>
  (at? L75 s65).bind fun x79 =>
  some (decide (x79 > x73)))
   else some false).bind fun y82 =>
  if y82 then
  (some (.stop ((.inr 3))))
  else
  some (.more ((wrapA .i64 (s65 + 1)))))
  else
  some (.stop ((.inl ())))
def F84_l2 (F : Nat) (t0 : List (List Int)) (s33 : Int) : Option (Stp (Int) (Unit ⊕ Int)) :=
  if (decide (s33 < (t0.length : Int))) then
  ((at? t0 s33).bind fun L41 =>
  (if ((L41.length : Int) == 0) then some true else 
  ((F147 F L41).bind fun r45 =>
  some (!r45))
  ).bind fun y50 =>
  (if y50 then some true else 
  ((if (decide (s33 > 0)) then 
  ((at? t0 (wrapA .i64 (s33 - 1))).bind fun L54 =>
  some (decide ((L41.length : Int) > (L54.length : Int))))
   else some false).bind fun y59 =>
  some y59)
  ).bind fun y62 =>
  if y62 then
  (some (.stop ((.inr 3))))
  else
  (iter (F84_l1 F t0 s33 L41) F 0).bind fun b85 =>
  match b85 with
  | .inl b87 => (some (.more ((wrapA .i64 (s33 + 1)))))
  | .inr b87 => (some (.stop ((.inr b87)))))
  else
  some (.stop ((.inl ())))
def F84 (F : Nat) (t0 : List (List Int)) : Option Int :=
  (iter (F84_l0 F t0) F ([], 0)).bind fun b21 =>
  if ((decide ((b21.length : Int) > 10)) || (decide ((t0.length : Int) > 10))) then
  (some 2)
  else
  (F66 F b21).bind fun r28 =>
  if (r28 != 0) then
  (some 3)
  else
  (iter (F84_l2 F t0) F 0).bind fun b92 =>
  match b92 with
  | .inl b94 => (some 0)
  | .inr b94 => (some b94)

def F87_31_l0 (F : Nat) (t0 : List (List Int)) (t1 : List (List Int)) (s2 : Int) : Option (Stp (Int) (Unit ⊕ Bool)) :=
  if (decide (s2 < (t0.length : Int))) then
  ((at? t0 s2).bind fun L10 =>
  (at? t1 s2).bind fun L14 =>
  (F31 F L10 L14).bind fun r18 =>
  if (!r18) then
  (some (.stop ((.inr false))))
  else
  some (.more ((wrapA .i64 (s2 + 1)))))
  else
  some (.stop ((.inl ())))
def F87_31 (F : Nat) (t0 : List (List Int)) (t1 : List (List Int)) : Option Bool :=
  if ((t0.length : Int) != (t1.length : Int)) then
  (some false)
  else
  (iter (F87_31_l0 F t0 t1) F 0).bind fun b23 =>
  match b23 with
  | .inl b25 => (some true)
  | .inr b25 => (some b25)

def F85 (F : Nat) (t0 : (List (List Int)) × (List (List Int))) (t1 : (List (List Int)) × (List (List Int))) : Option Bool :=
  (F87_31 F t0.1 t1.1).bind fun r9 =>
  (if r9 then 
  ((F87_31 F t0.2 t1.2).bind fun r13 =>
  some r13)
   else some false).bind fun y18 =>
  some y18

def F183 (F : Nat) (t0 : Int) : Option Bool :=
  some ((t0 != t0))

def F168_l0 (F : Nat) (t0 : List Int) (t1 : Int) (s1 : Int × Int) : Option (Stp (Int × Int) (Int)) :=
  if (decide (s1.1 < s1.2)) then
  ((shr? .u64 (wrapA .u64 (wrapA .i64 (s1.1 + s1.2))) 1).bind fun x7 =>
  (at? t0 (wrapA .i64 x7)).bind fun x9 =>
  (F167 F x9 t1).bind fun r11 =>
  if r11 then
  (some (.more (((wrapA .i64 ((wrapA .i64 x7) + 1)), s1.2))))
  else
  some (.more ((s1.1, (wrapA .i64 x7)))))
  else
  some (.stop s1.1)
def F168 (F : Nat) (t0 : List Int) (t1 : Int) : Option (Int × Bool) :=
  (iter (F168_l0 F t0 t1) F (0, (t0.length : Int))).bind fun b16 =>
  (if (decide (b16 < (t0.length : Int))) then 
  ((at? t0 b16).bind fun x20 =>
  (if (x20 == t1) then some true else 
  ((at? t0 b16).bind fun x22 =>
  (F183 F x22).bind fun r24 =>
  (if r24 then 
  ((F183 F t1).bind fun r28 =>
  some r28)
   else some false).bind fun y33 =>
  some y33)
  ).bind fun y38 =>
  some y38)
   else some false).bind fun y43 =>
  some ((b16, y43))

def F148 : Nat → (List (List Int)) → Int → Option ((List (List Int)))
  | 0, _, _ => none
  | F + 1, t0, t1 =>
  let frec := F148 F
  if ((t0.length : Int) == 0) then
  (some ([[t1]]))
  else
  (at? t0 0).bind fun L10 =>
  (F30 F L10).bind fun r14 =>
  (F168 F r14 t1).bind fun r20 =>
  if (r20.1 == (r14.length : Int)) then
  ((app? r14 ([t1])).bind fun L29 =>
  (sub? t0 1 t0.length).bind fun L39 =>
  (app? ([L29]) L39).bind fun L43 =>
  some L43)
  else
  (at? r14 r20.1).bind fun x49 =>
  (ck r14 r20.1).bind fun u51 =>
  (sub? t0 1 t0.length).bind fun L59 =>
  (frec L59 x49).bind fun r63 =>
  (app? ([(r14.set ((Int.toNat r20.1)) t1)]) r63).bind fun L70 =>
  some L70

def F88 (F : Nat) (t0 : List Int) (t1 : List Int) : Option Bool :=
  some (((t0.length : Int) == (t1.length : Int)))

def F129_l0 (F : Nat) (t0 : List ((Int × Int × Bool × Bool) × Int)) (s1 : Int × Int × Int) : Option (Stp (Int × Int × Int) (Int)) :=
  if (decide (s1.2.2 < (t0.length : Int))) then
  ((at? t0 s1.2.2).bind fun x7 =>
  if (!(((x7.1.1, x7.1.2.1, x7.1.2.2.1, x7.1.2.2.2), x7.2)).1.2.2.1) then
  (some (.more ((s1.1, s1.2.1, (wrapA .i64 (s1.2.2 + 1))))))
  else
  (show Option (Int) from (if (((x7.1.1, x7.1.2.1, x7.1.2.2.1, x7.1.2.2.2), x7.2)).1.2.2.2 then
  (some ((wrapA .i64 ((((x7.1.1, x7.1.2.1, x7.1.2.2.1, x7.1.2.2.2), x7.2)).2 - (((x7.1.1, x7.1.2.1, x7.1.2.2.1, x7.1.2.2.2), x7.2)).1.2.1))))
  else
  some ((((x7.1.1, x7.1.2.1, x7.1.2.2.1, x7.1.2.2.2), x7.2)).2))).bind fun b17 =>
  if ((decide (s1.1 < 0)) || (decide (b17 < s1.2.1))) then
  (some (.more ((s1.2.2, b17, (wrapA .i64 (s1.2.2 + 1))))))
  else
  some (.more ((s1.1, s1.2.1, (wrapA .i64 (s1.2.2 + 1))))))
  else
  some (.stop s1.1)
def F129 (F : Nat) (t0 : List ((Int × Int × Bool × Bool) × Int)) : Option Int :=
  (iter (F129_l0 F t0) F ((-1), 0, 0)).bind fun b24 =>
  some b24

def F131_l0 (F : Nat) (t0 : List Int) (s9 : Int × Int) : Option (Stp (Int × Int) (Int)) :=
  if (decide (s9.2 < (t0.length : Int))) then
  ((at? t0 s9.2).bind fun x15 =>
  some (.more (((minI s9.1 x15), (wrapA .i64 (s9.2 + 1))))))
  else
  some (.stop s9.1)
def F131 (F : Nat) (t0 : List Int) : Option Int :=
  (show Option (Unit) from (if (decide ((t0.length : Int) < 1)) then
  (none)
  else
  some (()))).bind fun b2 =>
  (at? t0 0).bind fun x7 =>
  (iter (F131_l0 F t0) F (x7, 1)).bind fun b17 =>
  some b17

def F184_l0 (F : Nat) (t2 : Int) (t3 : Int) (s1 : Int × (List Int)) : Option (Stp (Int × (List Int)) ((List Int) ⊕ (List Int))) :=
  if (decide ((wrapA .i64 ((wrapA .i64 (2 * s1.1)) + 1)) ≥ t2)) then
  (some (.stop ((.inl s1.2))))
  else
  (if (decide ((wrapA .i64 ((wrapA .i64 ((wrapA .i64 (2 * s1.1)) + 1)) + 1)) < t2)) then 
  ((at? s1.2 (wrapA .i64 (t3 + (wrapA .i64 ((wrapA .i64 (2 * s1.1)) + 1))))).bind fun x9 =>
  (at? s1.2 (wrapA .i64 ((wrapA .i64 (t3 + (wrapA .i64 ((wrapA .i64 (2 * s1.1)) + 1)))) + 1))).bind fun x11 =>
  (F167 F x9 x11).bind fun r13 =>
  some r13)
   else some false).bind fun y18 =>
  (show Option (Int) from (if y18 then
  (some ((wrapA .i64 ((wrapA .i64 ((wrapA .i64 (2 * s1.1)) + 1)) + 1))))
  else
  some ((wrapA .i64 ((wrapA .i64 (2 * s1.1)) + 1))))).bind fun b23 =>
  (at? s1.2 (wrapA .i64 (t3 + s1.1))).bind fun x28 =>
  (at? s1.2 (wrapA .i64 (t3 + b23))).bind fun x30 =>
  (F167 F x28 x30).bind fun r32 =>
  if (!r32) then
  (some (.stop ((.inr s1.2))))
  else
  (at? s1.2 (wrapA .i64 (t3 + b23))).bind fun x37 =>
  (at? s1.2 (wrapA .i64 (t3 + s1.1))).bind fun x39 =>
  (ck s1.2 (wrapA .i64 (t3 + s1.1))).bind fun u41 =>
  (ck ((s1.2.set ((Int.toNat (wrapA .i64 (t3 + s1.1)))) x37)) (wrapA .i64 (t3 + b23))).bind fun u45 =>
  some (.more ((b23, (((s1.2.set ((Int.toNat (wrapA .i64 (t3 + s1.1)))) x37)).set ((Int.toNat (wrapA .i64 (t3 + b23)))) x39))))
def F184 (F : Nat) (t0 : List Int) (t1 : Int) (t2 : Int) (t3 : Int) : Option ((List Int)) :=
  (iter (F184_l0 F t2 t3) F (t1, t0)).bind fun b49 =>
  match b49 with
  | .inl b51 => (some b51)
  | .inr b51 => (some b51)

def F172_l0 (F : Nat) (t1 : Int) (t2 : Int) (s1 : Int × (List Int)) : Option (Stp (Int × (List Int)) ((List Int))) :=
  if (decide (s1.1 ≥ 0)) then
  ((F184 F s1.2 s1.1 ((wrapA .i64 (t2 - t1))) t1).bind fun r7 =>
  some (.more (((wrapA .i64 (s1.1 - 1)), r7))))
  else
  some (.stop s1.2)
def F172_l1 (F : Nat) (t1 : Int) (s15 : Int × (List Int)) : Option (Stp (Int × (List Int)) ((List Int))) :=
  if (decide (s15.1 ≥ 0)) then
  ((at? s15.2 (wrapA .i64 (t1 + s15.1))).bind fun x21 =>
  (at? s15.2 t1).bind fun x23 =>
  (ck s15.2 t1).bind fun u25 =>
  (ck ((s15.2.set ((Int.toNat t1)) x21)) (wrapA .i64 (t1 + s15.1))).bind fun u29 =>
  (F184 F ((((s15.2.set ((Int.toNat t1)) x21)).set ((Int.toNat (wrapA .i64 (t1 + s15.1)))) x23)) 0 s15.1 t1).bind fun r33 =>
  some (.more (((wrapA .i64 (s15.1 - 1)), r33))))
  else
  some (.stop s15.2)
def F172 (F : Nat) (t0 : List Int) (t1 : Int) (t2 : Int) : Option ((List Int)) :=
  (iter (F172_l0 F t1 t2) F ((wrapA .i64 (Int.tdiv (wrapA .i64 ((wrapA .i64 (t2 - t1)) - 1)) 2)), t0)).bind fun b11 =>
  (iter (F172_l1 F t1) F ((wrapA .i64 ((wrapA .i64 (t2 - t1)) - 1)), b11)).bind fun b37 =>
  some b37

def F185 (F : Nat) (t0 : Int) : Option Int :=
  (F159 F ((wrapA .u64 t0))).bind fun r1 =>
  (shl? .u64 1 r1).bind fun x5 =>
  some x5

def F186 (F : Nat) (t0 : Int) : Option (Int × Int) :=
  (shl? .u64 t0 13).bind fun x1 =>
  (shr? .u64 (bit .xor .u64 t0 x1) 7).bind fun x5 =>
  (shl? .u64 (bit .xor .u64 (bit .xor .u64 t0 x1) x5) 17).bind fun x9 =>
  some (((bit .xor .u64 (bit .xor .u64 (bit .xor .u64 t0 x1) x5) x9), (bit .xor .u64 (bit .xor .u64 (bit .xor .u64 t0 x1) x5) x9)))

def F189 (F : Nat) (t0 : List Int) (t1 : Int) (t2 : Int) (t3 : Int) : Option (Int × Int × Int) :=
  (at? t0 t2).bind fun x1 =>
  (at? t0 t1).bind fun x3 =>
  (F167 F x1 x3).bind fun r5 =>
  if r5 then
  (some ((t2, t1, (wrapA .i64 (t3 + 1)))))
  else
  some ((t1, t2, t3))

def F188 (F : Nat) (t0 : List Int) (t1 : Int) (t2 : Int) (t3 : Int) (t4 : Int) : Option (Int × Int) :=
  (F189 F t0 t1 t2 t4).bind fun r1 =>
  (F189 F t0 r1.2.1 t3 r1.2.2).bind fun r6 =>
  (F189 F t0 r1.1 r6.1 r6.2.2).bind fun r11 =>
  some ((r11.2.1, r11.2.2))

def F187 (F : Nat) (t0 : List Int) (t1 : Int) (t2 : Int) : Option (Int × Int) :=
  (F188 F t0 ((wrapA .i64 (t1 - 1))) t1 ((wrapA .i64 (t1 + 1))) t2).bind fun r1 =>
  some ((r1.1, r1.2))

def F175_l0 (F : Nat)  (s1 : Int × Int × (List Int)) : Option (Stp (Int × Int × (List Int)) ((List Int))) :=
  if (decide (s1.1 < s1.2.1)) then
  ((at? s1.2.2 s1.2.1).bind fun x7 =>
  (at? s1.2.2 s1.1).bind fun x9 =>
  (ck s1.2.2 s1.1).bind fun u11 =>
  (ck ((s1.2.2.set ((Int.toNat s1.1)) x7)) s1.2.1).bind fun u15 =>
  some (.more (((wrapA .i64 (s1.1 + 1)), (wrapA .i64 (s1.2.1 - 1)), (((s1.2.2.set ((Int.toNat s1.1)) x7)).set ((Int.toNat s1.2.1)) x9)))))
  else
  some (.stop s1.2.2)
def F175 (F : Nat) (t0 : List Int) (t1 : Int) (t2 : Int) : Option ((List Int)) :=
  (iter (F175_l0 F) F (t1, (wrapA .i64 (t2 - 1)), t0)).bind fun b19 =>
  some b19

def F176_l0 (F : Nat) (t2 : Int) (s1 : Int × Int × (List Int)) (s9 : Int) : Option (Stp (Int) (Int)) :=
  (if (decide (s9 < t2)) then 
  ((at? s1.2.2 s9).bind fun x14 =>
  (at? s1.2.2 (wrapA .i64 (s9 - 1))).bind fun x16 =>
  (F167 F x14 x16).bind fun r18 =>
  some (!r18))
   else some false).bind fun y23 =>
  if y23 then
  (some (.more ((wrapA .i64 (s9 + 1)))))
  else
  some (.stop s9)
def F176_l1 (F : Nat)  (s47 : Int × (List Int)) : Option (Stp (Int × (List Int)) ((List Int))) :=
  if (decide (s47.1 ≥ 1)) then
  ((at? s47.2 s47.1).bind fun x53 =>
  (at? s47.2 (wrapA .i64 (s47.1 - 1))).bind fun x55 =>
  (F167 F x53 x55).bind fun r57 =>
  if (!r57) then
  (some (.stop s47.2))
  else
  (at? s47.2 (wrapA .i64 (s47.1 - 1))).bind fun x62 =>
  (at? s47.2 s47.1).bind fun x64 =>
  (ck s47.2 s47.1).bind fun u66 =>
  (ck ((s47.2.set ((Int.toNat s47.1)) x62)) (wrapA .i64 (s47.1 - 1))).bind fun u70 =>
  some (.more (((wrapA .i64 (s47.1 - 1)), (((s47.2.set ((Int.toNat s47.1)) x62)).set ((Int.toNat (wrapA .i64 (s47.1 - 1)))) x64)))))
  else
  some (.stop s47.2)
def F176_l2 (F : Nat) (t2 : Int) (s84 : Int × (List Int)) : Option (Stp (Int × (List Int)) ((List Int))) :=
  if (decide (s84.1 < t2)) then
  ((at? s84.2 s84.1).bind fun x90 =>
  (at? s84.2 (wrapA .i64 (s84.1 - 1))).bind fun x92 =>
  (F167 F x90 x92).bind fun r94 =>
  if (!r94) then
  (some (.stop s84.2))
  else
  (at? s84.2 (wrapA .i64 (s84.1 - 1))).bind fun x99 =>
  (at? s84.2 s84.1).bind fun x101 =>
  (ck s84.2 s84.1).bind fun u103 =>
  (ck ((s84.2.set ((Int.toNat s84.1)) x99)) (wrapA .i64 (s84.1 - 1))).bind fun u107 =>
  some (.more (((wrapA .i64 (s84.1 + 1)), (((s84.2.set ((Int.toNat s84.1)) x99)).set ((Int.toNat (wrapA .i64 (s84.1 - 1)))) x101)))))
  else
  some (.stop s84.2)
def F176_l3 (F : Nat) (t1 : Int) (t2 : Int) (s1 : Int × Int × (List Int)) : Option (Stp (Int × Int × (List Int)) ((List Int) ⊕ (Bool × (List Int)))) :=
  if (decide (s1.2.1 < 5)) then
  ((iter (F176_l0 F t2 s1) F s1.1).bind fun b28 =>
  if (b28 == t2) then
  (some (.stop ((.inr (true, s1.2.2)))))
  else
  if (decide ((wrapA .i64 (t2 - t1)) < 50)) then
  (some (.stop ((.inr (false, s1.2.2)))))
  else
  (at? s1.2.2 (wrapA .i64 (b28 - 1))).bind fun x34 =>
  (at? s1.2.2 b28).bind fun x36 =>
  (ck s1.2.2 b28).bind fun u38 =>
  (ck ((s1.2.2.set ((Int.toNat b28)) x34)) (wrapA .i64 (b28 - 1))).bind fun u42 =>
  (show Option ((List Int)) from (if (decide ((wrapA .i64 (b28 - t1)) ≥ 2)) then
  ((iter (F176_l1 F) F ((wrapA .i64 (b28 - 1)), (((s1.2.2.set ((Int.toNat b28)) x34)).set ((Int.toNat (wrapA .i64 (b28 - 1)))) x36))).bind fun b74 =>
  some b74)
  else
  some ((((s1.2.2.set ((Int.toNat b28)) x34)).set ((Int.toNat (wrapA .i64 (b28 - 1)))) x36)))).bind fun b78 =>
  if (decide ((wrapA .i64 (t2 - b28)) ≥ 2)) then
  ((iter (F176_l2 F t2) F ((wrapA .i64 (b28 + 1)), b78)).bind fun b111 =>
  some (.more ((b28, (wrapA .i64 (s1.2.1 + 1)), b111))))
  else
  some (.more ((b28, (wrapA .i64 (s1.2.1 + 1)), b78))))
  else
  some (.stop ((.inl s1.2.2)))
def F176 (F : Nat) (t0 : List Int) (t1 : Int) (t2 : Int) : Option (Bool × (List Int)) :=
  (iter (F176_l3 F t1 t2) F ((wrapA .i64 (t1 + 1)), 0, t0)).bind fun b115 =>
  match b115 with
  | .inl b117 => (some ((false, b117)))
  | .inr b117 => (some ((b117.1, b117.2)))

def F177_l0 (F : Nat) (t1 : Int) (s13 : Int × Int × (List Int)) (s18 : Int) : Option (Stp (Int) (Int)) :=
  (if (decide (s18 ≤ s13.2.1)) then 
  ((at? s13.2.2 t1).bind fun x23 =>
  (at? s13.2.2 s18).bind fun x25 =>
  (F167 F x23 x25).bind fun r27 =>
  some (!r27))
   else some false).bind fun y32 =>
  if y32 then
  (some (.more ((wrapA .i64 (s18 + 1)))))
  else
  some (.stop s18)
def F177_l1 (F : Nat) (t1 : Int) (s13 : Int × Int × (List Int)) (b37 : Int) (s41 : Int) : Option (Stp (Int) (Int)) :=
  (if (decide (b37 ≤ s41)) then 
  ((at? s13.2.2 t1).bind fun x46 =>
  (at? s13.2.2 s41).bind fun x48 =>
  (F167 F x46 x48).bind fun r50 =>
  some r50)
   else some false).bind fun y55 =>
  if y55 then
  (some (.more ((wrapA .i64 (s41 - 1)))))
  else
  some (.stop s41)
def F177_l2 (F : Nat) (t1 : Int) (s13 : Int × Int × (List Int)) : Option (Stp (Int × Int × (List Int)) (Int × (List Int))) :=
  (iter (F177_l0 F t1 s13) F s13.1).bind fun b37 =>
  (iter (F177_l1 F t1 s13 b37) F s13.2.1).bind fun b60 =>
  if (decide (b37 > b60)) then
  (some (.stop ((b37, s13.2.2))))
  else
  (at? s13.2.2 b60).bind fun x65 =>
  (at? s13.2.2 b37).bind fun x67 =>
  (ck s13.2.2 b37).bind fun u69 =>
  (ck ((s13.2.2.set ((Int.toNat b37)) x65)) b60).bind fun u73 =>
  some (.more (((wrapA .i64 (b37 + 1)), (wrapA .i64 (b60 - 1)), (((s13.2.2.set ((Int.toNat b37)) x65)).set ((Int.toNat b60)) x67))))
def F177 (F : Nat) (t0 : List Int) (t1 : Int) (t2 : Int) (t3 : Int) : Option (Int × (List Int)) :=
  (at? t0 t3).bind fun x1 =>
  (at? t0 t1).bind fun x3 =>
  (ck t0 t1).bind fun u5 =>
  (ck ((t0.set ((Int.toNat t1)) x1)) t3).bind fun u9 =>
  (iter (F177_l2 F t1) F ((wrapA .i64 (t1 + 1)), (wrapA .i64 (t2 - 1)), (((t0.set ((Int.toNat t1)) x1)).set ((Int.toNat t3)) x3))).bind fun b77 =>
  some ((b77.1, b77.2))

def F178_l0 (F : Nat) (t0 : List Int) (t1 : Int) (t2 : Int) (t3 : Int) (x1 : Int) (x3 : Int) (s13 : Int) : Option (Stp (Int) (Int)) :=
  (if (decide (s13 ≤ (wrapA .i64 (t2 - 1)))) then 
  ((at? ((((t0.set ((Int.toNat t1)) x1)).set ((Int.toNat t3)) x3)) s13).bind fun x18 =>
  (at? ((((t0.set ((Int.toNat t1)) x1)).set ((Int.toNat t3)) x3)) t1).bind fun x20 =>
  (F167 F x18 x20).bind fun r22 =>
  some r22)
   else some false).bind fun y27 =>
  if y27 then
  (some (.more ((wrapA .i64 (s13 + 1)))))
  else
  some (.stop s13)
def F178_l1 (F : Nat) (t0 : List Int) (t1 : Int) (t3 : Int) (x1 : Int) (x3 : Int) (b32 : Int) (s36 : Int) : Option (Stp (Int) (Int)) :=
  (if (decide (b32 ≤ s36)) then 
  ((at? ((((t0.set ((Int.toNat t1)) x1)).set ((Int.toNat t3)) x3)) s36).bind fun x41 =>
  (at? ((((t0.set ((Int.toNat t1)) x1)).set ((Int.toNat t3)) x3)) t1).bind fun x43 =>
  (F167 F x41 x43).bind fun r45 =>
  some (!r45))
   else some false).bind fun y50 =>
  if y50 then
  (some (.more ((wrapA .i64 (s36 - 1)))))
  else
  some (.stop s36)
def F178_l2 (F : Nat) (t1 : Int) (s84 : Int × Int × (List Int)) (s89 : Int) : Option (Stp (Int) (Int)) :=
  (if (decide (s89 ≤ s84.2.1)) then 
  ((at? s84.2.2 s89).bind fun x94 =>
  (at? s84.2.2 t1).bind fun x96 =>
  (F167 F x94 x96).bind fun r98 =>
  some r98)
   else some false).bind fun y103 =>
  if y103 then
  (some (.more ((wrapA .i64 (s89 + 1)))))
  else
  some (.stop s89)
def F178_l3 (F : Nat) (t1 : Int) (s84 : Int × Int × (List Int)) (b108 : Int) (s112 : Int) : Option (Stp (Int) (Int)) :=
  (if (decide (b108 ≤ s112)) then 
  ((at? s84.2.2 s112).bind fun x117 =>
  (at? s84.2.2 t1).bind fun x119 =>
  (F167 F x117 x119).bind fun r121 =>
  some (!r121))
   else some false).bind fun y126 =>
  if y126 then
  (some (.more ((wrapA .i64 (s112 - 1)))))
  else
  some (.stop s112)
def F178_l4 (F : Nat) (t1 : Int) (s84 : Int × Int × (List Int)) : Option (Stp (Int × Int × (List Int)) (Int × (List Int))) :=
  (iter (F178_l2 F t1 s84) F s84.1).bind fun b108 =>
  (iter (F178_l3 F t1 s84 b108) F s84.2.1).bind fun b131 =>
  if (decide (b108 > b131)) then
  (some (.stop ((b131, s84.2.2))))
  else
  (at? s84.2.2 b131).bind fun x136 =>
  (at? s84.2.2 b108).bind fun x138 =>
  (ck s84.2.2 b108).bind fun u140 =>
  (ck ((s84.2.2.set ((Int.toNat b108)) x136)) b131).bind fun u144 =>
  some (.more (((wrapA .i64 (b108 + 1)), (wrapA .i64 (b131 - 1)), (((s84.2.2.set ((Int.toNat b108)) x136)).set ((Int.toNat b131)) x138))))
def F178 (F : Nat) (t0 : List Int) (t1 : Int) (t2 : Int) (t3 : Int) : Option (Int × Bool × (List Int)) :=
  (at? t0 t3).bind fun x1 =>
  (at? t0 t1).bind fun x3 =>
  (ck t0 t1).bind fun u5 =>
  (ck ((t0.set ((Int.toNat t1)) x1)) t3).bind fun u9 =>
  (iter (F178_l0 F t0 t1 t2 t3 x1 x3) F (wrapA .i64 (t1 + 1))).bind fun b32 =>
  (iter (F178_l1 F t0 t1 t3 x1 x3 b32) F (wrapA .i64 (t2 - 1))).bind fun b55 =>
  if (decide (b32 > b55)) then
  ((at? ((((t0.set ((Int.toNat t1)) x1)).set ((Int.toNat t3)) x3)) t1).bind fun x60 =>
  (at? ((((t0.set ((Int.toNat t1)) x1)).set ((Int.toNat t3)) x3)) b55).bind fun x62 =>
  (ck ((((t0.set ((Int.toNat t1)) x1)).set ((Int.toNat t3)) x3)) b55).bind fun u64 =>
  (ck ((((((t0.set ((Int.toNat t1)) x1)).set ((Int.toNat t3)) x3)).set ((Int.toNat b55)) x60)) t1).bind fun u68 =>
  some ((b55, true, (((((((t0.set ((Int.toNat t1)) x1)).set ((Int.toNat t3)) x3)).set ((Int.toNat b55)) x60)).set ((Int.toNat t1)) x62))))
  else
  (at? ((((t0.set ((Int.toNat t1)) x1)).set ((Int.toNat t3)) x3)) b55).bind fun x72 =>
  (at? ((((t0.set ((Int.toNat t1)) x1)).set ((Int.toNat t3)) x3)) b32).bind fun x74 =>
  (ck ((((t0.set ((Int.toNat t1)) x1)).set ((Int.toNat t3)) x3)) b32).bind fun u76 =>
  (ck ((((((t0.set ((Int.toNat t1)) x1)).set ((Int.toNat t3)) x3)).set ((Int.toNat b32)) x72)) b55).bind fun u80 =>
  (iter (F178_l4 F t1) F ((wrapA .i64 (b32 + 1)), (wrapA .i64 (b55 - 1)), (((((((t0.set ((Int.toNat t1)) x1)).set ((Int.toNat t3)) x3)).set ((Int.toNat b32)) x72)).set ((Int.toNat b55)) x74))).bind fun b148 =>
  (at? b148.2 t1).bind fun x152 =>
  (at? b148.2 b148.1).bind fun x154 =>
  (ck b148.2 b148.1).bind fun u156 =>
  (ck ((b148.2.set ((Int.toNat b148.1)) x152)) t1).bind fun u160 =>
  some ((b148.1, false, (((b148.2.set ((Int.toNat b148.1)) x152)).set ((Int.toNat t1)) x154)))
end Go.Proofs.Ytdkmepeolmdccaa
