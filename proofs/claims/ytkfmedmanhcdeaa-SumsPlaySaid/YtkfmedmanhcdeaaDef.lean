/- Functional texts of the functions: printed by a program of ours (gen.py). -/
import Derived.Test.YtkfmedmanhcdeaaDenH
set_option linter.unusedVariables false
namespace Go.Proofs.Ytkfmedmanhcdeaa
open Go.Am
abbrev Y22 : Lay Int := Lay.one (SV.int .u16)
abbrev Y3 : Lay Int := Lay.one (SV.int .i64)
abbrev Y40 : Lay (Int × Int) := Lay.flat 2 (fun a => [.int .i64 a.1, .int .i64 a.2]) fun _ => rfl
abbrev Y112 : Lay (List Bool) := Lay.arr 10 SV.bool
abbrev Y56 : Lay (Int × Int) := Lay.flat 2 (fun a => [.int .i64 a.1, .int .i64 a.2]) fun _ => rfl
abbrev Y31 : Lay (List Int) := Lay.sl Y3
abbrev Y5 : Lay Int := Lay.one (SV.int .u8)
abbrev Y90 : Lay (Int × Int) := Lay.flat 2 (fun a => [.int .i64 a.1, .int .i64 a.2]) fun _ => rfl

def F15_l0 (F : Nat)  (s2 : Int × Int) : Option (Stp (Int × Int) (Int)) :=
  if ((bit .and .u16 s2.1 1) == 1) then
  (some (.more (((wrapA .u16 (Int.tdiv s2.1 2)), (wrapA .i64 (s2.2 + 1))))))
  else
  some (.stop s2.2)
def F15 (F : Nat) (t0 : Int) : Option (Int × Int) :=
  if (t0 == 65535) then
  (some ((0, 4)))
  else
  (iter (F15_l0 F) F (t0, 0)).bind fun b8 =>
  some ((b8, 0))

def F16_l0 (F : Nat) (s7 : (List Int) × Int) (s17 : (List Int) × Int) : Option (Stp ((List Int) × Int) ((List Int))) :=
  if (decide (s17.2 ≥ 0)) then
  ((at? s17.1 s17.2).bind fun x27 =>
  (shl? .u16 1 s7.2).bind fun x29 =>
  (app? s17.1 ([(bit .or .u16 x27 x29)])).bind fun L35 =>
  some (.more ((L35, (wrapA .i64 (s17.2 - 1))))))
  else
  some (.stop s17.1)
def F16_l1 (F : Nat) (t0 : Int) (s7 : (List Int) × Int) : Option (Stp ((List Int) × Int) ((List Int))) :=
  if (decide (s7.2 < t0)) then
  ((iter (F16_l0 F s7) F (s7.1, (wrapA .i64 ((s7.1.length : Int) - 1)))).bind fun b41 =>
  some (.more ((b41, (wrapA .i64 (s7.2 + 1))))))
  else
  some (.stop s7.1)
def F16 (F : Nat) (t0 : Int) : Option ((List Int) × Int) :=
  if ((decide (t0 < 0)) || (decide (t0 > 10))) then
  (some (([], 1)))
  else
  (iter (F16_l1 F t0) F ([0], 0)).bind fun b46 =>
  some ((b46, 0))

def F17_l0 (F : Nat)  (s1 : Int × Int) : Option (Stp (Int × Int) (Int)) :=
  if (decide (s1.2 < 16)) then
  ((shr? .u16 s1.1 s1.2).bind fun x7 =>
  some (.more (((bit .xor .u16 s1.1 x7), (wrapA .i64 (s1.2 * 2))))))
  else
  some (.stop s1.1)
def F17 (F : Nat) (t0 : Int) : Option Int :=
  (iter (F17_l0 F) F (t0, 1)).bind fun b9 =>
  some b9

def F18 (F : Nat) (t0 : Int) : Option Int :=
  (shr? .u16 t0 1).bind fun x1 =>
  some ((bit .xor .u16 t0 x1))

def F3_l0 (F : Nat) (r5 : (List Int) × Int) (s49 : Int) : Option (Stp (Int) (Unit ⊕ Bool)) :=
  if (decide (s49 < (r5.1.length : Int))) then
  ((at? r5.1 s49).bind fun x57 =>
  if (x57 != (bit .xor .u16 (wrapA .u16 s49) (wrapA .u16 (Int.tdiv (wrapA .u16 s49) 2)))) then
  (some (.stop ((.inr false))))
  else
  some (.more ((wrapA .i64 (s49 + 1)))))
  else
  some (.stop ((.inl ())))
def F3 (F : Nat) (t0 : Int) (t1 : Int) : Option Bool :=
  (F15 F t0).bind fun r1 =>
  (F16 F t1).bind fun r5 =>
  (F17 F t0).bind fun r11 =>
  (F18 F t0).bind fun r15 =>
  if ((r15 != (bit .xor .u16 t0 (wrapA .u16 (Int.tdiv t0 2)))) || ((bit .xor .u16 r11 (wrapA .u16 (Int.tdiv r11 2))) != t0)) then
  (some false)
  else
  (show Option (Unit ⊕ Bool) from (if (t0 == 65535) then
  (if ((r1.2 != 4) || (r1.1 != 0)) then
  (some ((.inr false)))
  else
  some ((.inl ())))
  else
  (if (((r1.2 != 0) || (decide (r1.1 < 0))) || (decide (r1.1 > 15))) then some true else 
  ((shl? .u16 1 r1.1).bind fun x26 =>
  some ((bit .xor .u16 (bit .xor .u16 t0 (wrapA .u16 (Int.tdiv t0 2))) x26) != (bit .xor .u16 (wrapA .u16 (t0 + 1)) (wrapA .u16 (Int.tdiv (wrapA .u16 (t0 + 1)) 2)))))
  ).bind fun y29 =>
  if y29 then
  (some ((.inr false)))
  else
  some ((.inl ())))).bind fun b32 =>
  match b32 with
  | .inl b37 => (if ((decide (t1 < 0)) || (decide (t1 > 10))) then
  (some (((r5.2 == 1) && ((r5.1.length : Int) == 0))))
  else
  (if (r5.2 != 0) then some true else 
  ((shl? .i64 1 t1).bind fun x43 =>
  some ((r5.1.length : Int) != x43))
  ).bind fun y46 =>
  if y46 then
  (some false)
  else
  (iter (F3_l0 F r5) F 0).bind fun b60 =>
  match b60 with
  | .inl b62 => (some true)
  | .inr b62 => (some b62))
  | .inr b37 => (some b37)

def F19_l0 (F : Nat) (t0 : List Int) (s1 : Int × Int) : Option (Stp (Int × Int) (Int ⊕ (Int × Int))) :=
  if (decide (s1.2 < (t0.length : Int))) then
  ((at? t0 s1.2).bind fun x9 =>
  if ((decide (x9 < 1)) || (decide (x9 > 12))) then
  (some (.stop ((.inr (0, 1)))))
  else
  (if (decide (s1.2 > 0)) then 
  ((at? t0 (wrapA .i64 (s1.2 - 1))).bind fun x13 =>
  some (decide (x9 > x13)))
   else some false).bind fun y16 =>
  if y16 then
  (some (.stop ((.inr (0, 3)))))
  else
  if (decide ((wrapA .i64 (s1.1 + x9)) > 12)) then
  (some (.stop ((.inr (0, 2)))))
  else
  some (.more (((wrapA .i64 (s1.1 + x9)), (wrapA .i64 (s1.2 + 1))))))
  else
  some (.stop ((.inl s1.1)))
def F19_l1 (F : Nat) (b22 : Int) (s25 : Int × Int) : Option (Stp (Int × Int) (Int)) :=
  if (decide (s25.2 ≤ b22)) then
  (some (.more (((wrapA .i64 (s25.1 * s25.2)), (wrapA .i64 (s25.2 + 1))))))
  else
  some (.stop s25.1)
def F19_l2 (F : Nat) (s43 : Int × Int) (L49 : List Int) (s53 : Int × Int) : Option (Stp (Int × Int) (Int)) :=
  if (decide (s53.2 < (L49.length : Int))) then
  ((at? L49 s53.2).bind fun x59 =>
  if (decide (x59 > s43.2)) then
  (some (.more (((wrapA .i64 (s53.1 + 1)), (wrapA .i64 (s53.2 + 1))))))
  else
  some (.more ((s53.1, (wrapA .i64 (s53.2 + 1))))))
  else
  some (.stop s53.1)
def F19_l3 (F : Nat) (t0 : List Int) (s35 : Int × Int) (x41 : Int) (s43 : Int × Int) : Option (Stp (Int × Int) (Int)) :=
  if (decide (s43.2 < x41)) then
  ((sub? t0 (wrapA .i64 (s35.2 + 1)) t0.length).bind fun L49 =>
  (iter (F19_l2 F s43 L49) F ((wrapA .i64 (x41 - s43.2)), 0)).bind fun b62 =>
  (quo? .i64 s43.1 b62).bind fun x66 =>
  some (.more ((x66, (wrapA .i64 (s43.2 + 1))))))
  else
  some (.stop s43.1)
def F19_l4 (F : Nat) (t0 : List Int) (s35 : Int × Int) : Option (Stp (Int × Int) (Int)) :=
  if (decide (s35.2 < (t0.length : Int))) then
  ((at? t0 s35.2).bind fun x41 =>
  (iter (F19_l3 F t0 s35 x41) F (s35.1, 0)).bind fun b68 =>
  some (.more ((b68, (wrapA .i64 (s35.2 + 1))))))
  else
  some (.stop s35.1)
def F19 (F : Nat) (t0 : List Int) : Option (Int × Int) :=
  (iter (F19_l0 F t0) F (0, 0)).bind fun b20 =>
  match b20 with
  | .inl b22 => ((iter (F19_l1 F b22) F (1, 2)).bind fun b31 =>
  (iter (F19_l4 F t0) F (b31, 0)).bind fun b72 =>
  some ((b72, 0)))
  | .inr b22 => (some ((b22.1, b22.2)))

def F20_l0 (F : Nat) (t0 : List Int) (s1 : Int × Int) : Option (Stp (Int × Int) (Unit ⊕ Int)) :=
  if (decide (s1.2 < (t0.length : Int))) then
  ((at? t0 s1.2).bind fun x9 =>
  if ((decide (x9 < 1)) || (decide (x9 > 12))) then
  (some (.stop ((.inr 1))))
  else
  (if (decide (s1.2 > 0)) then 
  ((at? t0 (wrapA .i64 (s1.2 - 1))).bind fun x13 =>
  some (decide (x9 > x13)))
   else some false).bind fun y16 =>
  if y16 then
  (some (.stop ((.inr 3))))
  else
  if (decide ((wrapA .i64 (s1.1 + x9)) > 12)) then
  (some (.stop ((.inr 2))))
  else
  some (.more (((wrapA .i64 (s1.1 + x9)), (wrapA .i64 (s1.2 + 1))))))
  else
  some (.stop ((.inl ())))
def F20 (F : Nat) (t0 : List Int) : Option Int :=
  (iter (F20_l0 F t0) F (0, 0)).bind fun b20 =>
  match b20 with
  | .inl b22 => (some 0)
  | .inr b22 => (some b22)

def F95 (F : Nat) (t0 : (List Int)) : Option ((List Int)) := if t0.length ≤ 549755813888 then some t0 else none

def F21_l0 (F : Nat) (t0 : List Int) (s1 : Int × Int) : Option (Stp (Int × Int) (Int)) :=
  if (decide (s1.2 < (t0.length : Int))) then
  ((at? t0 s1.2).bind fun x7 =>
  some (.more (((wrapA .i64 (s1.1 + x7)), (wrapA .i64 (s1.2 + 1))))))
  else
  some (.stop s1.1)
def F21_l1 (F : Nat) (t0 : List Int) (frec : (List Int) → Option Int) (s14 : Int × Int) : Option (Stp (Int × Int) (Int)) :=
  if (decide (s14.2 < (t0.length : Int))) then
  ((at? t0 s14.2).bind fun x20 =>
  (if (decide (x20 > 0)) then 
  ((if (s14.2 == (wrapA .i64 ((t0.length : Int) - 1))) then some true else 
  ((at? t0 (wrapA .i64 (s14.2 + 1))).bind fun x22 =>
  some (decide (x22 < x20)))
  ).bind fun y25 =>
  some y25)
   else some false).bind fun y28 =>
  if y28 then
  ((F95 F t0).bind fun r31 =>
  (at? r31 s14.2).bind fun x37 =>
  (ck r31 s14.2).bind fun u39 =>
  (frec ((r31.set ((Int.toNat s14.2)) ((wrapA .i64 (x37 - 1)))))).bind fun r43 =>
  some (.more (((wrapA .i64 (s14.1 + r43)), (wrapA .i64 (s14.2 + 1))))))
  else
  some (.more ((s14.1, (wrapA .i64 (s14.2 + 1))))))
  else
  some (.stop s14.1)
def F21 : Nat → (List Int) → Option Int
  | 0, _ => none
  | F + 1, t0 =>
  let frec := F21 F
  (iter (F21_l0 F t0) F (0, 0)).bind fun b9 =>
  if (b9 == 0) then
  (some 1)
  else
  (iter (F21_l1 F t0 frec) F (0, 0)).bind fun b47 =>
  some b47

def F4 (F : Nat) (t0 : List Int) : Option Bool :=
  (F19 F t0).bind fun r1 =>
  (F20 F t0).bind fun r5 =>
  (if (r1.2 == r5) then 
  ((if ((r5 != 0) && (r1.1 == 0)) then some true else 
  ((if (r5 == 0) then 
  ((F21 F t0).bind fun r10 =>
  some (r1.1 == r10))
   else some false).bind fun y15 =>
  some y15)
  ).bind fun y20 =>
  some y20)
   else some false).bind fun y25 =>
  some y25

def F22 (F : Nat) (t0 : Int) : Option ((Option ((List Int))) × Int) :=
  if ((decide (t0 < 1)) || (decide (t0 > 64))) then
  (some ((none, 1)))
  else
  (mk? (wrapA .i64 (t0 + 1)) (0 : Int)).bind fun L3 =>
  some (((some L3), 0))

def F96_l0 (F : Nat) (t0 : (List Int)) (s1 : Int × Int) : Option (Stp (Int × Int) (Int)) :=
  if (decide (s1.2 > 0)) then
  ((at? t0 s1.2).bind fun x7 =>
  some (.more (((wrapA .i64 (s1.1 + x7)), (wrapA .i64 (s1.2 - (bit .and .i64 s1.2 (wrapA .i64 (0 - s1.2)))))))))
  else
  some (.stop s1.1)
def F96 (F : Nat) (t0 : (List Int)) (t1 : Int) : Option Int :=
  (iter (F96_l0 F t0) F (0, t1)).bind fun b9 =>
  some b9

def F23_l0 (F : Nat) (t2 : Int) (s15 : Int × (List Int)) : Option (Stp (Int × (List Int)) ((List Int))) :=
  if (decide (s15.1 < (s15.2.length : Int))) then
  ((at? s15.2 s15.1).bind fun x25 =>
  (ck s15.2 s15.1).bind fun u27 =>
  some (.more (((wrapA .i64 (s15.1 + (bit .and .i64 s15.1 (wrapA .i64 (0 - s15.1))))), (s15.2.set ((Int.toNat s15.1)) ((wrapA .i64 (x25 + t2))))))))
  else
  some (.stop s15.2)
def F23 (F : Nat) (t0 : (List Int)) (t1 : Int) (t2 : Int) : Option (Int × ((List Int))) :=
  if ((((decide (t1 < 0)) || (decide (t1 ≥ (wrapA .i64 ((t0.length : Int) - 1))))) || (decide (t2 < (-1000000000)))) || (decide (t2 > 1000000000))) then
  (some ((1, t0)))
  else
  (F96 F t0 ((wrapA .i64 (t1 + 1)))).bind fun r5 =>
  (F96 F t0 t1).bind fun r9 =>
  if (decide ((wrapA .i64 ((wrapA .i64 (r5 - r9)) + t2)) < 0)) then
  (some ((3, t0)))
  else
  if (decide ((wrapA .i64 ((wrapA .i64 (r5 - r9)) + t2)) > 1000000000)) then
  (some ((2, t0)))
  else
  (iter (F23_l0 F t2) F ((wrapA .i64 (t1 + 1)), t0)).bind fun b31 =>
  some ((0, b31))

def F24 (F : Nat) (t0 : (List Int)) (t1 : Int) : Option (Int × Int) :=
  if ((decide (t1 < 0)) || (decide (t1 ≥ (t0.length : Int)))) then
  (some ((0, 1)))
  else
  (F96 F t0 t1).bind fun r3 =>
  some ((r3, 0))

def F25_l0 (F : Nat) (t0 : (List Int)) (s2 : Int × Int × Int) : Option (Stp (Int × Int × Int) (Int)) :=
  if (decide (s2.2.2 > 0)) then
  ((if (decide ((wrapA .i64 (s2.2.1 + s2.2.2)) < (t0.length : Int))) then 
  ((at? t0 (wrapA .i64 (s2.2.1 + s2.2.2))).bind fun x8 =>
  some (decide (x8 ≤ s2.1)))
   else some false).bind fun y11 =>
  if y11 then
  ((at? t0 (wrapA .i64 (s2.2.1 + s2.2.2))).bind fun x14 =>
  some (.more (((wrapA .i64 (s2.1 - x14)), (wrapA .i64 (s2.2.1 + s2.2.2)), (wrapA .i64 (Int.tdiv s2.2.2 2))))))
  else
  some (.more ((s2.1, s2.2.1, (wrapA .i64 (Int.tdiv s2.2.2 2))))))
  else
  some (.stop s2.2.1)
def F25 (F : Nat) (t0 : (List Int)) (t1 : Int) : Option (Int × Int) :=
  if (decide (t1 < 0)) then
  (some ((0, 1)))
  else
  (iter (F25_l0 F t0) F (t1, 0, 64)).bind fun b16 =>
  if (b16 == (wrapA .i64 ((t0.length : Int) - 1))) then
  (some ((0, 4)))
  else
  some ((b16, 0))

def F5_l0 (F : Nat) (L95 : List Int) (s99 : Int × Int) : Option (Stp (Int × Int) (Int)) :=
  if (decide (s99.2 < (L95.length : Int))) then
  ((at? L95 s99.2).bind fun x105 =>
  some (.more (((wrapA .i64 (s99.1 + x105)), (wrapA .i64 (s99.2 + 1))))))
  else
  some (.stop s99.1)
def F5_l1 (F : Nat) (t0 : Int) (b78 : (List Int)) (s124 : Int × Int) : Option (Stp (Int × Int) (Int)) :=
  (if (decide (s124.1 < t0)) then 
  ((at? b78 s124.1).bind fun x129 =>
  some (decide (s124.2 ≥ x129)))
   else some false).bind fun y132 =>
  if y132 then
  ((at? b78 s124.1).bind fun x135 =>
  some (.more (((wrapA .i64 (s124.1 + 1)), (wrapA .i64 (s124.2 - x135))))))
  else
  some (.stop s124.1)
def F5_l2 (F : Nat) (t0 : Int) (t1 : List (Int × Int)) (s28 : Int × (List Int) × (List Int)) : Option (Stp (Int × (List Int) × (List Int)) (Unit ⊕ Bool)) :=
  if (decide (s28.1 < (t1.length : Int))) then
  ((at? t1 s28.1).bind fun x39 =>
  (show Option (Int) from (if ((((decide (((x39.1, x39.2)).1 < 0)) || (decide (((x39.1, x39.2)).1 ≥ t0))) || (decide (((x39.1, x39.2)).2 < (-1000000000)))) || (decide (((x39.1, x39.2)).2 > 1000000000))) then
  (some 1)
  else
  (at? s28.2.2 ((x39.1, x39.2)).1).bind fun x51 =>
  if (decide ((wrapA .i64 (x51 + ((x39.1, x39.2)).2)) < 0)) then
  (some 3)
  else
  (at? s28.2.2 ((x39.1, x39.2)).1).bind fun x54 =>
  if (decide ((wrapA .i64 (x54 + ((x39.1, x39.2)).2)) > 1000000000)) then
  (some 2)
  else
  some 0)).bind fun b57 =>
  (F23 F s28.2.1 (((x39.1, x39.2)).1) (((x39.1, x39.2)).2)).bind fun r62 =>
  if (r62.1 != b57) then
  (some (.stop ((.inr false))))
  else
  (show Option ((List Int)) from (if (b57 == 0) then
  ((at? s28.2.2 ((x39.1, x39.2)).1).bind fun x72 =>
  (ck s28.2.2 ((x39.1, x39.2)).1).bind fun u74 =>
  some ((s28.2.2.set ((Int.toNat ((x39.1, x39.2)).1)) ((wrapA .i64 (x72 + ((x39.1, x39.2)).2))))))
  else
  some s28.2.2)).bind fun b78 =>
  (F24 F r62.2 (((x39.1, x39.2)).1)).bind fun r83 =>
  (F25 F r62.2 (((x39.1, x39.2)).2)).bind fun r87 =>
  (show Option (Unit ⊕ Bool) from (if ((decide (((x39.1, x39.2)).1 < 0)) || (decide (((x39.1, x39.2)).1 > t0))) then
  (if ((r83.2 != 1) || (r83.1 != 0)) then
  (some ((.inr false)))
  else
  some ((.inl ())))
  else
  (sub? b78 0 ((x39.1, x39.2)).1).bind fun L95 =>
  (iter (F5_l0 F L95) F (0, 0)).bind fun b107 =>
  if ((r83.2 != 0) || (r83.1 != b107)) then
  (some ((.inr false)))
  else
  some ((.inl ())))).bind fun b113 =>
  match b113 with
  | .inl b118 => (if (decide (((x39.1, x39.2)).2 < 0)) then
  (if ((r87.2 != 1) || (r87.1 != 0)) then
  (some (.stop ((.inr false))))
  else
  some (.more (((wrapA .i64 (s28.1 + 1)), r62.2, b78))))
  else
  (iter (F5_l1 F t0 b78) F (0, ((x39.1, x39.2)).2)).bind fun b137 =>
  if (((b137 == t0) && ((r87.2 != 4) || (r87.1 != 0))) || ((decide (b137 < t0)) && ((r87.2 != 0) || (r87.1 != b137)))) then
  (some (.stop ((.inr false))))
  else
  some (.more (((wrapA .i64 (s28.1 + 1)), r62.2, b78))))
  | .inr b118 => (some (.stop ((.inr b118)))))
  else
  some (.stop ((.inl ())))
def F5 (F : Nat) (t0 : Int) (t1 : List (Int × Int)) : Option Bool :=
  (F22 F t0).bind fun r1 =>
  match r1.1 with
  | none => (if ((decide (t0 < 1)) || (decide (t0 > 64))) then
  (some (((r1.2 == 1) && true)))
  else
  if ((r1.2 != 0) || true) then
  (some false)
  else
  none)
  | some x7 => (if ((decide (t0 < 1)) || (decide (t0 > 64))) then
  (some (((r1.2 == 1) && false)))
  else
  if ((r1.2 != 0) || false) then
  (some false)
  else
  (mk? t0 (0 : Int)).bind fun L22 =>
  (iter (F5_l2 F t0 t1) F (0, x7, L22)).bind fun b149 =>
  match b149 with
  | .inl b151 => (some true)
  | .inr b151 => (some b151))

def F97_l0 (F : Nat) (t0 : Int) (t1 : Int) (s2 : Int × Int) : Option (Stp (Int × Int) (Int)) :=
  if (decide (s2.2 < t1)) then
  ((quo? .i64 (wrapA .i64 (s2.1 * (wrapA .i64 (t0 - s2.2)))) (wrapA .i64 (s2.2 + 1))).bind fun x8 =>
  some (.more ((x8, (wrapA .i64 (s2.2 + 1))))))
  else
  some (.stop s2.1)
def F97 (F : Nat) (t0 : Int) (t1 : Int) : Option Int :=
  if (decide (t1 > t0)) then
  (some 0)
  else
  (iter (F97_l0 F t0 t1) F (1, 0)).bind fun b10 =>
  some b10

def F26 (F : Nat) (t0 : Int) (t1 : Int) : Option (Int × Int) :=
  if ((((decide (t0 < 0)) || (decide (t0 > 16))) || (decide (t1 < 0))) || (decide (t1 > 16))) then
  (some ((0, 1)))
  else
  (F97 F t0 t1).bind fun r5 =>
  some ((r5, 0))

def F27_l0 (F : Nat)  (s13 : Int × Int × Int × Int) : Option (Stp (Int × Int × Int × Int) (Int)) :=
  if (decide (s13.1 > 0)) then
  ((F97 F s13.2.2.2 s13.1).bind fun r19 =>
  if (decide (r19 ≤ s13.2.1)) then
  ((shl? .u16 1 s13.2.2.2).bind fun x24 =>
  some (.more (((wrapA .i64 (s13.1 - 1)), (wrapA .i64 (s13.2.1 - r19)), (bit .or .u16 s13.2.2.1 x24), (wrapA .i64 (s13.2.2.2 - 1))))))
  else
  some (.more ((s13.1, s13.2.1, s13.2.2.1, (wrapA .i64 (s13.2.2.2 - 1))))))
  else
  some (.stop s13.2.2.1)
def F27 (F : Nat) (t0 : Int) (t1 : Int) : Option (Int × Int) :=
  (if (((decide (t0 < 0)) || (decide (t0 > 16))) || (decide (t1 < 0))) then some true else 
  ((F97 F 16 t0).bind fun r3 =>
  some (decide (t1 ≥ r3)))
  ).bind fun y8 =>
  if y8 then
  (some ((0, 1)))
  else
  (iter (F27_l0 F) F (t0, t1, 0, 15)).bind fun b26 =>
  some ((b26, 0))

def F29_l0 (F : Nat)  (s1 : Int × Int) : Option (Stp (Int × Int) (Int)) :=
  if (decide (s1.1 > 0)) then
  (some (.more (((bit .and .u16 s1.1 (wrapA .u16 (s1.1 - 1))), (wrapA .i64 (s1.2 + 1))))))
  else
  some (.stop s1.2)
def F29 (F : Nat) (t0 : Int) : Option Int :=
  (iter (F29_l0 F) F (t0, 0)).bind fun b7 =>
  some b7

def F31_l0 (F : Nat) (t0 : Int) (s1 : Int × Int × Int) : Option (Stp (Int × Int × Int) (Int)) :=
  if (decide (s1.2.2 < 16)) then
  ((shr? .u16 t0 s1.2.2).bind fun x7 =>
  if ((bit .and .u16 x7 1) == 1) then
  ((F97 F s1.2.2 ((wrapA .i64 (s1.2.1 + 1)))).bind fun r10 =>
  some (.more (((wrapA .i64 (s1.1 + r10)), (wrapA .i64 (s1.2.1 + 1)), (wrapA .i64 (s1.2.2 + 1))))))
  else
  some (.more ((s1.1, s1.2.1, (wrapA .i64 (s1.2.2 + 1))))))
  else
  some (.stop s1.1)
def F31 (F : Nat) (t0 : Int) : Option Int :=
  (iter (F31_l0 F t0) F (0, 0, 0)).bind fun b14 =>
  some b14

def F28 (F : Nat) (t0 : Int) (t1 : Int) : Option (Int × Int) :=
  (if ((decide (t1 < 0)) || (decide (t1 > 16))) then some true else 
  ((shr? .u32 (wrapA .u32 t0) t1).bind fun x2 =>
  some (x2 != 0))
  ).bind fun y5 =>
  if y5 then
  (some ((0, 1)))
  else
  (F29 F t0).bind fun r8 =>
  (F31 F t0).bind fun r12 =>
  (F97 F t1 r8).bind fun r16 =>
  if (decide ((wrapA .i64 (r12 + 1)) ≥ r16)) then
  (some ((0, 4)))
  else
  (F27 F r8 ((wrapA .i64 (r12 + 1)))).bind fun r21 =>
  some ((r21.1, r21.2))

def F30_l0 (F : Nat) (t0 : Int) (s1 : Int × Int) : Option (Stp (Int × Int) (Int)) :=
  if (decide (s1.2 < 16)) then
  ((shr? .u16 t0 s1.2).bind fun x7 =>
  some (.more (((wrapA .i64 (s1.1 + (wrapA .i64 (bit .and .u16 x7 1)))), (wrapA .i64 (s1.2 + 1))))))
  else
  some (.stop s1.1)
def F30 (F : Nat) (t0 : Int) : Option Int :=
  (iter (F30_l0 F t0) F (0, 0)).bind fun b9 =>
  some b9

def F32_l0 (F : Nat) (t0 : Int) (s1 : Int × Int) : Option (Stp (Int × Int) (Int)) :=
  if (decide (s1.2 < t0)) then
  ((F30 F s1.2).bind fun r7 =>
  (F30 F t0).bind fun r11 =>
  if (r7 == r11) then
  (some (.more (((wrapA .i64 (s1.1 + 1)), (wrapA .u16 (s1.2 + 1))))))
  else
  some (.more ((s1.1, (wrapA .u16 (s1.2 + 1))))))
  else
  some (.stop s1.1)
def F32 (F : Nat) (t0 : Int) : Option Int :=
  (iter (F32_l0 F t0) F (0, 0)).bind fun b16 =>
  some b16

def F33_l0 (F : Nat)  (s21 : Int × (List Int)) : Option (Stp (Int × (List Int)) ((List Int))) :=
  if (decide (s21.1 > 0)) then
  ((at? s21.2 s21.1).bind fun x27 =>
  (at? s21.2 (wrapA .i64 (s21.1 - 1))).bind fun x29 =>
  (ck s21.2 s21.1).bind fun u31 =>
  some (.more (((wrapA .i64 (s21.1 - 1)), (s21.2.set ((Int.toNat s21.1)) ((wrapA .i64 (x27 + x29))))))))
  else
  some (.stop s21.2)
def F33_l1 (F : Nat) (t0 : Int) (t1 : Int) (s15 : Int × (List Int)) : Option (Stp (Int × (List Int)) ((List Int))) :=
  if (decide (s15.1 < t0)) then
  ((iter (F33_l0 F) F (t1, s15.2)).bind fun b35 =>
  some (.more (((wrapA .i64 (s15.1 + 1)), b35))))
  else
  some (.stop s15.2)
def F33 (F : Nat) (t0 : Int) (t1 : Int) : Option Int :=
  if ((decide (t1 < 0)) || (decide (t1 > t0))) then
  (some 0)
  else
  if ((t1 == 0) || (t1 == t0)) then
  (some 1)
  else
  (mk? (wrapA .i64 (t1 + 1)) (0 : Int)).bind fun L5 =>
  (ck L5 0).bind fun u11 =>
  (iter (F33_l1 F t0 t1) F (0, (L5.set ((Int.toNat 0)) 1))).bind fun b39 =>
  (at? b39 t1).bind fun x43 =>
  some x43

def F34_l0 (F : Nat) (t0 : Int) (t1 : Int) (s1 : Int) : Option (Stp (Int) (Unit ⊕ (Int × Bool))) :=
  (shl? .i64 1 t1).bind fun x8 =>
  if (decide (s1 < x8)) then
  ((F30 F ((wrapA .u16 s1))).bind fun r11 =>
  (F30 F t0).bind fun r15 =>
  if (r11 == r15) then
  (some (.stop ((.inr ((wrapA .u16 s1), true)))))
  else
  some (.more ((wrapA .i64 (s1 + 1)))))
  else
  some (.stop ((.inl ())))
def F34 (F : Nat) (t0 : Int) (t1 : Int) : Option (Int × Bool) :=
  (iter (F34_l0 F t0 t1) F (wrapA .i64 ((wrapA .i64 t0) + 1))).bind fun b20 =>
  match b20 with
  | .inl b22 => (some ((0, false)))
  | .inr b22 => (some ((b22.1, b22.2)))

def F6 (F : Nat) (t0 : Int) (t1 : Int) (t2 : Int) (t3 : Int) : Option Bool :=
  (F26 F t0 t1).bind fun r1 =>
  (F27 F t1 t3).bind fun r5 =>
  (F28 F t2 t0).bind fun r9 =>
  (F29 F t2).bind fun r13 =>
  (F30 F t2).bind fun r17 =>
  (if (r13 != r17) then some true else 
  ((F31 F t2).bind fun r21 =>
  (F32 F t2).bind fun r25 =>
  some (r21 != r25))
  ).bind fun y30 =>
  if y30 then
  (some false)
  else
  (show Option (Unit ⊕ Bool) from (if ((((decide (t0 < 0)) || (decide (t0 > 16))) || (decide (t1 < 0))) || (decide (t1 > 16))) then
  (if ((r1.2 != 1) || (r1.1 != 0)) then
  (some ((.inr false)))
  else
  some ((.inl ())))
  else
  (if (r1.2 != 0) then some true else 
  ((F33 F t0 t1).bind fun r41 =>
  some (r1.1 != r41))
  ).bind fun y46 =>
  if y46 then
  (some ((.inr false)))
  else
  some ((.inl ())))).bind fun b51 =>
  match b51 with
  | .inl b56 => ((if (((decide (t1 < 0)) || (decide (t1 > 16))) || (decide (t3 < 0))) then some true else 
  ((F33 F 16 t1).bind fun r61 =>
  some (decide (t3 ≥ r61)))
  ).bind fun y66 =>
  (show Option (Unit ⊕ Bool) from (if y66 then
  (if ((r5.2 != 1) || (r5.1 != 0)) then
  (some ((.inr false)))
  else
  some ((.inl ())))
  else
  (if (r5.2 != 0) then some true else 
  ((F30 F r5.1).bind fun r73 =>
  some (r73 != t1))
  ).bind fun y78 =>
  (if y78 then some true else 
  ((F32 F r5.1).bind fun r82 =>
  some (r82 != t3))
  ).bind fun y87 =>
  if y87 then
  (some ((.inr false)))
  else
  some ((.inl ())))).bind fun b92 =>
  match b92 with
  | .inl b97 => ((if ((decide (t0 < 0)) || (decide (t0 > 16))) then some true else 
  ((shl? .i64 1 t0).bind fun x101 =>
  some (decide ((wrapA .i64 t2) ≥ x101)))
  ).bind fun y104 =>
  if y104 then
  (some (((r9.2 == 1) && (r9.1 == 0))))
  else
  (F34 F t2 t0).bind fun r108 =>
  if (!r108.2) then
  (some (((r9.2 == 4) && (r9.1 == 0))))
  else
  some (((r9.2 == 0) && (r9.1 == r108.1))))
  | .inr b97 => (some b97))
  | .inr b56 => (some b56)

def F35_l0 (F : Nat) (t0 : Int) (s3 : Int × Int × Int) : Option (Stp (Int × Int × Int) (Int × Int)) :=
  if (decide (s3.2.2 ≤ t0)) then
  (some (.more ((s3.2.1, (wrapA .i64 ((wrapA .i64 (s3.2.2 - 1)) * (wrapA .i64 (s3.1 + s3.2.1)))), (wrapA .i64 (s3.2.2 + 1))))))
  else
  some (.stop ((s3.1, s3.2.1)))
def F35 (F : Nat) (t0 : Int) : Option (Int × Int) :=
  if ((decide (t0 < 0)) || (decide (t0 > 15))) then
  (some ((0, 1)))
  else
  (iter (F35_l0 F t0) F (1, 0, 2)).bind fun b9 =>
  if (t0 == 0) then
  (some ((b9.1, 0)))
  else
  some ((b9.2, 0))

def F36_l0 (F : Nat) (t0 : Int) (t1 : Int) (s10 : Int × Int) : Option (Stp (Int × Int) (Int)) :=
  if (decide (s10.2 < t1)) then
  ((quo? .i64 (wrapA .i64 (s10.1 * (wrapA .i64 (t0 - s10.2)))) (wrapA .i64 (s10.2 + 1))).bind fun x16 =>
  some (.more ((x16, (wrapA .i64 (s10.2 + 1))))))
  else
  some (.stop s10.1)
def F36 (F : Nat) (t0 : Int) (t1 : Int) : Option (Int × Int) :=
  if ((((decide (t0 < 0)) || (decide (t0 > 15))) || (decide (t1 < 0))) || (decide (t1 > 15))) then
  (some ((0, 1)))
  else
  if (decide (t1 > t0)) then
  (some ((0, 0)))
  else
  (F35 F ((wrapA .i64 (t0 - t1)))).bind fun r6 =>
  (iter (F36_l0 F t0 t1) F (r6.1, 0)).bind fun b18 =>
  some ((b18, 0))

def F98_l0 (F : Nat) (t0 : List Int) (s6 : Int × (List Bool)) : Option (Stp (Int × (List Bool)) (Unit ⊕ Int)) :=
  if (decide (s6.1 < (t0.length : Int))) then
  ((at? t0 s6.1).bind fun x14 =>
  (if ((decide (x14 < 0)) || (decide (x14 ≥ (t0.length : Int)))) then some true else 
  ((at? s6.2 x14).bind fun x17 =>
  some x17)
  ).bind fun y20 =>
  if y20 then
  (some (.stop ((.inr 3))))
  else
  (ck s6.2 x14).bind fun u23 =>
  some (.more (((wrapA .i64 (s6.1 + 1)), (s6.2.set ((Int.toNat x14)) true)))))
  else
  some (.stop ((.inl ())))
def F98 (F : Nat) (t0 : List Int) : Option Int :=
  if (decide ((t0.length : Int) > 10)) then
  (some 2)
  else
  (iter (F98_l0 F t0) F (0, (List.replicate 10 false))).bind fun b27 =>
  match b27 with
  | .inl b29 => (some 0)
  | .inr b29 => (some b29)

def F37_l0 (F : Nat) (t0 : List Int) (s6 : Int × Int) : Option (Stp (Int × Int) (Int)) :=
  if (decide (s6.2 < (t0.length : Int))) then
  ((at? t0 s6.2).bind fun x12 =>
  if (s6.2 == x12) then
  (some (.more (((wrapA .i64 (s6.1 + 1)), (wrapA .i64 (s6.2 + 1))))))
  else
  some (.more ((s6.1, (wrapA .i64 (s6.2 + 1))))))
  else
  some (.stop s6.1)
def F37 (F : Nat) (t0 : List Int) : Option (Int × Int) :=
  (F98 F t0).bind fun r1 =>
  if (r1 != 0) then
  (some ((0, r1)))
  else
  (iter (F37_l0 F t0) F (0, 0)).bind fun b15 =>
  some ((b15, 0))

def F118_l0 (F : Nat) (t0 : List Int) (t1 : Int) (s1 : Int) : Option (Stp (Int) (Unit ⊕ Int)) :=
  if (decide (s1 < (t0.length : Int))) then
  ((at? t0 s1).bind fun x9 =>
  if (t1 == x9) then
  (some (.stop ((.inr s1))))
  else
  some (.more ((wrapA .i64 (s1 + 1)))))
  else
  some (.stop ((.inl ())))
def F118 (F : Nat) (t0 : List Int) (t1 : Int) : Option Int :=
  (iter (F118_l0 F t0 t1) F 0).bind fun b12 =>
  match b12 with
  | .inl b14 => (some ((-1)))
  | .inr b14 => (some b14)

def F99 (F : Nat) (t0 : List Int) (t1 : Int) : Option Bool :=
  (F118 F t0 t1).bind fun r1 =>
  some ((decide (r1 ≥ 0)))

def F38_l0 (F : Nat) (t0 : List Int) (s2 : Int) : Option (Stp (Int) (Unit ⊕ Int)) :=
  if (decide (s2 < (t0.length : Int))) then
  ((F99 F t0 s2).bind fun r10 =>
  if (!r10) then
  (some (.stop ((.inr 3))))
  else
  some (.more ((wrapA .i64 (s2 + 1)))))
  else
  some (.stop ((.inl ())))
def F38 (F : Nat) (t0 : List Int) : Option Int :=
  if (decide ((t0.length : Int) > 10)) then
  (some 2)
  else
  (iter (F38_l0 F t0) F 0).bind fun b15 =>
  match b15 with
  | .inl b17 => (some 0)
  | .inr b17 => (some b17)

def F100 : Nat → Int → Option Int
  | 0, _ => none
  | F + 1, t0 =>
  let frec := F100 F
  if (decide (t0 < 2)) then
  (some 1)
  else
  (frec ((wrapA .i64 (t0 - 1)))).bind fun r2 =>
  some ((wrapA .i64 (t0 * r2)))

def F39_l0 (F : Nat) (t0 : Int) (s1 : Int × Int) : Option (Stp (Int × Int) (Int)) :=
  if (decide (s1.2 < (wrapA .i64 (t0 + 1)))) then
  ((F33 F t0 s1.2).bind fun r7 =>
  (F100 F ((wrapA .i64 (t0 - s1.2)))).bind fun r11 =>
  if ((Int.tmod s1.2 2) == 1) then
  (some (.more (((wrapA .i64 (s1.1 + (wrapA .i64 (0 - (wrapA .i64 (r7 * r11)))))), (wrapA .i64 (s1.2 + 1))))))
  else
  some (.more (((wrapA .i64 (s1.1 + (wrapA .i64 (r7 * r11)))), (wrapA .i64 (s1.2 + 1))))))
  else
  some (.stop s1.1)
def F39 (F : Nat) (t0 : Int) : Option Int :=
  (iter (F39_l0 F t0) F (0, 0)).bind fun b16 =>
  some b16

def F7_l0 (F : Nat) (t2 : List Int) (s17 : Int × Int) : Option (Stp (Int × Int) (Int)) :=
  if (decide (s17.2 < (t2.length : Int))) then
  ((at? t2 s17.2).bind fun x23 =>
  if (x23 == s17.2) then
  (some (.more (((wrapA .i64 (s17.1 + 1)), (wrapA .i64 (s17.2 + 1))))))
  else
  some (.more ((s17.1, (wrapA .i64 (s17.2 + 1))))))
  else
  some (.stop s17.1)
def F7 (F : Nat) (t0 : Int) (t1 : Int) (t2 : List Int) : Option Bool :=
  (F35 F t0).bind fun r1 =>
  (F36 F t0 t1).bind fun r5 =>
  (F37 F t2).bind fun r9 =>
  (F38 F t2).bind fun r13 =>
  (iter (F7_l0 F t2) F (0, 0)).bind fun b26 =>
  if (((r9.2 != r13) || ((r13 != 0) && (r9.1 != 0))) || ((r13 == 0) && (r9.1 != b26))) then
  (some false)
  else
  if ((decide (t0 < 0)) || (decide (t0 > 15))) then
  (some (((((r1.2 == 1) && (r5.2 == r1.2)) && (r1.1 == 0)) && (r5.1 == 0))))
  else
  (if (r1.2 != 0) then some true else 
  ((F39 F t0).bind fun r40 =>
  some (r1.1 != r40))
  ).bind fun y45 =>
  if y45 then
  (some false)
  else
  if ((decide (t1 < 0)) || (decide (t1 > 15))) then
  (some (((r5.2 == 1) && (r5.1 == 0))))
  else
  if (decide (t1 > t0)) then
  (some (((r5.2 == 0) && (r5.1 == 0))))
  else
  (if (r5.2 == 0) then 
  ((F33 F t0 t1).bind fun r55 =>
  (F39 F ((wrapA .i64 (t0 - t1)))).bind fun r59 =>
  some (r5.1 == (wrapA .i64 (r55 * r59))))
   else some false).bind fun y64 =>
  some y64

def F104_l0 (F : Nat)  (s1 : Int × Int) : Option (Stp (Int × Int) (Int)) :=
  if (decide (s1.2 > 0)) then
  ((rem? s1.1 s1.2).bind fun x7 =>
  some (.more ((s1.2, x7))))
  else
  some (.stop s1.1)
def F104 (F : Nat) (t0 : Int) (t1 : Int) : Option Int :=
  (iter (F104_l0 F) F ((maxI t0 (wrapA .i64 (0 - t0))), t1)).bind fun b9 =>
  some b9

def F101 (F : Nat) (t0 : Int) (t1 : Int) : Option ((Int × Int) × Int) :=
  (F104 F t0 t1).bind fun r5 =>
  (quo? .i64 t0 r5).bind fun x9 =>
  (quo? .i64 t1 r5).bind fun x11 =>
  if (((decide (((x9, x11)).2 > 1000000000)) || (decide (((x9, x11)).1 < (-1000000000)))) || (decide (((x9, x11)).1 > 1000000000))) then
  (some (((((0, 0)).1, ((0, 0)).2), 2)))
  else
  some (((((((x9, x11)).1, ((x9, x11)).2)).1, ((((x9, x11)).1, ((x9, x11)).2)).2), 0))

def F40 (F : Nat) (t0 : Int) (t1 : Int) : Option ((Int × Int) × Int) :=
  if ((((decide (t0 < (-1000000000))) || (decide (t0 > 1000000000))) || (decide (t1 < (-1000000000)))) || (decide (t1 > 1000000000))) then
  (some (((((0, 0)).1, ((0, 0)).2), 1)))
  else
  if (t1 == 0) then
  (some (((((0, 0)).1, ((0, 0)).2), 5)))
  else
  if (decide (t1 < 0)) then
  ((F101 F ((wrapA .i64 (0 - t0))) ((wrapA .i64 (0 - t1)))).bind fun r15 =>
  some (((((r15.1.1, r15.1.2)).1, ((r15.1.1, r15.1.2)).2), r15.2)))
  else
  (F101 F t0 t1).bind fun r21 =>
  some (((((r21.1.1, r21.1.2)).1, ((r21.1.1, r21.1.2)).2), r21.2))

def F47 (F : Nat) (t0 : Int × Int) : Option Int :=
  if ((((decide (((t0.1, t0.2)).2 < 1)) || (decide (((t0.1, t0.2)).2 > 1000000000))) || (decide (((t0.1, t0.2)).1 < (-1000000000)))) || (decide (((t0.1, t0.2)).1 > 1000000000))) then
  (some 1)
  else
  (F104 F (((t0.1, t0.2)).1) (((t0.1, t0.2)).2)).bind fun r9 =>
  if (r9 != 1) then
  (some 3)
  else
  some 0

def F102 (F : Nat) (t0 : Int × Int) (t1 : Int × Int) : Option Int :=
  (F47 F ((((t0.1, t0.2)).1, ((t0.1, t0.2)).2))).bind fun r9 =>
  if (r9 != 0) then
  (some r9)
  else
  (F47 F ((((t1.1, t1.2)).1, ((t1.1, t1.2)).2))).bind fun r14 =>
  some r14

def F41 (F : Nat) (t0 : Int × Int) (t1 : Int × Int) : Option ((Int × Int) × Int) :=
  (F102 F ((((t0.1, t0.2)).1, ((t0.1, t0.2)).2)) ((((t1.1, t1.2)).1, ((t1.1, t1.2)).2))).bind fun r13 =>
  if (r13 != 0) then
  (some (((((0, 0)).1, ((0, 0)).2), r13)))
  else
  (F101 F ((wrapA .i64 ((wrapA .i64 (((t0.1, t0.2)).1 * ((t1.1, t1.2)).2)) + (wrapA .i64 (((t1.1, t1.2)).1 * ((t0.1, t0.2)).2))))) ((wrapA .i64 (((t0.1, t0.2)).2 * ((t1.1, t1.2)).2)))).bind fun r20 =>
  some (((((r20.1.1, r20.1.2)).1, ((r20.1.1, r20.1.2)).2), r20.2))

def F42 (F : Nat) (t0 : Int × Int) (t1 : Int × Int) : Option ((Int × Int) × Int) :=
  (F102 F ((((t0.1, t0.2)).1, ((t0.1, t0.2)).2)) ((((t1.1, t1.2)).1, ((t1.1, t1.2)).2))).bind fun r13 =>
  if (r13 != 0) then
  (some (((((0, 0)).1, ((0, 0)).2), r13)))
  else
  (F101 F ((wrapA .i64 (((t0.1, t0.2)).1 * ((t1.1, t1.2)).1))) ((wrapA .i64 (((t0.1, t0.2)).2 * ((t1.1, t1.2)).2)))).bind fun r20 =>
  some (((((r20.1.1, r20.1.2)).1, ((r20.1.1, r20.1.2)).2), r20.2))

def F43 (F : Nat) (t0 : Int × Int) (t1 : Int × Int) : Option ((Int × Int) × Int) :=
  (F102 F ((((t0.1, t0.2)).1, ((t0.1, t0.2)).2)) ((((t1.1, t1.2)).1, ((t1.1, t1.2)).2))).bind fun r13 =>
  if (r13 != 0) then
  (some (((((0, 0)).1, ((0, 0)).2), r13)))
  else
  if (((t1.1, t1.2)).1 == 0) then
  (some (((((0, 0)).1, ((0, 0)).2), 5)))
  else
  if (decide ((wrapA .i64 (((t0.1, t0.2)).2 * ((t1.1, t1.2)).1)) < 0)) then
  ((F101 F ((wrapA .i64 (0 - (wrapA .i64 (((t0.1, t0.2)).1 * ((t1.1, t1.2)).2))))) ((wrapA .i64 (0 - (wrapA .i64 (((t0.1, t0.2)).2 * ((t1.1, t1.2)).1)))))).bind fun r24 =>
  some (((((r24.1.1, r24.1.2)).1, ((r24.1.1, r24.1.2)).2), r24.2)))
  else
  (F101 F ((wrapA .i64 (((t0.1, t0.2)).1 * ((t1.1, t1.2)).2))) ((wrapA .i64 (((t0.1, t0.2)).2 * ((t1.1, t1.2)).1)))).bind fun r30 =>
  some (((((r30.1.1, r30.1.2)).1, ((r30.1.1, r30.1.2)).2), r30.2))

def F44 (F : Nat) (t0 : Int × Int) (t1 : Int × Int) : Option (Bool × Int) :=
  (F102 F ((((t0.1, t0.2)).1, ((t0.1, t0.2)).2)) ((((t1.1, t1.2)).1, ((t1.1, t1.2)).2))).bind fun r9 =>
  if (r9 != 0) then
  (some ((false, r9)))
  else
  some (((decide ((wrapA .i64 (((t0.1, t0.2)).1 * ((t1.1, t1.2)).2)) < (wrapA .i64 (((t1.1, t1.2)).1 * ((t0.1, t0.2)).2)))), 0))

def F103 : Nat → Int → Int → Option Int
  | 0, _, _ => none
  | F + 1, t0, t1 =>
  let frec := F103 F
  if ((maxI t1 (wrapA .i64 (0 - t1))) == 0) then
  (some ((maxI t0 (wrapA .i64 (0 - t0)))))
  else
  (rem? (maxI t0 (wrapA .i64 (0 - t0))) (maxI t1 (wrapA .i64 (0 - t1)))).bind fun x2 =>
  (frec ((maxI t1 (wrapA .i64 (0 - t1)))) x2).bind fun r4 =>
  some r4

def F50 (F : Nat) (t0 : Int) (t1 : Int) : Option ((Int × Int) × Int) :=
  (F103 F t0 t1).bind fun r5 =>
  (show Option (Int) from (if (decide (t1 < 0)) then
  (some ((wrapA .i64 (0 - r5))))
  else
  some r5)).bind fun b10 =>
  (quo? .i64 t0 b10).bind fun x15 =>
  (quo? .i64 t1 b10).bind fun x17 =>
  if ((decide (x17 > 1000000000)) || (decide ((maxI x15 (wrapA .i64 (0 - x15))) > 1000000000))) then
  (some (((((0, 0)).1, ((0, 0)).2), 2)))
  else
  some (((((x15, x17)).1, ((x15, x17)).2), 0))

def F45 (F : Nat) (t0 : Int) (t1 : Int) : Option ((Int × Int)) :=
  (F50 F t0 t1).bind fun r5 =>
  some ((((((r5.1.1, r5.1.2)).1, ((r5.1.1, r5.1.2)).2)).1, ((((r5.1.1, r5.1.2)).1, ((r5.1.1, r5.1.2)).2)).2))

def F46 (F : Nat) (t0 : Int × Int) : Option Int :=
  if ((((decide (((t0.1, t0.2)).2 < 1)) || (decide (((t0.1, t0.2)).2 > 1000000000))) || (decide (((t0.1, t0.2)).1 < (-1000000000)))) || (decide (((t0.1, t0.2)).1 > 1000000000))) then
  (some 1)
  else
  (F103 F (((t0.1, t0.2)).1) (((t0.1, t0.2)).2)).bind fun r9 =>
  if (r9 != 1) then
  (some 3)
  else
  some 0

def F48 (F : Nat) (t0 : Int × Int) (t1 : Int × Int) : Option ((Int × Int) × Int) :=
  (F50 F ((wrapA .i64 ((wrapA .i64 (((t0.1, t0.2)).1 * ((t1.1, t1.2)).2)) + (wrapA .i64 (((t0.1, t0.2)).2 * ((t1.1, t1.2)).1))))) ((wrapA .i64 (((t0.1, t0.2)).2 * ((t1.1, t1.2)).2)))).bind fun r13 =>
  some (((((r13.1.1, r13.1.2)).1, ((r13.1.1, r13.1.2)).2), r13.2))

def F49 (F : Nat) (t0 : Int × Int) (t1 : Int × Int) : Option ((Int × Int) × Int) :=
  (F50 F ((wrapA .i64 (((t0.1, t0.2)).1 * ((t1.1, t1.2)).1))) ((wrapA .i64 (((t0.1, t0.2)).2 * ((t1.1, t1.2)).2)))).bind fun r13 =>
  some (((((r13.1.1, r13.1.2)).1, ((r13.1.1, r13.1.2)).2), r13.2))

def F8 (F : Nat) (t0 : Int) (t1 : Int) (t2 : Int × Int) (t3 : Int × Int) : Option Bool :=
  (F40 F t0 t1).bind fun r9 =>
  (F41 F ((((t2.1, t2.2)).1, ((t2.1, t2.2)).2)) ((((t3.1, t3.2)).1, ((t3.1, t3.2)).2))).bind fun r19 =>
  (F42 F ((((t2.1, t2.2)).1, ((t2.1, t2.2)).2)) ((((t3.1, t3.2)).1, ((t3.1, t3.2)).2))).bind fun r29 =>
  (F43 F ((((t2.1, t2.2)).1, ((t2.1, t2.2)).2)) ((((t3.1, t3.2)).1, ((t3.1, t3.2)).2))).bind fun r39 =>
  (F44 F ((((t2.1, t2.2)).1, ((t2.1, t2.2)).2)) ((((t3.1, t3.2)).1, ((t3.1, t3.2)).2))).bind fun r49 =>
  (show Option (Unit ⊕ Bool) from (if ((decide ((maxI t0 t1) > 1000000000)) || (decide ((minI t0 t1) < (-1000000000)))) then
  (if ((r9.2 != 1) || (!(((r9.1.1, r9.1.2)).1 == 0 && (((r9.1.1, r9.1.2)).2 == 0 && true)))) then
  (some ((.inr false)))
  else
  some ((.inl ())))
  else
  if (t1 == 0) then
  (if ((r9.2 != 5) || (!(((r9.1.1, r9.1.2)).1 == 0 && (((r9.1.1, r9.1.2)).2 == 0 && true)))) then
  (some ((.inr false)))
  else
  some ((.inl ())))
  else
  (if (r9.2 != 0) then some true else 
  ((F45 F t0 t1).bind fun r60 =>
  some (!(((r9.1.1, r9.1.2)).1 == r60.1 && (((r9.1.1, r9.1.2)).2 == r60.2 && true))))
  ).bind fun y65 =>
  if y65 then
  (some ((.inr false)))
  else
  some ((.inl ())))).bind fun b70 =>
  match b70 with
  | .inl b75 => ((F46 F ((((t2.1, t2.2)).1, ((t2.1, t2.2)).2))).bind fun r78 =>
  (F47 F ((((t2.1, t2.2)).1, ((t2.1, t2.2)).2))).bind fun r82 =>
  if (r82 != r78) then
  (some false)
  else
  (show Option (Int) from (if (r78 == 0) then
  ((F46 F ((((t3.1, t3.2)).1, ((t3.1, t3.2)).2))).bind fun r88 =>
  some r88)
  else
  some r78)).bind fun b92 =>
  if (b92 != 0) then
  (some (((((((((r19.2 == b92) && (r29.2 == b92)) && (r39.2 == b92)) && (r49.2 == b92)) && (((r19.1.1, r19.1.2)).1 == 0 && (((r19.1.1, r19.1.2)).2 == 0 && true))) && (((r29.1.1, r29.1.2)).1 == 0 && (((r29.1.1, r29.1.2)).2 == 0 && true))) && (((r39.1.1, r39.1.2)).1 == 0 && (((r39.1.1, r39.1.2)).2 == 0 && true))) && (!r49.1))))
  else
  (F48 F ((((t2.1, t2.2)).1, ((t2.1, t2.2)).2)) ((((t3.1, t3.2)).1, ((t3.1, t3.2)).2))).bind fun r105 =>
  (F49 F ((((t2.1, t2.2)).1, ((t2.1, t2.2)).2)) ((((t3.1, t3.2)).1, ((t3.1, t3.2)).2))).bind fun r115 =>
  if ((((((r19.2 != r105.2) || (!(((r19.1.1, r19.1.2)).1 == ((r105.1.1, r105.1.2)).1 && (((r19.1.1, r19.1.2)).2 == ((r105.1.1, r105.1.2)).2 && true)))) || (r29.2 != r115.2)) || (!(((r29.1.1, r29.1.2)).1 == ((r115.1.1, r115.1.2)).1 && (((r29.1.1, r29.1.2)).2 == ((r115.1.1, r115.1.2)).2 && true)))) || (r49.2 != 0)) || (!(r49.1 == (decide ((wrapA .i64 (((t2.1, t2.2)).1 * ((t3.1, t3.2)).2)) < (wrapA .i64 (((t3.1, t3.2)).1 * ((t2.1, t2.2)).2))))))) then
  (some false)
  else
  if (((t3.1, t3.2)).1 == 0) then
  (some (((r39.2 == 5) && (((r39.1.1, r39.1.2)).1 == 0 && (((r39.1.1, r39.1.2)).2 == 0 && true)))))
  else
  (F50 F ((wrapA .i64 (((t2.1, t2.2)).1 * ((t3.1, t3.2)).2))) ((wrapA .i64 (((t2.1, t2.2)).2 * ((t3.1, t3.2)).1)))).bind fun r133 =>
  some (((r39.2 == r133.2) && (((r39.1.1, r39.1.2)).1 == ((r133.1.1, r133.1.2)).1 && (((r39.1.1, r39.1.2)).2 == ((r133.1.1, r133.1.2)).2 && true)))))
  | .inr b75 => (some b75)

def F51_l0 (F : Nat) (s15 : Int × (List Int)) (s21 : Int × (List Int)) : Option (Stp (Int × (List Int)) ((List Int))) :=
  if (decide (s21.1 > 0)) then
  ((at? s21.2 s21.1).bind fun x27 =>
  (at? s21.2 (wrapA .i64 (s21.1 - 1))).bind fun x29 =>
  (ck s21.2 s21.1).bind fun u31 =>
  some (.more (((wrapA .i64 (s21.1 - 1)), (s21.2.set ((Int.toNat s21.1)) ((wrapA .i64 ((wrapA .i64 ((wrapA .i64 (s21.1 + 1)) * x27)) + (wrapA .i64 ((wrapA .i64 (s15.1 - s21.1)) * x29))))))))))
  else
  some (.stop s21.2)
def F51_l1 (F : Nat) (t0 : Int) (s15 : Int × (List Int)) : Option (Stp (Int × (List Int)) ((List Int))) :=
  if (decide (s15.1 ≤ t0)) then
  ((iter (F51_l0 F s15) F ((minI (wrapA .i64 (s15.1 - 1)) 15), s15.2)).bind fun b35 =>
  some (.more (((wrapA .i64 (s15.1 + 1)), b35))))
  else
  some (.stop s15.2)
def F51 (F : Nat) (t0 : Int) (t1 : Int) : Option (Int × Int) :=
  if ((((decide (t0 < 0)) || (decide (t0 > 15))) || (decide (t1 < 0))) || (decide (t1 > 15))) then
  (some ((0, 1)))
  else
  (mk? 16 (0 : Int)).bind fun L5 =>
  (ck L5 0).bind fun u11 =>
  (iter (F51_l1 F t0) F (2, (L5.set ((Int.toNat 0)) 1))).bind fun b39 =>
  (at? b39 t1).bind fun x43 =>
  some ((x43, 0))

def F52_l0 (F : Nat) (t0 : List Int) (s6 : Int × Int) : Option (Stp (Int × Int) (Int)) :=
  if (decide (s6.2 < (t0.length : Int))) then
  ((at? t0 s6.2).bind fun x12 =>
  (at? t0 (wrapA .i64 (s6.2 - 1))).bind fun x14 =>
  if (decide (x12 < x14)) then
  (some (.more (((wrapA .i64 (s6.1 + 1)), (wrapA .i64 (s6.2 + 1))))))
  else
  some (.more ((s6.1, (wrapA .i64 (s6.2 + 1))))))
  else
  some (.stop s6.1)
def F52 (F : Nat) (t0 : List Int) : Option (Int × Int) :=
  (F98 F t0).bind fun r1 =>
  if (r1 != 0) then
  (some ((0, r1)))
  else
  (iter (F52_l0 F t0) F (0, 1)).bind fun b17 =>
  some ((b17, 0))

def F53_l0 (F : Nat) (x12 : Int) (L14 : List Int) (s18 : Int × Int) : Option (Stp (Int × Int) (Int)) :=
  if (decide (s18.2 < (L14.length : Int))) then
  ((at? L14 s18.2).bind fun x24 =>
  if (decide (x24 > x12)) then
  (some (.more (((wrapA .i64 (s18.1 + 1)), (wrapA .i64 (s18.2 + 1))))))
  else
  some (.more ((s18.1, (wrapA .i64 (s18.2 + 1))))))
  else
  some (.stop s18.1)
def F53_l1 (F : Nat) (t0 : List Int) (s6 : Int × Int) : Option (Stp (Int × Int) (Int)) :=
  if (decide (s6.2 < (t0.length : Int))) then
  ((at? t0 s6.2).bind fun x12 =>
  (sub? t0 0 s6.2).bind fun L14 =>
  (iter (F53_l0 F x12 L14) F (s6.1, 0)).bind fun b27 =>
  some (.more ((b27, (wrapA .i64 (s6.2 + 1))))))
  else
  some (.stop s6.1)
def F53 (F : Nat) (t0 : List Int) : Option (Int × Int) :=
  (F98 F t0).bind fun r1 =>
  if (r1 != 0) then
  (some ((0, r1)))
  else
  (iter (F53_l1 F t0) F (0, 0)).bind fun b31 =>
  some ((b31, 0))

def F54_l0 (F : Nat) (t0 : List Int) (s6 : Int × Int) : Option (Stp (Int × Int) (Int)) :=
  if (decide (s6.2 < (t0.length : Int))) then
  ((at? t0 s6.2).bind fun x12 =>
  (at? t0 (wrapA .i64 (s6.2 - 1))).bind fun x14 =>
  if (decide (x12 < x14)) then
  (some (.more (((wrapA .i64 (s6.1 + s6.2)), (wrapA .i64 (s6.2 + 1))))))
  else
  some (.more ((s6.1, (wrapA .i64 (s6.2 + 1))))))
  else
  some (.stop s6.1)
def F54 (F : Nat) (t0 : List Int) : Option (Int × Int) :=
  (F98 F t0).bind fun r1 =>
  if (r1 != 0) then
  (some ((0, r1)))
  else
  (iter (F54_l0 F t0) F (0, 1)).bind fun b17 =>
  some ((b17, 0))

def F55_l0 (F : Nat) (t0 : Int) (t1 : Int) (s4 : Int × Int) (s14 : Int × Int) : Option (Stp (Int × Int) (Int)) :=
  if (decide (s14.2 < t0)) then
  (some (.more (((wrapA .i64 (s14.1 * (wrapA .i64 ((wrapA .i64 (t1 + 1)) - s4.2)))), (wrapA .i64 (s14.2 + 1))))))
  else
  some (.stop s14.1)
def F55_l1 (F : Nat) (t0 : Int) (t1 : Int) (s4 : Int × Int) : Option (Stp (Int × Int) (Int)) :=
  if (decide (s4.2 < (wrapA .i64 (t1 + 1)))) then
  ((F33 F ((wrapA .i64 (t0 + 1))) s4.2).bind fun r10 =>
  (iter (F55_l0 F t0 t1 s4) F (r10, 0)).bind fun b20 =>
  if ((Int.tmod s4.2 2) == 1) then
  (some (.more (((wrapA .i64 (s4.1 + (wrapA .i64 (0 - b20)))), (wrapA .i64 (s4.2 + 1))))))
  else
  some (.more (((wrapA .i64 (s4.1 + b20)), (wrapA .i64 (s4.2 + 1))))))
  else
  some (.stop s4.1)
def F55 (F : Nat) (t0 : Int) (t1 : Int) : Option Int :=
  if (t0 == 0) then
  (if (t1 == 0) then
  (some 1)
  else
  some 0)
  else
  if (decide (t1 ≥ t0)) then
  (some 0)
  else
  (iter (F55_l1 F t0 t1) F (0, 0)).bind fun b25 =>
  some b25

def F56_l0 (F : Nat) (t0 : List Int) (s1 : Int × Int) (s7 : Int × Int) : Option (Stp (Int × Int) (Int)) :=
  if (decide (s7.2 < s1.2)) then
  ((at? t0 s7.2).bind fun x13 =>
  (at? t0 s1.2).bind fun x15 =>
  if (decide (x13 > x15)) then
  (some (.more (((wrapA .i64 (s7.1 + 1)), (wrapA .i64 (s7.2 + 1))))))
  else
  some (.more ((s7.1, (wrapA .i64 (s7.2 + 1))))))
  else
  some (.stop s7.1)
def F56_l1 (F : Nat) (t0 : List Int) (s1 : Int × Int) : Option (Stp (Int × Int) (Int)) :=
  if (decide (s1.2 < (t0.length : Int))) then
  ((iter (F56_l0 F t0 s1) F (s1.1, 0)).bind fun b18 =>
  some (.more ((b18, (wrapA .i64 (s1.2 + 1))))))
  else
  some (.stop s1.1)
def F56 (F : Nat) (t0 : List Int) : Option Int :=
  (iter (F56_l1 F t0) F (0, 0)).bind fun b22 =>
  some b22

def F9_l0 (F : Nat) (t2 : List Int) (s51 : Int × Int × Int) : Option (Stp (Int × Int × Int) (Int × Int)) :=
  if (decide (s51.2.2 < (t2.length : Int))) then
  ((if (decide (s51.2.2 > 0)) then 
  ((at? t2 (wrapA .i64 (s51.2.2 - 1))).bind fun x57 =>
  (at? t2 s51.2.2).bind fun x59 =>
  some (decide (x57 > x59)))
   else some false).bind fun y62 =>
  if y62 then
  (some (.more (((wrapA .i64 (s51.1 + 1)), (wrapA .i64 (s51.2.1 + s51.2.2)), (wrapA .i64 (s51.2.2 + 1))))))
  else
  some (.more ((s51.1, s51.2.1, (wrapA .i64 (s51.2.2 + 1))))))
  else
  some (.stop ((s51.1, s51.2.1)))
def F9 (F : Nat) (t0 : Int) (t1 : Int) (t2 : List Int) : Option Bool :=
  (F51 F t0 t1).bind fun r1 =>
  (F52 F t2).bind fun r5 =>
  (F53 F t2).bind fun r9 =>
  (F54 F t2).bind fun r13 =>
  (show Option (Unit ⊕ Bool) from (if ((((decide (t0 < 0)) || (decide (t0 > 15))) || (decide (t1 < 0))) || (decide (t1 > 15))) then
  (if ((r1.2 != 1) || (r1.1 != 0)) then
  (some ((.inr false)))
  else
  some ((.inl ())))
  else
  (if (r1.2 != 0) then some true else 
  ((F55 F t0 t1).bind fun r23 =>
  some (r1.1 != r23))
  ).bind fun y28 =>
  if y28 then
  (some ((.inr false)))
  else
  some ((.inl ())))).bind fun b33 =>
  match b33 with
  | .inl b38 => ((F38 F t2).bind fun r41 =>
  if (r41 != 0) then
  (some (((((((r5.2 == r41) && (r9.2 == r41)) && (r13.2 == r41)) && (r5.1 == 0)) && (r9.1 == 0)) && (r13.1 == 0))))
  else
  (iter (F9_l0 F t2) F (0, 0, 0)).bind fun b65 =>
  (if ((((r5.2 == 0) && (r9.2 == 0)) && (r13.2 == 0)) && (r5.1 == b65.1)) then 
  ((F56 F t2).bind fun r72 =>
  some (r9.1 == r72))
   else some false).bind fun y77 =>
  some ((y77 && (r13.1 == b65.2))))
  | .inr b38 => (some b38)

def F60 (F : Nat) (t0 : List Int) : Option Int :=
  if (decide ((t0.length : Int) > 30)) then
  (some 2)
  else
  some 0

def F106 (F : Nat) (t0 : Int) (t1 : Int) : Option Bool :=
  some ((decide (t0 < t1)))

def F105_106_l0 (F : Nat) (s7 : (List Int) × Int × (List (List Int))) (x17 : Int) (L19 : List Int) (s23 : Int × (List (List Int))) : Option (Stp (Int × (List (List Int))) ((List (List Int)))) :=
  if (decide (s23.1 < (L19.length : Int))) then
  ((at? L19 s23.1).bind fun x29 =>
  (F106 F x29 x17).bind fun r31 =>
  (if r31 then 
  ((at? s23.2 s23.1).bind fun L35 =>
  (at? s23.2 s7.2.1).bind fun L39 =>
  some (decide ((L35.length : Int) > (L39.length : Int))))
   else some false).bind fun y44 =>
  if y44 then
  ((at? s23.2 s23.1).bind fun L47 =>
  (ck s23.2 s7.2.1).bind fun u51 =>
  some (.more (((wrapA .i64 (s23.1 + 1)), (s23.2.set ((Int.toNat s7.2.1)) L47)))))
  else
  some (.more (((wrapA .i64 (s23.1 + 1)), s23.2))))
  else
  some (.stop s23.2)
def F105_106_l1 (F : Nat) (t0 : List Int) (s7 : (List Int) × Int × (List (List Int))) : Option (Stp ((List Int) × Int × (List (List Int))) ((List Int))) :=
  if (decide (s7.2.1 < (t0.length : Int))) then
  ((at? t0 s7.2.1).bind fun x17 =>
  (sub? t0 0 s7.2.1).bind fun L19 =>
  (iter (F105_106_l0 F s7 x17 L19) F (0, s7.2.2)).bind fun b55 =>
  (at? b55 s7.2.1).bind fun L59 =>
  (F95 F L59).bind fun r63 =>
  (app? r63 ([s7.2.1])).bind fun L73 =>
  (ck b55 s7.2.1).bind fun u79 =>
  (at? ((b55.set ((Int.toNat s7.2.1)) L73)) s7.2.1).bind fun L83 =>
  if (decide ((L83.length : Int) > (s7.1.length : Int))) then
  ((at? ((b55.set ((Int.toNat s7.2.1)) L73)) s7.2.1).bind fun L88 =>
  some (.more ((L88, (wrapA .i64 (s7.2.1 + 1)), (b55.set ((Int.toNat s7.2.1)) L73)))))
  else
  some (.more ((s7.1, (wrapA .i64 (s7.2.1 + 1)), (b55.set ((Int.toNat s7.2.1)) L73)))))
  else
  some (.stop s7.1)
def F105_106 (F : Nat) (t0 : List Int) : Option ((List Int)) :=
  (mk? (t0.length : Int) ([] : List Int)).bind fun L1 =>
  (iter (F105_106_l1 F t0) F ([], 0, L1)).bind fun b92 =>
  (F95 F b92).bind fun r97 =>
  some r97

def F57 (F : Nat) (t0 : List Int) : Option ((List Int) × Int) :=
  (F60 F t0).bind fun r1 =>
  if (r1 != 0) then
  (some (([], r1)))
  else
  (F105_106 F t0).bind fun r6 =>
  some ((r6, 0))

def F107 (F : Nat) (t0 : Int) (t1 : Int) : Option Bool :=
  some ((decide (t0 ≥ t1)))

def F105_107_l0 (F : Nat) (s7 : (List Int) × Int × (List (List Int))) (x17 : Int) (L19 : List Int) (s23 : Int × (List (List Int))) : Option (Stp (Int × (List (List Int))) ((List (List Int)))) :=
  if (decide (s23.1 < (L19.length : Int))) then
  ((at? L19 s23.1).bind fun x29 =>
  (F107 F x29 x17).bind fun r31 =>
  (if r31 then 
  ((at? s23.2 s23.1).bind fun L35 =>
  (at? s23.2 s7.2.1).bind fun L39 =>
  some (decide ((L35.length : Int) > (L39.length : Int))))
   else some false).bind fun y44 =>
  if y44 then
  ((at? s23.2 s23.1).bind fun L47 =>
  (ck s23.2 s7.2.1).bind fun u51 =>
  some (.more (((wrapA .i64 (s23.1 + 1)), (s23.2.set ((Int.toNat s7.2.1)) L47)))))
  else
  some (.more (((wrapA .i64 (s23.1 + 1)), s23.2))))
  else
  some (.stop s23.2)
def F105_107_l1 (F : Nat) (t0 : List Int) (s7 : (List Int) × Int × (List (List Int))) : Option (Stp ((List Int) × Int × (List (List Int))) ((List Int))) :=
  if (decide (s7.2.1 < (t0.length : Int))) then
  ((at? t0 s7.2.1).bind fun x17 =>
  (sub? t0 0 s7.2.1).bind fun L19 =>
  (iter (F105_107_l0 F s7 x17 L19) F (0, s7.2.2)).bind fun b55 =>
  (at? b55 s7.2.1).bind fun L59 =>
  (F95 F L59).bind fun r63 =>
  (app? r63 ([s7.2.1])).bind fun L73 =>
  (ck b55 s7.2.1).bind fun u79 =>
  (at? ((b55.set ((Int.toNat s7.2.1)) L73)) s7.2.1).bind fun L83 =>
  if (decide ((L83.length : Int) > (s7.1.length : Int))) then
  ((at? ((b55.set ((Int.toNat s7.2.1)) L73)) s7.2.1).bind fun L88 =>
  some (.more ((L88, (wrapA .i64 (s7.2.1 + 1)), (b55.set ((Int.toNat s7.2.1)) L73)))))
  else
  some (.more ((s7.1, (wrapA .i64 (s7.2.1 + 1)), (b55.set ((Int.toNat s7.2.1)) L73)))))
  else
  some (.stop s7.1)
def F105_107 (F : Nat) (t0 : List Int) : Option ((List Int)) :=
  (mk? (t0.length : Int) ([] : List Int)).bind fun L1 =>
  (iter (F105_107_l1 F t0) F ([], 0, L1)).bind fun b92 =>
  (F95 F b92).bind fun r97 =>
  some r97

def F58 (F : Nat) (t0 : List Int) : Option ((List Int) × Int) :=
  (F60 F t0).bind fun r1 =>
  if (r1 != 0) then
  (some (([], r1)))
  else
  (F105_107 F t0).bind fun r6 =>
  some ((r6, 0))

def F109 (F : Nat) (t0 : Int) (c0 : Int) : Option Bool :=
  some ((decide (t0 ≥ c0)))

def F108_109_l0 (F : Nat) (t0 : List Int) (t1c0 : Int) (s1 : Int) : Option (Stp (Int) (Unit ⊕ Int)) :=
  if (decide (s1 < (t0.length : Int))) then
  ((at? t0 s1).bind fun x9 =>
  (F109 F x9 t1c0).bind fun r11 =>
  if r11 then
  (some (.stop ((.inr s1))))
  else
  some (.more ((wrapA .i64 (s1 + 1)))))
  else
  some (.stop ((.inl ())))
def F108_109 (F : Nat) (t0 : List Int) (t1c0 : Int) : Option Int :=
  (iter (F108_109_l0 F t0 t1c0) F 0).bind fun b16 =>
  match b16 with
  | .inl b18 => (some ((-1)))
  | .inr b18 => (some b18)

def F59_l0 (F : Nat) (t0 : List Int) (s6 : (List Int) × (List Int) × Int) : Option (Stp ((List Int) × (List Int) × Int) ((List Int))) :=
  if (decide (s6.2.2 < (t0.length : Int))) then
  ((at? t0 s6.2.2).bind fun x19 =>
  (F108_109 F s6.1 x19).bind fun r28 =>
  (show Option ((List Int) × Int) from (if (decide (r28 < 0)) then
  ((app? s6.1 ([x19])).bind fun L37 =>
  some ((L37, (s6.1.length : Int))))
  else
  some ((s6.1, r28)))).bind fun b43 =>
  (ck b43.1 b43.2).bind fun u50 =>
  (app? s6.2.1 ([b43.2])).bind fun L58 =>
  some (.more (((b43.1.set ((Int.toNat b43.2)) x19), L58, (wrapA .i64 (s6.2.2 + 1))))))
  else
  some (.stop s6.2.1)
def F59 (F : Nat) (t0 : List Int) : Option ((List Int) × Int) :=
  (F60 F t0).bind fun r1 =>
  if (r1 != 0) then
  (some (([], r1)))
  else
  (iter (F59_l0 F t0) F ([], [], 0)).bind fun b64 =>
  some ((b64, 0))

def F61 (F : Nat) (t0 : Int) (t1 : Int) : Option Bool :=
  some ((decide (t0 < t1)))

def F110_61_l0 (F : Nat) (t0 : List Int) (s7 : Int × Int × (List Int)) (s13 : Int × (List Int)) : Option (Stp (Int × (List Int)) ((List Int))) :=
  if (decide (s13.1 < (t0.length : Int))) then
  ((at? t0 s7.2.1).bind fun x19 =>
  (at? t0 s13.1).bind fun x21 =>
  (F61 F x19 x21).bind fun r23 =>
  if r23 then
  ((at? s13.2 s7.2.1).bind fun x28 =>
  (at? s13.2 s13.1).bind fun x30 =>
  (ck s13.2 s7.2.1).bind fun u32 =>
  some (.more (((wrapA .i64 (s13.1 + 1)), (s13.2.set ((Int.toNat s7.2.1)) ((maxI x28 x30)))))))
  else
  some (.more (((wrapA .i64 (s13.1 + 1)), s13.2))))
  else
  some (.stop s13.2)
def F110_61_l1 (F : Nat) (t0 : List Int) (s7 : Int × Int × (List Int)) : Option (Stp (Int × Int × (List Int)) (Int)) :=
  if (decide (s7.2.1 ≥ 0)) then
  ((iter (F110_61_l0 F t0 s7) F ((wrapA .i64 (s7.2.1 + 1)), s7.2.2)).bind fun b36 =>
  (at? b36 s7.2.1).bind fun x40 =>
  (ck b36 s7.2.1).bind fun u42 =>
  (at? ((b36.set ((Int.toNat s7.2.1)) ((wrapA .i64 (x40 + 1))))) s7.2.1).bind fun x46 =>
  some (.more (((maxI s7.1 x46), (wrapA .i64 (s7.2.1 - 1)), (b36.set ((Int.toNat s7.2.1)) ((wrapA .i64 (x40 + 1))))))))
  else
  some (.stop s7.1)
def F110_61 (F : Nat) (t0 : List Int) : Option Int :=
  (mk? (t0.length : Int) (0 : Int)).bind fun L1 =>
  (iter (F110_61_l1 F t0) F (0, (wrapA .i64 ((t0.length : Int) - 1)), L1)).bind fun b48 =>
  some b48

def F63_61_l0 (F : Nat) (t0 : List Int) (t1 : List Int) (s6 : Int) : Option (Stp (Int) (Unit ⊕ Bool)) :=
  if (decide (s6 < (t1.length : Int))) then
  ((at? t1 s6).bind fun x14 =>
  (if ((decide (x14 < 0)) || (decide (x14 ≥ (t0.length : Int)))) then some true else 
  ((if (decide (s6 > 0)) then 
  ((at? t1 (wrapA .i64 (s6 - 1))).bind fun x17 =>
  (if (decide (x14 ≤ x17)) then some true else 
  ((at? t1 (wrapA .i64 (s6 - 1))).bind fun x19 =>
  (at? t0 x19).bind fun x21 =>
  (at? t0 x14).bind fun x23 =>
  (F61 F x21 x23).bind fun r25 =>
  some (!r25))
  ).bind fun y30 =>
  some y30)
   else some false).bind fun y35 =>
  some y35)
  ).bind fun y40 =>
  if y40 then
  (some (.stop ((.inr false))))
  else
  some (.more ((wrapA .i64 (s6 + 1)))))
  else
  some (.stop ((.inl ())))
def F63_61 (F : Nat) (t0 : List Int) (t1 : List Int) : Option Bool :=
  (F110_61 F t0).bind fun r1 =>
  if ((t1.length : Int) != r1) then
  (some false)
  else
  (iter (F63_61_l0 F t0 t1) F 0).bind fun b45 =>
  match b45 with
  | .inl b47 => (some true)
  | .inr b47 => (some b47)

def F62 (F : Nat) (t0 : Int) (t1 : Int) : Option Bool :=
  some ((decide (t0 ≥ t1)))

def F110_62_l0 (F : Nat) (t0 : List Int) (s7 : Int × Int × (List Int)) (s13 : Int × (List Int)) : Option (Stp (Int × (List Int)) ((List Int))) :=
  if (decide (s13.1 < (t0.length : Int))) then
  ((at? t0 s7.2.1).bind fun x19 =>
  (at? t0 s13.1).bind fun x21 =>
  (F62 F x19 x21).bind fun r23 =>
  if r23 then
  ((at? s13.2 s7.2.1).bind fun x28 =>
  (at? s13.2 s13.1).bind fun x30 =>
  (ck s13.2 s7.2.1).bind fun u32 =>
  some (.more (((wrapA .i64 (s13.1 + 1)), (s13.2.set ((Int.toNat s7.2.1)) ((maxI x28 x30)))))))
  else
  some (.more (((wrapA .i64 (s13.1 + 1)), s13.2))))
  else
  some (.stop s13.2)
def F110_62_l1 (F : Nat) (t0 : List Int) (s7 : Int × Int × (List Int)) : Option (Stp (Int × Int × (List Int)) (Int)) :=
  if (decide (s7.2.1 ≥ 0)) then
  ((iter (F110_62_l0 F t0 s7) F ((wrapA .i64 (s7.2.1 + 1)), s7.2.2)).bind fun b36 =>
  (at? b36 s7.2.1).bind fun x40 =>
  (ck b36 s7.2.1).bind fun u42 =>
  (at? ((b36.set ((Int.toNat s7.2.1)) ((wrapA .i64 (x40 + 1))))) s7.2.1).bind fun x46 =>
  some (.more (((maxI s7.1 x46), (wrapA .i64 (s7.2.1 - 1)), (b36.set ((Int.toNat s7.2.1)) ((wrapA .i64 (x40 + 1))))))))
  else
  some (.stop s7.1)
def F110_62 (F : Nat) (t0 : List Int) : Option Int :=
  (mk? (t0.length : Int) (0 : Int)).bind fun L1 =>
  (iter (F110_62_l1 F t0) F (0, (wrapA .i64 ((t0.length : Int) - 1)), L1)).bind fun b48 =>
  some b48

def F63_62_l0 (F : Nat) (t0 : List Int) (t1 : List Int) (s6 : Int) : Option (Stp (Int) (Unit ⊕ Bool)) :=
  if (decide (s6 < (t1.length : Int))) then
  ((at? t1 s6).bind fun x14 =>
  (if ((decide (x14 < 0)) || (decide (x14 ≥ (t0.length : Int)))) then some true else 
  ((if (decide (s6 > 0)) then 
  ((at? t1 (wrapA .i64 (s6 - 1))).bind fun x17 =>
  (if (decide (x14 ≤ x17)) then some true else 
  ((at? t1 (wrapA .i64 (s6 - 1))).bind fun x19 =>
  (at? t0 x19).bind fun x21 =>
  (at? t0 x14).bind fun x23 =>
  (F62 F x21 x23).bind fun r25 =>
  some (!r25))
  ).bind fun y30 =>
  some y30)
   else some false).bind fun y35 =>
  some y35)
  ).bind fun y40 =>
  if y40 then
  (some (.stop ((.inr false))))
  else
  some (.more ((wrapA .i64 (s6 + 1)))))
  else
  some (.stop ((.inl ())))
def F63_62 (F : Nat) (t0 : List Int) (t1 : List Int) : Option Bool :=
  (F110_62 F t0).bind fun r1 =>
  if ((t1.length : Int) != r1) then
  (some false)
  else
  (iter (F63_62_l0 F t0 t1) F 0).bind fun b45 =>
  match b45 with
  | .inl b47 => (some true)
  | .inr b47 => (some b47)

def F65_l0 (F : Nat) (s1 : (List (List Int)) × (List Int) × Int) (x14 : Int) (s16 : Int) : Option (Stp (Int) (Int)) :=
  (if (decide (s16 < (s1.1.length : Int))) then 
  ((at? s1.1 s16).bind fun L21 =>
  (at? s1.1 s16).bind fun L25 =>
  (at? L21 (wrapA .i64 ((L25.length : Int) - 1))).bind fun x29 =>
  some (decide (x29 < x14)))
   else some false).bind fun y32 =>
  if y32 then
  (some (.more ((wrapA .i64 (s16 + 1)))))
  else
  some (.stop s16)
def F65_l1 (F : Nat) (t0 : List Int) (s1 : (List (List Int)) × (List Int) × Int) : Option (Stp ((List (List Int)) × (List Int) × Int) ((List Int))) :=
  if (decide (s1.2.2 < (t0.length : Int))) then
  ((at? t0 s1.2.2).bind fun x14 =>
  (iter (F65_l0 F s1 x14) F 0).bind fun b35 =>
  (show Option ((List (List Int))) from (if (b35 == (s1.1.length : Int)) then
  ((app? s1.1 [[]]).bind fun L44 =>
  some L44)
  else
  some s1.1)).bind fun b52 =>
  (at? b52 b35).bind fun L59 =>
  (app? L59 ([x14])).bind fun L69 =>
  (ck b52 b35).bind fun u75 =>
  (app? s1.2.1 ([b35])).bind fun L85 =>
  some (.more (((b52.set ((Int.toNat b35)) L69), L85, (wrapA .i64 (s1.2.2 + 1))))))
  else
  some (.stop s1.2.1)
def F65 (F : Nat) (t0 : List Int) : Option ((List Int)) :=
  (iter (F65_l1 F t0) F ([], [], 0)).bind fun b91 =>
  some b91

def F111_l0 (F : Nat) (t0 : List Int) (t1 : List Int) (s2 : Int) : Option (Stp (Int) (Unit ⊕ Bool)) :=
  if (decide (s2 < (t0.length : Int))) then
  ((at? t0 s2).bind fun x10 =>
  (at? t1 s2).bind fun x12 =>
  if (x10 != x12) then
  (some (.stop ((.inr false))))
  else
  some (.more ((wrapA .i64 (s2 + 1)))))
  else
  some (.stop ((.inl ())))
def F111 (F : Nat) (t0 : List Int) (t1 : List Int) : Option Bool :=
  if ((t0.length : Int) != (t1.length : Int)) then
  (some false)
  else
  (iter (F111_l0 F t0 t1) F 0).bind fun b15 =>
  match b15 with
  | .inl b17 => (some true)
  | .inr b17 => (some b17)

def F64 (F : Nat) (t0 : List Int) (t1 : List Int) : Option Bool :=
  (F111 F t0 t1).bind fun r1 =>
  some r1

def F10 (F : Nat) (t0 : List Int) : Option Bool :=
  (F57 F t0).bind fun r1 =>
  (F58 F t0).bind fun r7 =>
  (F59 F t0).bind fun r13 =>
  (show Option (Int) from (if (decide ((t0.length : Int) > 30)) then
  (some 2)
  else
  some 0)).bind fun b20 =>
  (F60 F t0).bind fun r25 =>
  if (r25 != b20) then
  (some false)
  else
  if (b20 != 0) then
  (some (((((r1.2 == b20) && (r7.2 == b20)) && (r13.2 == b20)) && ((wrapA .i64 ((wrapA .i64 ((r1.1.length : Int) + (r7.1.length : Int))) + (r13.1.length : Int))) == 0))))
  else
  (if (((r1.2 == 0) && (r7.2 == 0)) && (r13.2 == 0)) then 
  ((F63_61 F t0 r1.1).bind fun r36 =>
  some r36)
   else some false).bind fun y41 =>
  (if y41 then 
  ((F63_62 F t0 r7.1).bind fun r45 =>
  some r45)
   else some false).bind fun y50 =>
  (if y50 then 
  ((F65 F t0).bind fun r54 =>
  (F64 F r13.1 r54).bind fun r60 =>
  some r60)
   else some false).bind fun y65 =>
  some y65

def F112_l0 (F : Nat) (t0 : List Int) (s2 : Int) : Option (Stp (Int) (Unit ⊕ Int)) :=
  if (decide (s2 < (t0.length : Int))) then
  ((at? t0 s2).bind fun x10 =>
  if ((decide (x10 < 0)) || (decide (x10 > 100))) then
  (some (.stop ((.inr 1))))
  else
  some (.more ((wrapA .i64 (s2 + 1)))))
  else
  some (.stop ((.inl ())))
def F112 (F : Nat) (t0 : List Int) : Option Int :=
  if (decide ((t0.length : Int) > 8)) then
  (some 2)
  else
  (iter (F112_l0 F t0) F 0).bind fun b14 =>
  match b14 with
  | .inl b16 => (some 0)
  | .inr b16 => (some b16)

def F113_l0 (F : Nat) (t0 : List Int) (t1 : List Int) (s1 : Int × Int) : Option (Stp (Int × Int) (Int)) :=
  if (decide (s1.2 < (t0.length : Int))) then
  ((at? t0 s1.2).bind fun x7 =>
  (if (decide (x7 > 0)) then 
  ((if (decide (s1.1 < 0)) then some true else 
  ((at? t1 s1.2).bind fun x9 =>
  (at? t0 s1.1).bind fun x11 =>
  (at? t1 s1.1).bind fun x13 =>
  some (decide ((wrapA .i64 (x9 * x11)) < (wrapA .i64 (x13 * x7)))))
  ).bind fun y16 =>
  some y16)
   else some false).bind fun y19 =>
  if y19 then
  (some (.more ((s1.2, (wrapA .i64 (s1.2 + 1))))))
  else
  some (.more ((s1.1, (wrapA .i64 (s1.2 + 1))))))
  else
  some (.stop s1.1)
def F113 (F : Nat) (t0 : List Int) (t1 : List Int) : Option Int :=
  (iter (F113_l0 F t0 t1) F ((-1), 0)).bind fun b22 =>
  some b22

def F66_l0 (F : Nat) (t1 : List Int) (s7 : Int) : Option (Stp (Int) (Unit ⊕ (Int × Int))) :=
  if (decide (s7 < (t1.length : Int))) then
  ((at? t1 s7).bind fun x15 =>
  if ((decide (x15 < 0)) || (decide (x15 > 1000000000))) then
  (some (.stop ((.inr (0, 1)))))
  else
  some (.more ((wrapA .i64 (s7 + 1)))))
  else
  some (.stop ((.inl ())))
def F66 (F : Nat) (t0 : List Int) (t1 : List Int) : Option (Int × Int) :=
  (F112 F t0).bind fun r1 =>
  if (r1 != 0) then
  (some ((0, r1)))
  else
  if ((t1.length : Int) != (t0.length : Int)) then
  (some ((0, 3)))
  else
  (iter (F66_l0 F t1) F 0).bind fun b19 =>
  match b19 with
  | .inl b21 => ((F113 F t0 t1).bind fun r24 =>
  if (decide (r24 < 0)) then
  (some ((0, 4)))
  else
  some ((r24, 0)))
  | .inr b21 => (some ((b21.1, b21.2)))

def F67_l0 (F : Nat) (t0 : List Int) (t1 : Int) (s14 : (List Int) × Int × (List Int)) : Option (Stp ((List Int) × Int × (List Int)) ((List Int) ⊕ ((List Int) × Int))) :=
  if (decide (s14.2.1 < t1)) then
  ((F66 F t0 s14.2.2).bind fun r27 =>
  if (r27.2 != 0) then
  (some (.stop ((.inr ([], r27.2)))))
  else
  (at? s14.2.2 r27.1).bind fun x32 =>
  (ck s14.2.2 r27.1).bind fun u34 =>
  (app? s14.1 ([r27.1])).bind fun L42 =>
  some (.more ((L42, (wrapA .i64 (s14.2.1 + 1)), (s14.2.2.set ((Int.toNat r27.1)) ((wrapA .i64 (x32 + 1))))))))
  else
  some (.stop ((.inl s14.1)))
def F67 (F : Nat) (t0 : List Int) (t1 : Int) : Option ((List Int) × Int) :=
  (F112 F t0).bind fun r1 =>
  if (r1 != 0) then
  (some (([], r1)))
  else
  if ((decide (t1 < 0)) || (decide (t1 > 200))) then
  (some (([], 1)))
  else
  (mk? (t0.length : Int) (0 : Int)).bind fun L8 =>
  (iter (F67_l0 F t0 t1) F ([], 0, L8)).bind fun b48 =>
  match b48 with
  | .inl b50 => (some ((b50, 0)))
  | .inr b50 => (some ((b50.1, b50.2)))

def F114 (F : Nat) (t0 : Int) : Option Bool :=
  some (((decide (t0 < 0)) || (decide (t0 > 100))))

def F108_114_l0 (F : Nat) (t0 : List Int) (s1 : Int) : Option (Stp (Int) (Unit ⊕ Int)) :=
  if (decide (s1 < (t0.length : Int))) then
  ((at? t0 s1).bind fun x9 =>
  (F114 F x9).bind fun r11 =>
  if r11 then
  (some (.stop ((.inr s1))))
  else
  some (.more ((wrapA .i64 (s1 + 1)))))
  else
  some (.stop ((.inl ())))
def F108_114 (F : Nat) (t0 : List Int) : Option Int :=
  (iter (F108_114_l0 F t0) F 0).bind fun b16 =>
  match b16 with
  | .inl b18 => (some ((-1)))
  | .inr b18 => (some b18)

def F69_114 (F : Nat) (t0 : List Int) : Option Bool :=
  (F108_114 F t0).bind fun r1 =>
  some ((decide (r1 ≥ 0)))

def F68 (F : Nat) (t0 : List Int) : Option Int :=
  if (decide ((t0.length : Int) > 8)) then
  (some 2)
  else
  (F69_114 F t0).bind fun r2 =>
  if r2 then
  (some 1)
  else
  some 0

def F70 (F : Nat) (t0 : Int) : Option Bool :=
  some (((decide (t0 < 0)) || (decide (t0 > 1000000000))))

def F108_70_l0 (F : Nat) (t0 : List Int) (s1 : Int) : Option (Stp (Int) (Unit ⊕ Int)) :=
  if (decide (s1 < (t0.length : Int))) then
  ((at? t0 s1).bind fun x9 =>
  (F70 F x9).bind fun r11 =>
  if r11 then
  (some (.stop ((.inr s1))))
  else
  some (.more ((wrapA .i64 (s1 + 1)))))
  else
  some (.stop ((.inl ())))
def F108_70 (F : Nat) (t0 : List Int) : Option Int :=
  (iter (F108_70_l0 F t0) F 0).bind fun b16 =>
  match b16 with
  | .inl b18 => (some ((-1)))
  | .inr b18 => (some b18)

def F69_70 (F : Nat) (t0 : List Int) : Option Bool :=
  (F108_70 F t0).bind fun r1 =>
  some ((decide (r1 ≥ 0)))

def F71_l0 (F : Nat) (t0 : List Int) (t1 : List Int) (s1 : Int) (s12 : Bool × Int) : Option (Stp (Bool × Int) (Bool)) :=
  if (decide (s12.2 < (t0.length : Int))) then
  ((at? t0 s12.2).bind fun x18 =>
  (if (decide (x18 > 0)) then 
  ((at? t1 s12.2).bind fun x20 =>
  (at? t0 s1).bind fun x22 =>
  (at? t1 s1).bind fun x24 =>
  (at? t0 s12.2).bind fun x26 =>
  (if (decide ((wrapA .i64 (x20 * x22)) < (wrapA .i64 (x24 * x26)))) then some true else 
  ((if (decide (s12.2 < s1)) then 
  ((at? t1 s12.2).bind fun x28 =>
  (at? t0 s1).bind fun x30 =>
  (at? t1 s1).bind fun x32 =>
  (at? t0 s12.2).bind fun x34 =>
  some ((wrapA .i64 (x28 * x30)) == (wrapA .i64 (x32 * x34))))
   else some false).bind fun y37 =>
  some y37)
  ).bind fun y40 =>
  some y40)
   else some false).bind fun y43 =>
  if y43 then
  (some (.more ((false, (wrapA .i64 (s12.2 + 1))))))
  else
  some (.more ((s12.1, (wrapA .i64 (s12.2 + 1))))))
  else
  some (.stop s12.1)
def F71_l1 (F : Nat) (t0 : List Int) (t1 : List Int) (s1 : Int) : Option (Stp (Int) (Unit ⊕ Int)) :=
  if (decide (s1 < (t0.length : Int))) then
  ((at? t0 s1).bind fun x9 =>
  if (x9 == 0) then
  (some (.more ((wrapA .i64 (s1 + 1)))))
  else
  (iter (F71_l0 F t0 t1 s1) F (true, 0)).bind fun b46 =>
  if b46 then
  (some (.stop ((.inr s1))))
  else
  some (.more ((wrapA .i64 (s1 + 1)))))
  else
  some (.stop ((.inl ())))
def F71 (F : Nat) (t0 : List Int) (t1 : List Int) : Option Int :=
  (iter (F71_l1 F t0 t1) F 0).bind fun b51 =>
  match b51 with
  | .inl b53 => (some ((-1)))
  | .inr b53 => (some b53)

def F11_l0 (F : Nat) (t0 : List Int) (t2 : Int) (r5 : (List Int) × Int) (s61 : (List Int) × Int × (List Int)) : Option (Stp ((List Int) × Int × (List Int)) ((List Int) ⊕ Bool)) :=
  if (decide (s61.2.1 < t2)) then
  ((F71 F t0 s61.2.2).bind fun r73 =>
  if (decide (r73 < 0)) then
  (some (.stop ((.inr ((r5.2 == 4) && ((r5.1.length : Int) == 0))))))
  else
  (at? s61.2.2 r73).bind fun x79 =>
  (ck s61.2.2 r73).bind fun u81 =>
  (app? s61.1 ([r73])).bind fun L89 =>
  some (.more ((L89, (wrapA .i64 (s61.2.1 + 1)), (s61.2.2.set ((Int.toNat r73)) ((wrapA .i64 (x79 + 1))))))))
  else
  some (.stop ((.inl s61.1)))
def F11 (F : Nat) (t0 : List Int) (t1 : List Int) (t2 : Int) : Option Bool :=
  (F66 F t0 t1).bind fun r1 =>
  (F67 F t0 t2).bind fun r5 =>
  (F68 F t0).bind fun r11 =>
  if (r11 != 0) then
  (some (((((r1.2 == r11) && (r5.2 == r11)) && (r1.1 == 0)) && ((r5.1.length : Int) == 0))))
  else
  (show Option (Int) from (if ((t1.length : Int) != (t0.length : Int)) then
  (some 3)
  else
  (F69_70 F t1).bind fun r20 =>
  if r20 then
  (some 1)
  else
  (F71 F t0 t1).bind fun r25 =>
  if (decide (r25 < 0)) then
  (some 4)
  else
  some r11)).bind fun b30 =>
  (if ((r1.2 != b30) || ((b30 != 0) && (r1.1 != 0))) then some true else 
  ((if (b30 == 0) then 
  ((F71 F t0 t1).bind fun r37 =>
  some (r1.1 != r37))
   else some false).bind fun y42 =>
  some y42)
  ).bind fun y47 =>
  if y47 then
  (some false)
  else
  if ((decide (t2 < 0)) || (decide (t2 > 200))) then
  (some (((r5.2 == 1) && ((r5.1.length : Int) == 0))))
  else
  (mk? (t0.length : Int) (0 : Int)).bind fun L55 =>
  (iter (F11_l0 F t0 t2 r5) F ([], 0, L55)).bind fun b95 =>
  match b95 with
  | .inl b97 => ((if (r5.2 == 0) then 
  ((F64 F r5.1 b97).bind fun r101 =>
  some r101)
   else some false).bind fun y106 =>
  some y106)
  | .inr b97 => (some b97)

def F72_l0 (F : Nat) (t0 : Int) (s3 : Int) : Option (Stp (Int) (Int)) :=
  (shl? .i64 1 s3).bind fun x8 =>
  if (decide (x8 < t0)) then
  (some (.more ((wrapA .i64 (s3 + 1)))))
  else
  some (.stop s3)
def F72 (F : Nat) (t0 : Int) : Option (Int × Int) :=
  if ((decide (t0 < 1)) || (decide (t0 > 1024))) then
  (some ((0, 1)))
  else
  (iter (F72_l0 F t0) F 0).bind fun b11 =>
  some ((b11, 0))

def F77_l0 (F : Nat) (t0 : List Int) (s2 : Int) : Option (Stp (Int) (Unit ⊕ Int)) :=
  if (decide (s2 < (t0.length : Int))) then
  ((at? t0 s2).bind fun x10 =>
  if (decide (x10 > 1)) then
  (some (.stop ((.inr 3))))
  else
  some (.more ((wrapA .i64 (s2 + 1)))))
  else
  some (.stop ((.inl ())))
def F77 (F : Nat) (t0 : List Int) : Option Int :=
  if (decide ((t0.length : Int) > 200)) then
  (some 2)
  else
  (iter (F77_l0 F t0) F 0).bind fun b13 =>
  match b13 with
  | .inl b15 => (some 0)
  | .inr b15 => (some b15)

def F73_l0 (F : Nat) (L19 : List Int) (s23 : Int × Int) : Option (Stp (Int × Int) (Int)) :=
  if (decide (s23.2 < (L19.length : Int))) then
  ((at? L19 s23.2).bind fun x29 =>
  some (.more (((wrapA .i64 ((wrapA .i64 (2 * s23.1)) + (wrapA .i64 x29))), (wrapA .i64 (s23.2 + 1))))))
  else
  some (.stop s23.1)
def F73_l1 (F : Nat) (t0 : List Int) (t1 : Int) (r6 : Int × Int) (s11 : Int) : Option (Stp (Int) (Unit ⊕ (Int × Int × Int))) :=
  if (decide ((wrapA .i64 (s11 + r6.1)) ≤ (t0.length : Int))) then
  ((sub? t0 s11 (wrapA .i64 (s11 + r6.1))).bind fun L19 =>
  (iter (F73_l0 F L19) F (0, 0)).bind fun b31 =>
  if (decide (b31 < t1)) then
  (some (.stop ((.inr (b31, (wrapA .i64 (s11 + r6.1)), 0)))))
  else
  some (.more ((wrapA .i64 (s11 + r6.1)))))
  else
  some (.stop ((.inl ())))
def F73 (F : Nat) (t0 : List Int) (t1 : Int) : Option (Int × Int × Int) :=
  (F77 F t0).bind fun r1 =>
  if (r1 != 0) then
  (some ((0, 0, r1)))
  else
  (F72 F t1).bind fun r6 =>
  if (r6.2 != 0) then
  (some ((0, 0, r6.2)))
  else
  (iter (F73_l1 F t0 t1 r6) F 0).bind fun b36 =>
  match b36 with
  | .inl b38 => (some ((0, 0, 6)))
  | .inr b38 => (some ((b38.1, b38.2.1, b38.2.2)))

def F74_l0 (F : Nat) (t0 : List Int) (t1 : List Int) (s7 : (List Int) × Int × Int) : Option (Stp ((List Int) × Int × Int) (((List Int) × Int) ⊕ ((List Int) × Int × Int))) :=
  if (decide (s7.2.2 < (t1.length : Int))) then
  ((at? t1 s7.2.2).bind fun x20 =>
  (sub? t0 s7.2.1 t0.length).bind fun L22 =>
  (F73 F L22 x20).bind fun r26 =>
  if (r26.2.2 != 0) then
  (some (.stop ((.inr ([], 0, r26.2.2)))))
  else
  (app? s7.1 ([r26.1])).bind fun L35 =>
  some (.more ((L35, (wrapA .i64 (s7.2.1 + r26.2.1)), (wrapA .i64 (s7.2.2 + 1))))))
  else
  some (.stop ((.inl (s7.1, s7.2.1))))
def F74 (F : Nat) (t0 : List Int) (t1 : List Int) : Option ((List Int) × Int × Int) :=
  (F77 F t0).bind fun r1 =>
  if (r1 != 0) then
  (some (([], 0, r1)))
  else
  if (decide ((t1.length : Int) > 30)) then
  (some (([], 0, 2)))
  else
  (iter (F74_l0 F t0 t1) F ([], 0, 0)).bind fun b41 =>
  match b41 with
  | .inl b43 => (some ((b43.1, b43.2, 0)))
  | .inr b43 => (some ((b43.1, b43.2.1, b43.2.2)))

def F75 : Nat → Int → Option Int
  | 0, _ => none
  | F + 1, t0 =>
  let frec := F75 F
  if (t0 == 1) then
  (some 0)
  else
  (frec ((wrapA .i64 (Int.tdiv (wrapA .i64 (t0 + 1)) 2)))).bind fun r2 =>
  some ((wrapA .i64 (1 + r2)))

def F116 (F : Nat) (t0 : Int) : Option Bool :=
  some ((decide (t0 > 1)))

def F119_116_l0 (F : Nat) (t0 : List Int) (s1 : Int) : Option (Stp (Int) (Unit ⊕ Int)) :=
  if (decide (s1 < (t0.length : Int))) then
  ((at? t0 s1).bind fun x9 =>
  (F116 F x9).bind fun r11 =>
  if r11 then
  (some (.stop ((.inr s1))))
  else
  some (.more ((wrapA .i64 (s1 + 1)))))
  else
  some (.stop ((.inl ())))
def F119_116 (F : Nat) (t0 : List Int) : Option Int :=
  (iter (F119_116_l0 F t0) F 0).bind fun b16 =>
  match b16 with
  | .inl b18 => (some ((-1)))
  | .inr b18 => (some b18)

def F115_116 (F : Nat) (t0 : List Int) : Option Bool :=
  (F119_116 F t0).bind fun r1 =>
  some ((decide (r1 ≥ 0)))

def F76 (F : Nat) (t0 : List Int) : Option Int :=
  if (decide ((t0.length : Int) > 200)) then
  (some 2)
  else
  (F115_116 F t0).bind fun r2 =>
  if r2 then
  (some 3)
  else
  some 0

def F78_l0 (F : Nat) (r3 : Int) (L8 : List Int) (s12 : Int × Int) : Option (Stp (Int × Int) (Int)) :=
  if (decide (s12.2 < (L8.length : Int))) then
  ((at? L8 s12.2).bind fun x18 =>
  (shl? .i64 (wrapA .i64 x18) (wrapA .i64 ((wrapA .i64 (r3 - 1)) - s12.2))).bind fun x20 =>
  some (.more (((wrapA .i64 (s12.1 + x20)), (wrapA .i64 (s12.2 + 1))))))
  else
  some (.stop s12.1)
def F78 : Nat → (List Int) → Int → Option (Int × Int × Int)
  | 0, _, _ => none
  | F + 1, t0, t1 =>
  let frec := F78 F
  if ((decide (t1 < 1)) || (decide (t1 > 1024))) then
  (some ((0, 0, 1)))
  else
  (F75 F t1).bind fun r3 =>
  if (decide ((t0.length : Int) < r3)) then
  (some ((0, 0, 6)))
  else
  (sub? t0 0 r3).bind fun L8 =>
  (iter (F78_l0 F r3 L8) F (0, 0)).bind fun b22 =>
  if (decide (b22 < t1)) then
  (some ((b22, r3, 0)))
  else
  (sub? t0 r3 t0.length).bind fun L27 =>
  (frec L27 t1).bind fun r31 =>
  if (r31.2.2 != 0) then
  (some ((0, 0, r31.2.2)))
  else
  some ((r31.1, (wrapA .i64 (r31.2.1 + r3)), 0))

def F79_l0 (F : Nat) (t0 : List Int) (t1 : List Int) (s1 : (List Int) × Int × Int) : Option (Stp ((List Int) × Int × Int) (((List Int) × Int) ⊕ ((List Int) × Int × Int))) :=
  if (decide (s1.2.2 < (t1.length : Int))) then
  ((at? t1 s1.2.2).bind fun x14 =>
  (sub? t0 s1.2.1 t0.length).bind fun L16 =>
  (F78 F L16 x14).bind fun r20 =>
  if (r20.2.2 != 0) then
  (some (.stop ((.inr ([], 0, r20.2.2)))))
  else
  (app? s1.1 ([r20.1])).bind fun L29 =>
  some (.more ((L29, (wrapA .i64 (s1.2.1 + r20.2.1)), (wrapA .i64 (s1.2.2 + 1))))))
  else
  some (.stop ((.inl (s1.1, s1.2.1))))
def F79 (F : Nat) (t0 : List Int) (t1 : List Int) : Option ((List Int) × Int × Int) :=
  (iter (F79_l0 F t0 t1) F ([], 0, 0)).bind fun b35 =>
  match b35 with
  | .inl b37 => (some ((b37.1, b37.2, 0)))
  | .inr b37 => (some ((b37.1, b37.2.1, b37.2.2)))

def F12 (F : Nat) (t0 : List Int) (t1 : Int) (t2 : List Int) : Option Bool :=
  (F72 F t1).bind fun r1 =>
  (F73 F t0 t1).bind fun r5 =>
  (F74 F t0 t2).bind fun r9 =>
  (show Option (Unit ⊕ Bool) from (if ((decide (t1 < 1)) || (decide (t1 > 1024))) then
  (if ((r1.2 != 1) || (r1.1 != 0)) then
  (some ((.inr false)))
  else
  some ((.inl ())))
  else
  (if (r1.2 != 0) then some true else 
  ((F75 F t1).bind fun r19 =>
  some (r1.1 != r19))
  ).bind fun y24 =>
  if y24 then
  (some ((.inr false)))
  else
  some ((.inl ())))).bind fun b29 =>
  match b29 with
  | .inl b34 => ((F76 F t0).bind fun r37 =>
  (F77 F t0).bind fun r41 =>
  if (r41 != r37) then
  (some false)
  else
  if (r37 != 0) then
  (some (((((((r5.2.2 == r37) && (r9.2.2 == r37)) && (r5.1 == 0)) && (r5.2.1 == 0)) && ((r9.1.length : Int) == 0)) && (r9.2.1 == 0))))
  else
  (F78 F t0 t1).bind fun r52 =>
  if (((r5.2.2 != r52.2.2) || (r5.1 != r52.1)) || (r5.2.1 != r52.2.1)) then
  (some false)
  else
  if (decide ((t2.length : Int) > 30)) then
  (some ((((r9.2.2 == 2) && ((r9.1.length : Int) == 0)) && (r9.2.1 == 0))))
  else
  (F79 F t0 t2).bind fun r62 =>
  (if (r9.2.2 == r62.2.2) then 
  ((F64 F r9.1 r62.1).bind fun r68 =>
  some r68)
   else some false).bind fun y73 =>
  some ((y73 && (r9.2.1 == r62.2.1))))
  | .inr b34 => (some b34)

def F84_l0 (F : Nat) (t0 : List Int) (s3 : Int × Int) : Option (Stp (Int × Int) (Int ⊕ Int)) :=
  if (decide (s3.2 < (t0.length : Int))) then
  ((at? t0 s3.2).bind fun x11 =>
  if ((decide (x11 < 0)) || (decide (x11 > 100))) then
  (some (.stop ((.inr 1))))
  else
  some (.more (((wrapA .i64 (s3.1 + x11)), (wrapA .i64 (s3.2 + 1))))))
  else
  some (.stop ((.inl s3.1)))
def F84 (F : Nat) (t0 : List Int) : Option Int :=
  if ((decide ((t0.length : Int) < 1)) || (decide ((t0.length : Int) > 12))) then
  (some 2)
  else
  (iter (F84_l0 F t0) F (0, 0)).bind fun b15 =>
  match b15 with
  | .inl b17 => (if (b17 == 0) then
  (some 5)
  else
  some 0)
  | .inr b17 => (some b17)

def F80_l0 (F : Nat) (t0 : List Int) (s6 : Int × Int) : Option (Stp (Int × Int) (Int)) :=
  if (decide (s6.2 < (t0.length : Int))) then
  ((at? t0 s6.2).bind fun x12 =>
  some (.more (((wrapA .i64 (s6.1 + x12)), (wrapA .i64 (s6.2 + 1))))))
  else
  some (.stop s6.1)
def F80_l1 (F : Nat) (t0 : List Int) (s24 : Int × (List Int)) : Option (Stp (Int × (List Int)) ((List Int))) :=
  if (decide (s24.1 < (t0.length : Int))) then
  ((at? t0 s24.1).bind fun x30 =>
  (ck s24.2 s24.1).bind fun u32 =>
  some (.more (((wrapA .i64 (s24.1 + 1)), (s24.2.set ((Int.toNat s24.1)) ((wrapA .i64 (x30 * (t0.length : Int)))))))))
  else
  some (.stop s24.2)
def F80_l2 (F : Nat) (s52 : Int × (List Int) × (List (Int × Int)) × (List Int)) (s58 : Int × Int × Int) : Option (Stp (Int × Int × Int) (Int × Int)) :=
  if (decide (s58.2.2 < (s52.2.1.length : Int))) then
  ((at? s52.2.1 s58.2.2).bind fun x64 =>
  (at? s52.2.2.2 s58.2.2).bind fun x66 =>
  (if (x66 == 0) then 
  ((if (decide (s58.1 < 0)) then some true else 
  ((at? s52.2.1 s58.1).bind fun x68 =>
  some (decide (x64 < x68)))
  ).bind fun y71 =>
  some y71)
   else some false).bind fun y74 =>
  (show Option (Int) from (if y74 then
  (some s58.2.2)
  else
  some s58.1)).bind fun b77 =>
  (at? s52.2.2.2 s58.2.2).bind fun x82 =>
  (if (x82 == 0) then 
  ((if (decide (s58.2.1 < 0)) then some true else 
  ((at? s52.2.1 s58.2.1).bind fun x84 =>
  some (decide (x64 ≥ x84)))
  ).bind fun y87 =>
  some y87)
   else some false).bind fun y90 =>
  if y90 then
  (some (.more ((b77, s58.2.2, (wrapA .i64 (s58.2.2 + 1))))))
  else
  some (.more ((b77, s58.2.1, (wrapA .i64 (s58.2.2 + 1))))))
  else
  some (.stop ((s58.1, s58.2.1)))
def F80_l3 (F : Nat) (t0 : List Int) (b14 : Int) (s52 : Int × (List Int) × (List (Int × Int)) × (List Int)) : Option (Stp (Int × (List Int) × (List (Int × Int)) × (List Int)) ((List (Int × Int)))) :=
  if (decide (s52.1 < (t0.length : Int))) then
  ((iter (F80_l2 F s52) F ((-1), (-1), 0)).bind fun b93 =>
  (at? s52.2.1 b93.1).bind fun x97 =>
  (ck s52.2.2.1 b93.1).bind fun u99 =>
  (at? s52.2.1 b93.2).bind fun x103 =>
  (at? s52.2.1 b93.1).bind fun x105 =>
  (ck s52.2.1 b93.2).bind fun u107 =>
  if (b93.1 == b93.2) then
  ((ck ((s52.2.1.set ((Int.toNat b93.2)) ((wrapA .i64 (x103 - (wrapA .i64 (b14 - x105))))))) b93.2).bind fun u112 =>
  (ck s52.2.2.2 b93.1).bind fun u116 =>
  some (.more (((wrapA .i64 (s52.1 + 1)), (((s52.2.1.set ((Int.toNat b93.2)) ((wrapA .i64 (x103 - (wrapA .i64 (b14 - x105))))))).set ((Int.toNat b93.2)) 0), (s52.2.2.1.set ((Int.toNat b93.1)) ((x97, b93.2))), (s52.2.2.2.set ((Int.toNat b93.1)) 1)))))
  else
  (ck s52.2.2.2 b93.1).bind fun u120 =>
  some (.more (((wrapA .i64 (s52.1 + 1)), (s52.2.1.set ((Int.toNat b93.2)) ((wrapA .i64 (x103 - (wrapA .i64 (b14 - x105)))))), (s52.2.2.1.set ((Int.toNat b93.1)) ((x97, b93.2))), (s52.2.2.2.set ((Int.toNat b93.1)) 1)))))
  else
  some (.stop s52.2.2.1)
def F80 (F : Nat) (t0 : List Int) : Option ((List (Int × Int)) × Int) :=
  (F84 F t0).bind fun r1 =>
  if (r1 != 0) then
  (some (([], r1)))
  else
  (iter (F80_l0 F t0) F (0, 0)).bind fun b14 =>
  (mk? (t0.length : Int) (0 : Int)).bind fun L18 =>
  (iter (F80_l1 F t0) F (0, L18)).bind fun b36 =>
  (mk? (t0.length : Int) ((0, 0) : Int × Int)).bind fun L40 =>
  (mk? (t0.length : Int) (0 : Int)).bind fun L46 =>
  (iter (F80_l3 F t0 b14) F (0, b36, L40, L46)).bind fun b124 =>
  some ((b124, 0))

def F81_l0 (F : Nat) (t0 : List Int) (s7 : Int × Int) : Option (Stp (Int × Int) (Int)) :=
  if (decide (s7.2 < (t0.length : Int))) then
  ((at? t0 s7.2).bind fun x13 =>
  some (.more (((wrapA .i64 (s7.1 + x13)), (wrapA .i64 (s7.2 + 1))))))
  else
  some (.stop s7.1)
def F81_l1 (F : Nat) (t0 : List Int) (t1 : List (Int × Int)) (b15 : Int) (s25 : Int × (List Int)) : Option (Stp (Int × (List Int)) ((List Int) ⊕ (Bool × Int))) :=
  if (decide (s25.1 < (t1.length : Int))) then
  ((at? t1 s25.1).bind fun x33 =>
  if ((((decide (((x33.1, x33.2)).1 < 0)) || (decide (((x33.1, x33.2)).1 > b15))) || (decide (((x33.1, x33.2)).2 < 0))) || (decide (((x33.1, x33.2)).2 ≥ (t0.length : Int)))) then
  (some (.stop ((.inr (false, 1)))))
  else
  (at? s25.2 s25.1).bind fun x45 =>
  (ck s25.2 s25.1).bind fun u47 =>
  (at? ((s25.2.set ((Int.toNat s25.1)) ((wrapA .i64 (x45 + ((x33.1, x33.2)).1))))) ((x33.1, x33.2)).2).bind fun x51 =>
  (ck ((s25.2.set ((Int.toNat s25.1)) ((wrapA .i64 (x45 + ((x33.1, x33.2)).1))))) ((x33.1, x33.2)).2).bind fun u53 =>
  some (.more (((wrapA .i64 (s25.1 + 1)), (((s25.2.set ((Int.toNat s25.1)) ((wrapA .i64 (x45 + ((x33.1, x33.2)).1))))).set ((Int.toNat ((x33.1, x33.2)).2)) ((wrapA .i64 (x51 + (wrapA .i64 (b15 - ((x33.1, x33.2)).1))))))))))
  else
  some (.stop ((.inl s25.2)))
def F81_l2 (F : Nat) (t0 : List Int) (b59 : (List Int)) (s62 : Int) : Option (Stp (Int) (Unit ⊕ (Bool × Int))) :=
  if (decide (s62 < (t0.length : Int))) then
  ((at? t0 s62).bind fun x70 =>
  (at? b59 s62).bind fun x72 =>
  if (x72 != (wrapA .i64 (x70 * (t0.length : Int)))) then
  (some (.stop ((.inr (false, 0)))))
  else
  some (.more ((wrapA .i64 (s62 + 1)))))
  else
  some (.stop ((.inl ())))
def F81 (F : Nat) (t0 : List Int) (t1 : List (Int × Int)) : Option (Bool × Int) :=
  (F84 F t0).bind fun r1 =>
  if (r1 != 0) then
  (some ((false, r1)))
  else
  if ((t1.length : Int) != (t0.length : Int)) then
  (some ((false, 3)))
  else
  (iter (F81_l0 F t0) F (0, 0)).bind fun b15 =>
  (mk? (t0.length : Int) (0 : Int)).bind fun L19 =>
  (iter (F81_l1 F t0 t1 b15) F (0, L19)).bind fun b57 =>
  match b57 with
  | .inl b59 => ((iter (F81_l2 F t0 b59) F 0).bind fun b75 =>
  match b75 with
  | .inl b77 => (some ((true, 0)))
  | .inr b77 => (some ((b77.1, b77.2))))
  | .inr b59 => (some ((b59.1, b59.2)))

def F82 (F : Nat) (t0 : List (Int × Int)) (t1 : Int) (t2 : Int) : Option (Int × Int) :=
  if ((decide ((t0.length : Int) < 1)) || (decide ((t0.length : Int) > 12))) then
  (some ((0, 2)))
  else
  if ((decide (t1 < 0)) || (decide (t1 ≥ (t0.length : Int)))) then
  (some ((0, 1)))
  else
  (at? t0 t1).bind fun x5 =>
  if (decide (t2 < x5.1)) then
  (some ((t1, 0)))
  else
  (at? t0 t1).bind fun x8 =>
  some ((x8.2, 0))

def F83_l0 (F : Nat) (t0 : List Int) (s3 : Int × Int) : Option (Stp (Int × Int) (Int ⊕ (Int × Int))) :=
  if (decide (s3.2 < (t0.length : Int))) then
  ((at? t0 s3.2).bind fun x11 =>
  if ((decide (x11 < 0)) || (decide (x11 > 100))) then
  (some (.stop ((.inr (0, 1)))))
  else
  some (.more (((wrapA .i64 (s3.1 + x11)), (wrapA .i64 (s3.2 + 1))))))
  else
  some (.stop ((.inl s3.1)))
def F83 (F : Nat) (t0 : List Int) : Option (Int × Int) :=
  if (((t0.length : Int) == 0) || (decide ((t0.length : Int) > 12))) then
  (some ((0, 2)))
  else
  (iter (F83_l0 F t0) F (0, 0)).bind fun b15 =>
  match b15 with
  | .inl b17 => (if (b17 == 0) then
  (some ((0, 5)))
  else
  some ((b17, 0)))
  | .inr b17 => (some ((b17.1, b17.2)))

def F85_l0 (F : Nat) (t0 : List Int) (t1 : Int) (t2 : List (Int × Int)) (s1 : Int) : Option (Stp (Int) (Unit ⊕ (Bool × Bool))) :=
  if (decide (s1 < (t2.length : Int))) then
  ((at? t2 s1).bind fun x9 =>
  if ((((decide (((x9.1, x9.2)).1 < 0)) || (decide (((x9.1, x9.2)).1 > t1))) || (decide (((x9.1, x9.2)).2 < 0))) || (decide (((x9.1, x9.2)).2 ≥ (t0.length : Int)))) then
  (some (.stop ((.inr (false, false)))))
  else
  some (.more ((wrapA .i64 (s1 + 1)))))
  else
  some (.stop ((.inl ())))
def F85_l1 (F : Nat) (t1 : Int) (t2 : List (Int × Int)) (s26 : Int) (s38 : Int × Int) : Option (Stp (Int × Int) (Int)) :=
  if (decide (s38.2 < (t2.length : Int))) then
  ((at? t2 s38.2).bind fun x44 =>
  if (((x44.1, x44.2)).2 == s26) then
  (some (.more (((wrapA .i64 (s38.1 + (wrapA .i64 (t1 - ((x44.1, x44.2)).1)))), (wrapA .i64 (s38.2 + 1))))))
  else
  some (.more ((s38.1, (wrapA .i64 (s38.2 + 1))))))
  else
  some (.stop s38.1)
def F85_l2 (F : Nat) (t0 : List Int) (t1 : Int) (t2 : List (Int × Int)) (s26 : Int) : Option (Stp (Int) (Unit ⊕ (Bool × Bool))) :=
  if (decide (s26 < (t0.length : Int))) then
  ((at? t0 s26).bind fun x34 =>
  (at? t2 s26).bind fun x36 =>
  (iter (F85_l1 F t1 t2 s26) F (x36.1, 0)).bind fun b53 =>
  if (b53 != (wrapA .i64 (x34 * (t0.length : Int)))) then
  (some (.stop ((.inr (false, true)))))
  else
  some (.more ((wrapA .i64 (s26 + 1)))))
  else
  some (.stop ((.inl ())))
def F85 (F : Nat) (t0 : List Int) (t1 : Int) (t2 : List (Int × Int)) : Option (Bool × Bool) :=
  (iter (F85_l0 F t0 t1 t2) F 0).bind fun b21 =>
  match b21 with
  | .inl b23 => ((iter (F85_l2 F t0 t1 t2) F 0).bind fun b58 =>
  match b58 with
  | .inl b60 => (some ((true, true)))
  | .inr b60 => (some ((b60.1, b60.2))))
  | .inr b23 => (some ((b23.1, b23.2)))

def F13 (F : Nat) (t0 : List Int) (t1 : List (Int × Int)) (t2 : Int) (t3 : Int) : Option Bool :=
  (F80 F t0).bind fun r1 =>
  (F81 F t0 t1).bind fun r7 =>
  (F82 F t1 t2 t3).bind fun r11 =>
  (show Option (Unit ⊕ Bool) from (if ((decide ((t1.length : Int) < 1)) || (decide ((t1.length : Int) > 12))) then
  (if ((r11.2 != 2) || (r11.1 != 0)) then
  (some ((.inr false)))
  else
  some ((.inl ())))
  else
  if ((decide (t2 < 0)) || (decide (t2 ≥ (t1.length : Int)))) then
  (if ((r11.2 != 1) || (r11.1 != 0)) then
  (some ((.inr false)))
  else
  some ((.inl ())))
  else
  (if (r11.2 != 0) then some true else 
  ((at? t1 t2).bind fun x23 =>
  some ((decide (t3 < x23.1)) && (r11.1 != t2)))
  ).bind fun y27 =>
  (if y27 then some true else 
  ((at? t1 t2).bind fun x29 =>
  (if (decide (t3 ≥ x29.1)) then 
  ((at? t1 t2).bind fun x31 =>
  some (r11.1 != x31.2))
   else some false).bind fun y34 =>
  some y34)
  ).bind fun y37 =>
  if y37 then
  (some ((.inr false)))
  else
  some ((.inl ())))).bind fun b40 =>
  match b40 with
  | .inl b45 => ((F83 F t0).bind fun r48 =>
  (F84 F t0).bind fun r52 =>
  if (r52 != r48.2) then
  (some false)
  else
  if (r48.2 != 0) then
  (some (((((r1.2 == r48.2) && (r7.2 == r48.2)) && ((r1.1.length : Int) == 0)) && (!r7.1))))
  else
  if ((r1.2 != 0) || ((r1.1.length : Int) != (t0.length : Int))) then
  (some false)
  else
  (F85 F t0 r48.1 r1.1).bind fun r63 =>
  if (!r63.1) then
  (some false)
  else
  if ((t1.length : Int) != (t0.length : Int)) then
  (some (((r7.2 == 3) && (!r7.1))))
  else
  (F85 F t0 r48.1 t1).bind fun r70 =>
  if (!r70.2) then
  (some (((r7.2 == 1) && (!r7.1))))
  else
  some (((r7.2 == 0) && (r7.1 == r70.1))))
  | .inr b45 => (some b45)

def F117_l0 (F : Nat) (s11 : (List Int) × Int) (s27 : Int × (List Int)) : Option (Stp (Int × (List Int)) ((List Int))) :=
  if (decide (s27.1 < (s11.1.length : Int))) then
  ((at? s11.1 s27.1).bind fun x33 =>
  (show Option ((List Int)) from (if (decide (s27.1 > 0)) then
  ((at? s27.2 (wrapA .i64 (s27.1 - 1))).bind fun x36 =>
  (ck s27.2 (wrapA .i64 (s27.1 - 1))).bind fun u38 =>
  some ((s27.2.set ((Int.toNat (wrapA .i64 (s27.1 - 1)))) ((wrapA .i64 (x36 + x33))))))
  else
  some s27.2)).bind fun b42 =>
  if (decide ((wrapA .i64 (s27.1 + 1)) < (b42.length : Int))) then
  ((at? b42 (wrapA .i64 (s27.1 + 1))).bind fun x48 =>
  (ck b42 (wrapA .i64 (s27.1 + 1))).bind fun u50 =>
  some (.more (((wrapA .i64 (s27.1 + 1)), (b42.set ((Int.toNat (wrapA .i64 (s27.1 + 1)))) ((wrapA .i64 (x48 + x33))))))))
  else
  some (.more (((wrapA .i64 (s27.1 + 1)), b42))))
  else
  some (.stop s27.2)
def F117_l1 (F : Nat) (t1 : Int) (s11 : (List Int) × Int) : Option (Stp ((List Int) × Int) ((List Int))) :=
  if (decide (s11.2 < t1)) then
  ((mk? (wrapA .i64 (t1 + 2)) (0 : Int)).bind fun L21 =>
  (iter (F117_l0 F s11) F (0, L21)).bind fun b54 =>
  some (.more ((b54, (wrapA .i64 (s11.2 + 1))))))
  else
  some (.stop s11.1)
def F117 (F : Nat) (t0 : Int) (t1 : Int) : Option Int :=
  (mk? (wrapA .i64 (t1 + 2)) (0 : Int)).bind fun L1 =>
  (ck L1 0).bind fun u7 =>
  (iter (F117_l1 F t1) F ((L1.set ((Int.toNat 0)) 1), 0)).bind fun b58 =>
  if (decide (t0 ≥ (b58.length : Int))) then
  (some 0)
  else
  (at? b58 t0).bind fun x64 =>
  some x64

def F86 (F : Nat) (t0 : Int) : Option (Int × Int) :=
  if ((decide (t0 < 0)) || (decide (t0 > 15))) then
  (some ((0, 1)))
  else
  (F117 F 0 ((wrapA .i64 (2 * t0)))).bind fun r3 =>
  some ((r3, 0))

def F92_l0 (F : Nat) (L2 : List Int) (s8 : Int × Int) : Option (Stp (Int × Int) (Int ⊕ Int)) :=
  if (decide (s8.2 < (L2.length : Int))) then
  ((at? L2 s8.2).bind fun x16 =>
  if (x16 == 40) then
  (if (decide ((wrapA .i64 (s8.1 + 1)) < 0)) then
  (some (.stop ((.inr 3))))
  else
  some (.more (((wrapA .i64 (s8.1 + 1)), (wrapA .i64 (s8.2 + 1))))))
  else
  if (x16 == 41) then
  (if (decide ((wrapA .i64 (s8.1 - 1)) < 0)) then
  (some (.stop ((.inr 3))))
  else
  some (.more (((wrapA .i64 (s8.1 - 1)), (wrapA .i64 (s8.2 + 1))))))
  else
  some (.stop ((.inr 1))))
  else
  some (.stop ((.inl s8.1)))
def F92 (F : Nat) (t0 : List UInt8) : Option Int :=
  if (decide ((t0.length : Int) > 30)) then
  (some 2)
  else
  (bytes? t0).bind fun L2 =>
  (iter (F92_l0 F L2) F (0, 0)).bind fun b22 =>
  match b22 with
  | .inl b24 => (if (decide (b24 > 0)) then
  (some 6)
  else
  some 0)
  | .inr b24 => (some b24)

def F87_l0 (F : Nat) (t0 : List UInt8) (s6 : Int × Int × Int) : Option (Stp (Int × Int × Int) (Int)) :=
  if (decide (s6.2.2 < (t0.length : Int))) then
  ((at? t0 s6.2.2).bind fun x12 =>
  if ((x12.toNat : Int) == 41) then
  ((F117 F ((wrapA .i64 (s6.2.1 + 1))) ((wrapA .i64 ((wrapA .i64 ((t0.length : Int) - s6.2.2)) - 1)))).bind fun r15 =>
  some (.more (((wrapA .i64 (s6.1 + r15)), (wrapA .i64 (s6.2.1 - 1)), (wrapA .i64 (s6.2.2 + 1))))))
  else
  some (.more ((s6.1, (wrapA .i64 (s6.2.1 + 1)), (wrapA .i64 (s6.2.2 + 1))))))
  else
  some (.stop s6.1)
def F87 (F : Nat) (t0 : List UInt8) : Option (Int × Int) :=
  (F92 F t0).bind fun r1 =>
  if (r1 != 0) then
  (some ((0, r1)))
  else
  (iter (F87_l0 F t0) F (0, 0, 0)).bind fun b19 =>
  some ((b19, 0))

def F88_l0 (F : Nat) (t0 : Int) (s8 : Int × (List UInt8) × Int) : Option (Stp (Int × (List UInt8) × Int) ((List UInt8))) :=
  if (decide ((s8.2.1.length : Int) < (wrapA .i64 (2 * t0)))) then
  ((F117 F ((wrapA .i64 (s8.2.2 + 1))) ((wrapA .i64 ((wrapA .i64 ((wrapA .i64 (2 * t0)) - (s8.2.1.length : Int))) - 1)))).bind fun r14 =>
  if (decide (s8.1 < r14)) then
  ((cat? s8.2.1 [40]).bind fun x19 =>
  some (.more ((s8.1, x19, (wrapA .i64 (s8.2.2 + 1))))))
  else
  (cat? s8.2.1 [41]).bind fun x21 =>
  some (.more (((wrapA .i64 (s8.1 - r14)), x21, (wrapA .i64 (s8.2.2 - 1))))))
  else
  some (.stop s8.2.1)
def F88 (F : Nat) (t0 : Int) (t1 : Int) : Option ((List UInt8) × Int) :=
  (F86 F t0).bind fun r1 =>
  if (((r1.2 != 0) || (decide (t1 < 0))) || (decide (t1 ≥ r1.1))) then
  (some (([], 1)))
  else
  (iter (F88_l0 F t0) F (t1, [], 0)).bind fun b23 =>
  some ((b23, 0))

def F89_l0 (F : Nat) (s11 : Int × (List Int)) (s17 : Int × (List Int)) : Option (Stp (Int × (List Int)) ((List Int))) :=
  if (decide (s17.1 < (s11.2.length : Int))) then
  ((at? s17.2 s17.1).bind fun x23 =>
  (show Option (Int) from (if ((s11.1 == 1) && (s17.1 == 0)) then
  (some 1)
  else
  some x23)).bind fun b27 =>
  if (decide (s17.1 > 0)) then
  ((at? s17.2 (wrapA .i64 (s17.1 - 1))).bind fun x33 =>
  if (decide (s17.1 ≥ s11.1)) then
  ((ck s17.2 s17.1).bind fun u36 =>
  some (.more (((wrapA .i64 (s17.1 + 1)), (s17.2.set ((Int.toNat s17.1)) 0)))))
  else
  (ck s17.2 s17.1).bind fun u40 =>
  some (.more (((wrapA .i64 (s17.1 + 1)), (s17.2.set ((Int.toNat s17.1)) ((wrapA .i64 (b27 + x33))))))))
  else
  if (decide (s17.1 ≥ s11.1)) then
  ((ck s17.2 s17.1).bind fun u45 =>
  some (.more (((wrapA .i64 (s17.1 + 1)), (s17.2.set ((Int.toNat s17.1)) 0)))))
  else
  (ck s17.2 s17.1).bind fun u49 =>
  some (.more (((wrapA .i64 (s17.1 + 1)), (s17.2.set ((Int.toNat s17.1)) b27)))))
  else
  some (.stop s17.2)
def F89_l1 (F : Nat) (t0 : Int) (s11 : Int × (List Int)) : Option (Stp (Int × (List Int)) ((List Int))) :=
  if (decide (s11.1 ≤ t0)) then
  ((iter (F89_l0 F s11) F (0, s11.2)).bind fun b53 =>
  some (.more (((wrapA .i64 (s11.1 + 1)), b53))))
  else
  some (.stop s11.2)
def F89 (F : Nat) (t0 : Int) (t1 : Int) : Option (Int × Int) :=
  if ((((decide (t0 < 0)) || (decide (t0 > 15))) || (decide (t1 < 0))) || (decide (t1 > 15))) then
  (some ((0, 1)))
  else
  (mk? (wrapA .i64 (t1 + 1)) (0 : Int)).bind fun L5 =>
  (iter (F89_l1 F t0) F (1, L5)).bind fun b57 =>
  (at? b57 t1).bind fun x61 =>
  some ((x61, 0))

def F90 (F : Nat) (t0 : Int) (t1 : Int) : Option Int :=
  if (decide (t0 ≤ t1)) then
  (some 0)
  else
  (F33 F ((wrapA .i64 (t0 + t1))) t0).bind fun r2 =>
  (quo? .i64 (wrapA .i64 (r2 * (wrapA .i64 (t0 - t1)))) (wrapA .i64 (t0 + t1))).bind fun x6 =>
  some x6

def F91_l0 (F : Nat) (t0 : List UInt8) (s2 : Int × Int) : Option (Stp (Int × Int) (Int ⊕ Int)) :=
  if (decide (s2.2 < (t0.length : Int))) then
  ((at? t0 s2.2).bind fun x10 =>
  (if ((x10.toNat : Int) != 40) then 
  ((at? t0 s2.2).bind fun x12 =>
  some ((x12.toNat : Int) != 41))
   else some false).bind fun y15 =>
  if y15 then
  (some (.stop ((.inr 1))))
  else
  (at? t0 s2.2).bind fun x18 =>
  if (decide ((wrapA .i64 (s2.1 + (wrapA .i64 (1 - (wrapA .i64 (2 * (wrapA .i64 (wrapA .u8 ((x18.toNat : Int) - 40))))))))) < 0)) then
  (some (.stop ((.inr 3))))
  else
  some (.more (((wrapA .i64 (s2.1 + (wrapA .i64 (1 - (wrapA .i64 (2 * (wrapA .i64 (wrapA .u8 ((x18.toNat : Int) - 40))))))))), (wrapA .i64 (s2.2 + 1))))))
  else
  some (.stop ((.inl s2.1)))
def F91 (F : Nat) (t0 : List UInt8) : Option Int :=
  if (decide ((t0.length : Int) > 30)) then
  (some 2)
  else
  (iter (F91_l0 F t0) F (0, 0)).bind fun b21 =>
  match b21 with
  | .inl b23 => (if (decide (b23 > 0)) then
  (some 6)
  else
  some 0)
  | .inr b23 => (some b23)

def F94 (F : Nat) (t0 : Int) (t1 : Int) : Option Int :=
  if (((decide (t0 < 0)) || ((Int.tmod (wrapA .i64 (t1 - t0)) 2) != 0)) || (decide (t0 > t1))) then
  (some 0)
  else
  (F33 F t1 ((wrapA .i64 (Int.tdiv (wrapA .i64 (t1 - t0)) 2)))).bind fun r4 =>
  (F33 F t1 ((wrapA .i64 ((wrapA .i64 (Int.tdiv (wrapA .i64 (t1 - t0)) 2)) - 1)))).bind fun r8 =>
  some ((wrapA .i64 (r4 - r8)))

def F93_l0 (F : Nat) (t0 : List UInt8) (s1 : Int × Int × Int) : Option (Stp (Int × Int × Int) (Int)) :=
  if (decide (s1.2.2 < (t0.length : Int))) then
  ((at? t0 s1.2.2).bind fun x7 =>
  if ((x7.toNat : Int) == 40) then
  (some (.more ((s1.1, (wrapA .i64 (s1.2.1 + 1)), (wrapA .i64 (s1.2.2 + 1))))))
  else
  (F94 F ((wrapA .i64 (s1.2.1 + 1))) ((wrapA .i64 ((wrapA .i64 ((t0.length : Int) - s1.2.2)) - 1)))).bind fun r10 =>
  some (.more (((wrapA .i64 (s1.1 + r10)), (wrapA .i64 (s1.2.1 - 1)), (wrapA .i64 (s1.2.2 + 1))))))
  else
  some (.stop s1.1)
def F93 (F : Nat) (t0 : List UInt8) : Option Int :=
  (iter (F93_l0 F t0) F (0, 0, 0)).bind fun b14 =>
  some b14

def F14 (F : Nat) (t0 : List UInt8) (t1 : Int) (t2 : Int) (t3 : Int) (t4 : Int) : Option Bool :=
  (F86 F t1).bind fun r1 =>
  (F87 F t0).bind fun r5 =>
  (F88 F t1 t2).bind fun r9 =>
  (F89 F t3 t4).bind fun r13 =>
  (show Option (Unit ⊕ Bool) from (if ((((decide (t3 < 0)) || (decide (t3 > 15))) || (decide (t4 < 0))) || (decide (t4 > 15))) then
  (if ((r13.2 != 1) || (r13.1 != 0)) then
  (some ((.inr false)))
  else
  some ((.inl ())))
  else
  (if (r13.2 != 0) then some true else 
  ((F90 F t3 t4).bind fun r23 =>
  some (r13.1 != r23))
  ).bind fun y28 =>
  if y28 then
  (some ((.inr false)))
  else
  some ((.inl ())))).bind fun b33 =>
  match b33 with
  | .inl b38 => ((F91 F t0).bind fun r41 =>
  (F92 F t0).bind fun r45 =>
  (if (((r45 != r41) || (r5.2 != r41)) || ((r41 != 0) && (r5.1 != 0))) then some true else 
  ((if (r41 == 0) then 
  ((F93 F t0).bind fun r52 =>
  some (r5.1 != r52))
   else some false).bind fun y57 =>
  some y57)
  ).bind fun y62 =>
  if y62 then
  (some false)
  else
  if ((decide (t1 < 0)) || (decide (t1 > 15))) then
  (some (((((r1.2 == 1) && (r9.2 == r1.2)) && (r1.1 == 0)) && (r9.1 == []))))
  else
  (if (r1.2 != 0) then some true else 
  ((F94 F 0 ((wrapA .i64 (2 * t1)))).bind fun r72 =>
  some (r1.1 != r72))
  ).bind fun y77 =>
  if y77 then
  (some false)
  else
  if ((decide (t2 < 0)) || (decide (t2 ≥ r1.1))) then
  (some (((r9.2 == 1) && (r9.1 == []))))
  else
  (if ((r9.2 == 0) && ((r9.1.length : Int) == (wrapA .i64 (2 * t1)))) then 
  ((F91 F r9.1).bind fun r86 =>
  some (r86 == 0))
   else some false).bind fun y91 =>
  (if y91 then 
  ((F93 F r9.1).bind fun r95 =>
  some (r95 == t2))
   else some false).bind fun y100 =>
  some y100)
  | .inr b38 => (some b38)
end Go.Proofs.Ytkfmedmanhcdeaa
