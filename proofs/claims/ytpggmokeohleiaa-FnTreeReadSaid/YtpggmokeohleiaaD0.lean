/- Printed: by-value functions. -/
import Derived.Test.YtpggmokeohleiaaVb
set_option maxHeartbeats 4000000
set_option maxRecDepth 100000
set_option linter.unusedVariables false
namespace Go.Proofs.Ytpggmokeohleiaa
open Go Go.V
abbrev Bs := List UInt8
abbrev GL1Cur := (Bs × (Int × Int))
abbrev tGL1Cur : Ty := (.pair (.slice 5 .byte) (.pair (.int .i64) (.int .i64)))
abbrev GNode := (Int × (Int × (Int × (Bs × Int))))
abbrev tGNode : Ty := (.pair (.int .i64) (.pair (.int .i64) (.pair (.int .i64) (.pair .str (.int .i64)))))
abbrev GTree := ((List GNode) × (List Int))
abbrev tGTree : Ty := (.pair (.slice 124 tGNode) (.slice 3 (.int .i64)))
abbrev GTreeReader := (Bs × (Int × ((List GNode) × Int)))
abbrev tGTreeReader : Ty := (.pair (.slice 5 .byte) (.pair (.int .i64) (.pair (.slice 124 tGNode) (.int .i64))))
def laws_big (k : Nat) (x0 : Bs) : Option (Bool) :=
  some (decide ((x0.length : Int) > 1048576))


def spec_l1Newl1 : Nat → Bs → Int → Int → Option (Bs × Int)
  | 0, _, _, _ => none
  | k + 1, v0, v1, v2 =>
    if decide (v2 < (v0.length : Int)) then if decide (v2 < 4000) then if 0 ≤ v2 ∧ v2 < (v0.length : Int) then spec_l1Newl1 k v0 (bitI .and .i64 (w64 ((w64 ((w64 (v1 * 131)) + (w64 (n8 (v0.getD v2.toNat 0))))) + 7)) 1073741823) (w64 (v2 + 1)) else none else some ((v0, v1)) else some ((v0, v1))

def spec_l1New (k : Nat) (x0 : Bs) : Option (Bs × Int) :=
  (spec_l1Newl1 k x0 (w64 (11443 + (x0.length : Int))) 0).bind fun z108 => some (z108.1, z108.2)


def spec_l1Byte (k : Nat) (x0 : GL1Cur) : Option (Int × Bs × Int × Int) :=
  if decide (x0.2.1 < (x0.1.length : Int)) then if 0 ≤ x0.2.1 ∧ x0.2.1 < (x0.1.length : Int) then some (bitI .and .i64 (w64 ((bitI .and .i64 (bitI .xor .i64 (shrI .i64 (w64 ((w64 (x0.2.2 * 6364136223846793005)) + 1442695040888963407)) 33) (shrI .i64 (w64 ((w64 (x0.2.2 * 6364136223846793005)) + 1442695040888963407)) 45)) 255) + (w64 (n8 (x0.1.getD x0.2.1.toNat 0))))) 255, x0.1, w64 (x0.2.1 + 1), w64 ((w64 (x0.2.2 * 6364136223846793005)) + 1442695040888963407)) else none else some (bitI .and .i64 (bitI .xor .i64 (shrI .i64 (w64 ((w64 (x0.2.2 * 6364136223846793005)) + 1442695040888963407)) 33) (shrI .i64 (w64 ((w64 (x0.2.2 * 6364136223846793005)) + 1442695040888963407)) 45)) 255, x0.1, x0.2.1, w64 ((w64 (x0.2.2 * 6364136223846793005)) + 1442695040888963407))


def spec_l1Below (k : Nat) (x0 : GL1Cur) (x1 : Int) : Option (Int × Bs × Int × Int) :=
  if decide (x1 ≤ 0) then some (0, x0.1, x0.2.1, x0.2.2) else if decide (x1 ≤ 256) then (spec_l1Byte k x0).bind fun y141_1 => if x1 ≠ 0 then some (y141_1.1.tmod x1, y141_1.2.1, y141_1.2.2.1, y141_1.2.2.2) else none else (spec_l1Byte k x0).bind fun y147_1 => (spec_l1Byte k y147_1.2).bind fun y148_1 => (spec_l1Byte k y148_1.2).bind fun y149_1 => (spec_l1Byte k y149_1.2).bind fun y150_1 => if x1 ≠ 0 then some ((w64 ((w64 ((w64 ((w64 (y147_1.1 * 16777216)) + (w64 (y148_1.1 * 65536)))) + (w64 (y149_1.1 * 256)))) + y150_1.1)).tmod x1, y150_1.2.1, y150_1.2.2.1, y150_1.2.2.2) else none


def spec_l1PickInt (k : Nat) (x0 : GL1Cur) (x1 : (List Int)) : Option (Int × Bs × Int × Int) :=
  (spec_l1Below k x0 (x1.length : Int)).bind fun y271_4 => if 0 ≤ y271_4.1 ∧ y271_4.1 < (x1.length : Int) then some (x1.getD y271_4.1.toNat 0, y271_4.2.1, y271_4.2.2.1, y271_4.2.2.2) else none


def spec_l2DrawNum (k : Nat) (x0 : GL1Cur) : Option (Int × Bs × Int × Int) :=
  (spec_l1Below k x0 1000000).bind fun y266_2 => (spec_l1Below k y266_2.2 1000000).bind fun y266_4 => (spec_l1Below k y266_4.2 300).bind fun y266_7 => (spec_l1PickInt k y266_7.2 [0, 1, (-1), 63, 64, (-64), (-65), 127, 128, 16383, 16384, 2147483647, (-2147483648), 9223372036854775807, (-9223372036854775808), 4611686018427387904, y266_2.1, w64 (0 - y266_4.1), y266_7.1]).bind fun y266_9 => some (y266_9.1, y266_9.2.1, y266_9.2.2.1, y266_9.2.2.2)


def spec_l1DrawBytesl1 : Nat → Int → Int → Bs → Int → Int → Bs → Option (Bs × Int × Int × Bs)
  | 0, _, _, _, _, _, _ => none
  | k + 1, v0, v1, v2, v3, v4, v5 =>
    if decide (v1 < v0) then (spec_l1Byte k (v2, v3, v4)).bind fun y289_2 => if v5.length + 1 ≤ LIM then spec_l1DrawBytesl1 k v0 (w64 (v1 + 1)) y289_2.2.1 y289_2.2.2.1 y289_2.2.2.2 (v5 ++ [b8 (wu8 y289_2.1)]) else none else some ((v2, v3, v4, v5))

def spec_l1DrawBytes (k : Nat) (x0 : GL1Cur) (x1 : Int) : Option (Bs × Int × Int × Bs) :=
  (spec_l1Below k x0 (w64 (x1 + 1))).bind fun y282_3 => (spec_l1DrawBytesl1 k y282_3.1 0 y282_3.2.1 y282_3.2.2.1 y282_3.2.2.2 []).bind fun z294 => some (z294.1, z294.2.1, z294.2.2.1, z294.2.2.2)


def spec_l4DrawText (k : Nat) (x0 : GL1Cur) (x1 : Int) : Option (Bs × Bs × Int × Int) :=
  (spec_l1DrawBytes k x0 x1).bind fun y276_2 => some (y276_2.2.2.2, y276_2.1, y276_2.2.1, y276_2.2.2.1)


def spec_l1Once (k : Nat) (x0 : GL1Cur) (x1 : Int) : Option (Bool × Bs × Int × Int) :=
  (spec_l1Below k x0 x1).bind fun y305_2 => some (y305_2.1 == 0, y305_2.2.1, y305_2.2.2.1, y305_2.2.2.2)


abbrev Rspec_l4DrawNode := GL1Cur → Int → Int → Int → (List GNode) → Option (Bs × Int × Int × (List GNode))
def spec_l4DrawNodel1 (rspec_l4DrawNode : Rspec_l4DrawNode) : Nat → Int → Int → Int → Int → Int → Int → Bs → Int → Int → (List GNode) → Option (Bs × Int × Int × (List GNode))
  | 0, _, _, _, _, _, _, _, _, _, _ => none
  | k + 1, v0, v1, v2, v3, v4, v5, v6, v7, v8, v9 =>
    if decide (v5 < v2) then if v0 == 12 then (spec_l1PickInt k (v6, v7, v8) [1, 2, 5, 6, 8, 9, 12]).bind fun y232_2 => (spec_l1Below k y232_2.2 3).bind fun y233_3 => (spec_l1Below k y233_3.2 6).bind fun y233_6 => (rspec_l4DrawNode y233_6.2 y232_2.1 (w64 ((w64 ((w64 (v4 + 1)) + y233_3.1)) + (w64 ((w64 (y233_6.1.tdiv 5)) * 20)))) (w64 (v1 - 1)) v9).bind fun y234_6 => spec_l4DrawNodel1 rspec_l4DrawNode k v0 v1 v2 v3 (w64 ((w64 ((w64 (v4 + 1)) + y233_3.1)) + (w64 ((w64 (y233_6.1.tdiv 5)) * 20)))) (w64 (v5 + 1)) y234_6.1 y234_6.2.1 y234_6.2.2.1 y234_6.2.2.2 else (rspec_l4DrawNode (v6, v7, v8) v3 0 (w64 (v1 - 1)) v9).bind fun y237_5 => spec_l4DrawNodel1 rspec_l4DrawNode k v0 v1 v2 v3 v4 (w64 (v5 + 1)) y237_5.1 y237_5.2.1 y237_5.2.2.1 y237_5.2.2.2 else some ((v6, v7, v8, v9))

def spec_l4DrawNodej2 (rspec_l4DrawNode : Rspec_l4DrawNode) (k : Nat) (v0 : Int) (v1 : Int) (v2 : Int) (v3 : Int) (v4 : Bs) (v5 : Int) (v6 : Int) (v7 : (List GNode)) : Option (Bs × Int × Int × (List GNode)) :=
  (spec_l4DrawNodel1 rspec_l4DrawNode k v0 v1 v2 v3 0 0 v4 v5 v6 v7).bind fun z245 => some (z245.1, z245.2.1, z245.2.2.1, z245.2.2.2)

def spec_l4DrawNodej3 (rspec_l4DrawNode : Rspec_l4DrawNode) (k : Nat) (v0 : Int) (v1 : Int) (v2 : Int) (v3 : Int) (v4 : Bs) (v5 : Int) (v6 : Int) (v7 : (List GNode)) : Option (Bs × Int × Int × (List GNode)) :=
  (spec_l1PickInt k (v4, v5, v6) [5, 8, 6, 12, 9]).bind fun y216_2 => if 0 ≤ v2 ∧ v2 < (v7.length : Int) then if v0 == 9 then if decide (v3 > 0) then if 0 ≤ v2 ∧ v2 < ((v7.set v2.toNat ((v7.getD v2.toNat (0, 0, 0, [], 0)).1, ((v7.getD v2.toNat (0, 0, 0, [], 0)).2).1, (((v7.getD v2.toNat (0, 0, 0, [], 0)).2).2).1, ((((v7.getD v2.toNat (0, 0, 0, [], 0)).2).2).2).1, v3)).length : Int) then spec_l4DrawNodej2 rspec_l4DrawNode k v0 v1 v3 y216_2.1 y216_2.2.1 y216_2.2.2.1 y216_2.2.2.2 ((v7.set v2.toNat ((v7.getD v2.toNat (0, 0, 0, [], 0)).1, ((v7.getD v2.toNat (0, 0, 0, [], 0)).2).1, (((v7.getD v2.toNat (0, 0, 0, [], 0)).2).2).1, ((((v7.getD v2.toNat (0, 0, 0, [], 0)).2).2).2).1, v3)).set v2.toNat (((v7.set v2.toNat ((v7.getD v2.toNat (0, 0, 0, [], 0)).1, ((v7.getD v2.toNat (0, 0, 0, [], 0)).2).1, (((v7.getD v2.toNat (0, 0, 0, [], 0)).2).2).1, ((((v7.getD v2.toNat (0, 0, 0, [], 0)).2).2).2).1, v3)).getD v2.toNat (0, 0, 0, [], 0)).1, (((v7.set v2.toNat ((v7.getD v2.toNat (0, 0, 0, [], 0)).1, ((v7.getD v2.toNat (0, 0, 0, [], 0)).2).1, (((v7.getD v2.toNat (0, 0, 0, [], 0)).2).2).1, ((((v7.getD v2.toNat (0, 0, 0, [], 0)).2).2).2).1, v3)).getD v2.toNat (0, 0, 0, [], 0)).2).1, y216_2.1, ((((v7.set v2.toNat ((v7.getD v2.toNat (0, 0, 0, [], 0)).1, ((v7.getD v2.toNat (0, 0, 0, [], 0)).2).1, (((v7.getD v2.toNat (0, 0, 0, [], 0)).2).2).1, ((((v7.getD v2.toNat (0, 0, 0, [], 0)).2).2).2).1, v3)).getD v2.toNat (0, 0, 0, [], 0)).2).2).2)) else none else spec_l4DrawNodej2 rspec_l4DrawNode k v0 v1 v3 y216_2.1 y216_2.2.1 y216_2.2.2.1 y216_2.2.2.2 (v7.set v2.toNat ((v7.getD v2.toNat (0, 0, 0, [], 0)).1, ((v7.getD v2.toNat (0, 0, 0, [], 0)).2).1, (((v7.getD v2.toNat (0, 0, 0, [], 0)).2).2).1, ((((v7.getD v2.toNat (0, 0, 0, [], 0)).2).2).2).1, v3)) else spec_l4DrawNodej2 rspec_l4DrawNode k v0 v1 v3 y216_2.1 y216_2.2.1 y216_2.2.2.1 y216_2.2.2.2 (v7.set v2.toNat ((v7.getD v2.toNat (0, 0, 0, [], 0)).1, ((v7.getD v2.toNat (0, 0, 0, [], 0)).2).1, (((v7.getD v2.toNat (0, 0, 0, [], 0)).2).2).1, ((((v7.getD v2.toNat (0, 0, 0, [], 0)).2).2).2).1, v3)) else none

def spec_l4DrawNodej4 (rspec_l4DrawNode : Rspec_l4DrawNode) (k : Nat) (v0 : Int) (v1 : Int) (v2 : Int) (v3 : Int) (v4 : Bs) (v5 : Int) (v6 : Int) (v7 : (List GNode)) : Option (Bs × Int × Int × (List GNode)) :=
  (spec_l1Once k (v4, v5, v6) 20).bind fun y211_1 => if y211_1.1 then spec_l4DrawNodej3 rspec_l4DrawNode k v0 v1 v2 (w64 (v3 * 6)) y211_1.2.1 y211_1.2.2.1 y211_1.2.2.2 v7 else spec_l4DrawNodej3 rspec_l4DrawNode k v0 v1 v2 v3 y211_1.2.1 y211_1.2.2.1 y211_1.2.2.2 v7

def spec_l4DrawNodej5 (rspec_l4DrawNode : Rspec_l4DrawNode) (k : Nat) (v0 : Int) (v1 : Int) (v2 : Int) (v3 : Bs) (v4 : Int) (v5 : Int) (v6 : (List GNode)) : Option (Bs × Int × Int × (List GNode)) :=
  (spec_l1Below k (v3, v4, v5) 4).bind fun y205_1 => if v1 == 0 then spec_l4DrawNodej4 rspec_l4DrawNode k v0 v1 v2 0 y205_1.2.1 y205_1.2.2.1 y205_1.2.2.2 v6 else spec_l4DrawNodej4 rspec_l4DrawNode k v0 v1 v2 y205_1.1 y205_1.2.1 y205_1.2.2.1 y205_1.2.2.2 v6

def spec_l4DrawNodej6 (rspec_l4DrawNode : Rspec_l4DrawNode) (k : Nat) (v0 : Int) (v1 : Int) (v2 : Bs) (v3 : Int) (v4 : Int) (v5 : (List GNode)) (v6 : Int) (v7 : Int) (v8 : Int) (v9 : Bs) : Option (Bs × Int × Int × (List GNode)) :=
  if v5.length + 1 ≤ LIM then if v0 != 9 then if v0 != 12 then some (v2, v3, v4, v5 ++ [(v6, v7, v8, v9, 0)]) else spec_l4DrawNodej5 rspec_l4DrawNode k v0 v1 (v5.length : Int) v2 v3 v4 (v5 ++ [(v6, v7, v8, v9, 0)]) else spec_l4DrawNodej5 rspec_l4DrawNode k v0 v1 (v5.length : Int) v2 v3 v4 (v5 ++ [(v6, v7, v8, v9, 0)]) else none

def spec_l4DrawNodeb (rspec_l4DrawNode : Rspec_l4DrawNode) (k : Nat) (x0 : GL1Cur) (x1 : Int) (x2 : Int) (x3 : Int) (x4 : (List GNode)) : Option (Bs × Int × Int × (List GNode)) :=
  if x1 == 5 then (spec_l1Below k x0 1000).bind fun y182_1 => spec_l4DrawNodej6 rspec_l4DrawNode k x1 x3 y182_1.2.1 y182_1.2.2.1 y182_1.2.2.2 x4 x1 x2 (w64 (y182_1.1 - 300)) [] else if x1 == 6 then (spec_l2DrawNum k x0).bind fun y184_1 => spec_l4DrawNodej6 rspec_l4DrawNode k x1 x3 y184_1.2.1 y184_1.2.2.1 y184_1.2.2.2 x4 x1 x2 y184_1.1 [] else if x1 == 8 then (spec_l4DrawText k x0 5).bind fun y186_1 => spec_l4DrawNodej6 rspec_l4DrawNode k x1 x3 y186_1.2.1 y186_1.2.2.1 y186_1.2.2.2 x4 x1 x2 0 y186_1.1 else spec_l4DrawNodej6 rspec_l4DrawNode k x1 x3 x0.1 x0.2.1 x0.2.2 x4 x1 x2 0 []

def spec_l4DrawNode : Nat → Rspec_l4DrawNode
  | 0, _, _, _, _, _ => none
  | k + 1, x0, x1, x2, x3, x4 => spec_l4DrawNodeb (spec_l4DrawNode k) k x0 x1 x2 x3 x4

def spec_l4DrawRight (k : Nat) (x0 : GL1Cur) : Option (Bs × Int × Int × (List GNode)) :=
  (spec_l1Below k x0 3).bind fun y118_2 => (spec_l4DrawNode k y118_2.2 12 0 (w64 (1 + y118_2.1)) []).bind fun y118_5 => if decide ((y118_5.2.2.2.length : Int) > 300) then some (y118_5.1, y118_5.2.1, y118_5.2.2.1, [(12, 0, 0, [], 0)]) else some (y118_5.1, y118_5.2.1, y118_5.2.2.1, y118_5.2.2.2)


def spec_l1In (k : Nat) (x0 : Int) (x1 : Int) (x2 : Int) : Option (Bool) :=
  if decide (x0 ≥ x1) then some (decide (x0 ≤ x2)) else some (false)


def spec_l4Int (k : Nat) (x0 : Int) : Option (Bool) :=
  (spec_l1In k x0 (-2147483648) 2147483647).bind fun y455_1 => some (y455_1)


def spec_l4Kind (k : Nat) (x0 : Int) : Option (Bool) :=
  if x0 == 1 then some (true) else if x0 == 2 then some (true) else if x0 == 5 then some (true) else if x0 == 6 then some (true) else if x0 == 8 then some (true) else if x0 == 9 then some (true) else if x0 == 12 then some (true) else some (false)


def spec_l4Item (k : Nat) (x0 : Int) : Option (Bool) :=
  (spec_l4Kind k x0).bind fun y460_1 => if y460_1 then if x0 != 1 then some (x0 != 2) else some (false) else some (false)


def spec_l4Plainj1 (k : Nat) (v0 : Int) (v1 : Bool) (v2 : Int) (v3 : Int) (v4 : Int) (v5 : Bs) (v6 : Int) : Option (Bool) :=
  if v1 then if v4 == 0 then if v5 == [] then some (v6 == 0) else some (false) else some (false) else if v0 == 5 then (spec_l4Int k v4).bind fun y415_2 => if y415_2 then if v5 == [] then some (v6 == 0) else some (false) else some (false) else if v0 == 6 then if v5 == [] then some (v6 == 0) else some (false) else if v0 == 8 then if v4 == 0 then if decide ((v5.length : Int) ≤ 300) then some (v6 == 0) else some (false) else some (false) else if v0 == 9 then if v5 == [] then if decide (v6 ≥ 0) then if v6 == 0 then if v4 == 0 then some (true) else if decide (v6 > 0) then (spec_l4Item k v4).bind fun y427_24 => some (y427_24) else some (false) else if decide (v6 > 0) then (spec_l4Item k v4).bind fun y427_24 => some (y427_24) else some (false) else some (false) else some (false) else if v0 == 12 then if v4 == 0 then if v5 == [] then some (decide (v6 ≥ 0)) else some (false) else some (false) else some (false)

def spec_l4Plain (k : Nat) (x0 : GNode) : Option (Bool) :=
  if x0.1 == 1 then spec_l4Plainj1 k x0.1 (x0.1 == 1) x0.1 x0.2.1 x0.2.2.1 x0.2.2.2.1 x0.2.2.2.2 else spec_l4Plainj1 k x0.1 (x0.1 == 2) x0.1 x0.2.1 x0.2.2.1 x0.2.2.2.1 x0.2.2.2.2


abbrev Rspec_l4Check := (List GNode) → Int → Int → Option (Int)
def spec_l4Checkj2 (rspec_l4Check : Rspec_l4Check) (k : Nat) (rec : (List GNode) × Int × Int × Int × Int × Int × Int × Int × Bs × Int → Option ((Int) ⊕ (Unit))) (v0 : (List GNode)) (v1 : Int) (v2 : Int) (v3 : Int) (v4 : Int) (v5 : Int) (v6 : Int) (v7 : Bs) (v8 : Int) (v9 : Int) (v10 : Int) (v11 : Int) (v12 : Bs) (v13 : Int) : Option ((Int) ⊕ (Unit)) :=
  (rspec_l4Check v0 v2 (w64 (v1 + 1))).bind fun y375_4 => if decide (y375_4 < 0) then some (.inr ()) else rec (v0, v1, y375_4, v10, (w64 (v3 + 1)), v4, v5, v6, v7, v8)

def spec_l4Checkl1 (rspec_l4Check : Rspec_l4Check) : Nat → (List GNode) → Int → Int → Int → Int → Int → Int → Int → Bs → Int → Option ((Int) ⊕ (Unit))
  | 0, _, _, _, _, _, _, _, _, _, _ => none
  | k + 1, v0, v1, v2, v3, v4, v5, v6, v7, v8, v9 =>
    if decide (v4 < v9) then if decide (v2 ≥ (v0.length : Int)) then some (.inr ()) else if 0 ≤ v2 ∧ v2 < (v0.length : Int) then if v5 == 9 then if ((v0.getD v2.toNat (0, 0, 0, [], 0)).1) != v7 then some (.inr ()) else if (((v0.getD v2.toNat (0, 0, 0, [], 0)).2).1) != 0 then some (.inr ()) else if v5 == 12 then if decide ((((v0.getD v2.toNat (0, 0, 0, [], 0)).2).1) ≤ v3) then some (.inr ()) else if decide ((((v0.getD v2.toNat (0, 0, 0, [], 0)).2).1) > 1000) then some (.inr ()) else spec_l4Checkj2 rspec_l4Check k (fun (i : (List GNode) × Int × Int × Int × Int × Int × Int × Int × Bs × Int) => spec_l4Checkl1 rspec_l4Check k i.1 i.2.1 i.2.2.1 i.2.2.2.1 i.2.2.2.2.1 i.2.2.2.2.2.1 i.2.2.2.2.2.2.1 i.2.2.2.2.2.2.2.1 i.2.2.2.2.2.2.2.2.1 i.2.2.2.2.2.2.2.2.2) v0 v1 v2 v4 v5 v6 v7 v8 v9 ((v0.getD v2.toNat (0, 0, 0, [], 0)).1) (((v0.getD v2.toNat (0, 0, 0, [], 0)).2).1) ((((v0.getD v2.toNat (0, 0, 0, [], 0)).2).2).1) (((((v0.getD v2.toNat (0, 0, 0, [], 0)).2).2).2).1) (((((v0.getD v2.toNat (0, 0, 0, [], 0)).2).2).2).2) else spec_l4Checkj2 rspec_l4Check k (fun (i : (List GNode) × Int × Int × Int × Int × Int × Int × Int × Bs × Int) => spec_l4Checkl1 rspec_l4Check k i.1 i.2.1 i.2.2.1 i.2.2.2.1 i.2.2.2.2.1 i.2.2.2.2.2.1 i.2.2.2.2.2.2.1 i.2.2.2.2.2.2.2.1 i.2.2.2.2.2.2.2.2.1 i.2.2.2.2.2.2.2.2.2) v0 v1 v2 v4 v5 v6 v7 v8 v9 ((v0.getD v2.toNat (0, 0, 0, [], 0)).1) (((v0.getD v2.toNat (0, 0, 0, [], 0)).2).1) ((((v0.getD v2.toNat (0, 0, 0, [], 0)).2).2).1) (((((v0.getD v2.toNat (0, 0, 0, [], 0)).2).2).2).1) (((((v0.getD v2.toNat (0, 0, 0, [], 0)).2).2).2).2) else if v5 == 12 then if decide ((((v0.getD v2.toNat (0, 0, 0, [], 0)).2).1) ≤ v3) then some (.inr ()) else if decide ((((v0.getD v2.toNat (0, 0, 0, [], 0)).2).1) > 1000) then some (.inr ()) else spec_l4Checkj2 rspec_l4Check k (fun (i : (List GNode) × Int × Int × Int × Int × Int × Int × Int × Bs × Int) => spec_l4Checkl1 rspec_l4Check k i.1 i.2.1 i.2.2.1 i.2.2.2.1 i.2.2.2.2.1 i.2.2.2.2.2.1 i.2.2.2.2.2.2.1 i.2.2.2.2.2.2.2.1 i.2.2.2.2.2.2.2.2.1 i.2.2.2.2.2.2.2.2.2) v0 v1 v2 v4 v5 v6 v7 v8 v9 ((v0.getD v2.toNat (0, 0, 0, [], 0)).1) (((v0.getD v2.toNat (0, 0, 0, [], 0)).2).1) ((((v0.getD v2.toNat (0, 0, 0, [], 0)).2).2).1) (((((v0.getD v2.toNat (0, 0, 0, [], 0)).2).2).2).1) (((((v0.getD v2.toNat (0, 0, 0, [], 0)).2).2).2).2) else spec_l4Checkj2 rspec_l4Check k (fun (i : (List GNode) × Int × Int × Int × Int × Int × Int × Int × Bs × Int) => spec_l4Checkl1 rspec_l4Check k i.1 i.2.1 i.2.2.1 i.2.2.2.1 i.2.2.2.2.1 i.2.2.2.2.2.1 i.2.2.2.2.2.2.1 i.2.2.2.2.2.2.2.1 i.2.2.2.2.2.2.2.2.1 i.2.2.2.2.2.2.2.2.2) v0 v1 v2 v4 v5 v6 v7 v8 v9 ((v0.getD v2.toNat (0, 0, 0, [], 0)).1) (((v0.getD v2.toNat (0, 0, 0, [], 0)).2).1) ((((v0.getD v2.toNat (0, 0, 0, [], 0)).2).2).1) (((((v0.getD v2.toNat (0, 0, 0, [], 0)).2).2).2).1) (((((v0.getD v2.toNat (0, 0, 0, [], 0)).2).2).2).2) else none else some (.inl (v2))

def spec_l4Checkb (rspec_l4Check : Rspec_l4Check) (k : Nat) (x0 : (List GNode)) (x1 : Int) (x2 : Int) : Option (Int) :=
  if decide (x1 ≥ (x0.length : Int)) then some ((-1)) else if decide (x2 > 12) then some ((-1)) else if 0 ≤ x1 ∧ x1 < (x0.length : Int) then (spec_l4Plain k ((x0.getD x1.toNat (0, 0, 0, [], 0)).1, ((x0.getD x1.toNat (0, 0, 0, [], 0)).2).1, (((x0.getD x1.toNat (0, 0, 0, [], 0)).2).2).1, ((((x0.getD x1.toNat (0, 0, 0, [], 0)).2).2).2))).bind fun y343_13 => if !y343_13 then some ((-1)) else (spec_l4Checkl1 rspec_l4Check k x0 x2 (w64 (x1 + 1)) 0 0 ((x0.getD x1.toNat (0, 0, 0, [], 0)).1) (((x0.getD x1.toNat (0, 0, 0, [], 0)).2).1) ((((x0.getD x1.toNat (0, 0, 0, [], 0)).2).2).1) (((((x0.getD x1.toNat (0, 0, 0, [], 0)).2).2).2).1) (((((x0.getD x1.toNat (0, 0, 0, [], 0)).2).2).2).2)).bind (Sum.elim (fun z392 => some (z392)) (fun z392 => some ((-1)))) else none

def spec_l4Check : Nat → Rspec_l4Check
  | 0, _, _, _ => none
  | k + 1, x0, x1, x2 => spec_l4Checkb (spec_l4Check k) k x0 x1 x2

def spec_TreeOk (k : Nat) (x0 : (List GNode)) : Option (Bool) :=
  (spec_l1In k (x0.length : Int) 1 1500).bind fun y325_2 => if !y325_2 then some (false) else if 0 ≤ (0 : Int) ∧ 0 < (x0.length : Int) then if ((x0.getD 0 (0, 0, 0, [], 0)).1) != 12 then some (false) else if (((x0.getD 0 (0, 0, 0, [], 0)).2).1) != 0 then some (false) else (spec_l4Check k x0 0 1).bind fun y332_1 => some (y332_1 == (x0.length : Int)) else none


def spec_Zig (k : Nat) (x0 : Int) : Option (Int) :=
  if decide (x0 < 0) then some (bitI .xor .i64 (-1) (shlI .i64 x0 1)) else some (shlI .i64 x0 1)


def spec_l2Down (k : Nat) (x0 : Int) (x1 : Int) : Option (Int) :=
  if x1 == 0 then some (x0) else if (0 : Int) ≤ x1 then if (0 : Int) ≤ w64 (64 - x1) then some (bitI .and .i64 (shrI .i64 x0 x1) (w64 ((shlI .i64 1 (w64 (64 - x1))) - 1))) else none else none


def spec_UvarPutl1 : Nat → Int → Bs → Option (Int × Bs)
  | 0, _, _ => none
  | k + 1, v0, v1 =>
    (spec_l2Down k v0 7).bind fun y622_1 => if y622_1 != 0 then if v1.length + 1 ≤ LIM then (spec_l2Down k v0 7).bind fun y628_1 => spec_UvarPutl1 k y628_1 (v1 ++ [b8 (wu8 (w64 ((bitI .and .i64 v0 127) + 128)))]) else none else some ((v0, v1))

def spec_UvarPut (k : Nat) (x0 : Int) : Option (Bs) :=
  (spec_UvarPutl1 k x0 []).bind fun z632 => if z632.2.length + 1 ≤ LIM then some (z632.2 ++ [b8 (wu8 z632.1)]) else none


def spec_ZigPut (k : Nat) (x0 : Int) : Option (Bs) :=
  (spec_Zig k x0).bind fun y603_1 => (spec_UvarPut k y603_1).bind fun y603_2 => some (y603_2)


abbrev Rspec_l4Pack := (List GNode) → Int → Option (Int × Bs)
def spec_l4Packl1 (rspec_l4Pack : Rspec_l4Pack) : Nat → (List GNode) → Int → Int → Int → Int → Int → Bs → Int → Bs → Option (Int × Bs)
  | 0, _, _, _, _, _, _, _, _, _ => none
  | k + 1, v0, v1, v2, v3, v4, v5, v6, v7, v8 =>
    if decide (v2 < v7) then (rspec_l4Pack v0 v1).bind fun y535_2 => if v8.length + y535_2.2.length ≤ LIM then spec_l4Packl1 rspec_l4Pack k v0 y535_2.1 (w64 (v2 + 1)) v3 v4 v5 v6 v7 (v8 ++ y535_2.2) else none else some ((v1, v8))

def spec_l4Packj2 (rspec_l4Pack : Rspec_l4Pack) (k : Nat) (v0 : (List GNode)) (v1 : Int) (v2 : Int) (v3 : Int) (v4 : Int) (v5 : Bs) (v6 : Int) (v7 : Bs) : Option (Int × Bs) :=
  (spec_l4Packl1 rspec_l4Pack k v0 v1 0 v2 v3 v4 v5 v6 v7).bind fun z544 => some (z544.1, z544.2)

def spec_l4Packj4 (rspec_l4Pack : Rspec_l4Pack) (k : Nat) (rec : (List GNode) × Int × Int × Int × Int × Int × Int × Bs × Int × Bs → Option (Int × Bs)) (v0 : (List GNode)) (v1 : Int) (v2 : Int) (v3 : Int) (v4 : Int) (v5 : Int) (v6 : Bs) (v7 : Int) (v8 : Bs) (v9 : Int) (v10 : Int) (v11 : Int) (v12 : Bs) (v13 : Int) : Option (Int × Bs) :=
  (rspec_l4Pack v0 v1).bind fun y565_2 => if v8.length + y565_2.2.length ≤ LIM then rec (v0, y565_2.1, v10, (w64 (v2 + 1)), v3, v4, v5, v6, v7, (v8 ++ y565_2.2)) else none

def spec_l4Packl3 (rspec_l4Pack : Rspec_l4Pack) : Nat → (List GNode) → Int → Int → Int → Int → Int → Int → Bs → Int → Bs → Option (Int × Bs)
  | 0, _, _, _, _, _, _, _, _, _, _ => none
  | k + 1, v0, v1, v2, v3, v4, v5, v6, v7, v8, v9 =>
    if decide (v3 < v8) then if 0 ≤ v1 ∧ v1 < (v0.length : Int) then if decide ((w64 ((((v0.getD v1.toNat (0, 0, 0, [], 0)).2).1) - v2)) ≤ 15) then if v9.length + 1 ≤ LIM then spec_l4Packj4 rspec_l4Pack k (fun (i : (List GNode) × Int × Int × Int × Int × Int × Int × Bs × Int × Bs) => spec_l4Packl3 rspec_l4Pack k i.1 i.2.1 i.2.2.1 i.2.2.2.1 i.2.2.2.2.1 i.2.2.2.2.2.1 i.2.2.2.2.2.2.1 i.2.2.2.2.2.2.2.1 i.2.2.2.2.2.2.2.2.1 i.2.2.2.2.2.2.2.2.2) v0 v1 v3 v4 v5 v6 v7 v8 (v9 ++ [b8 (wu8 (w64 ((w64 (16 * (w64 ((((v0.getD v1.toNat (0, 0, 0, [], 0)).2).1) - v2)))) + ((v0.getD v1.toNat (0, 0, 0, [], 0)).1))))]) ((v0.getD v1.toNat (0, 0, 0, [], 0)).1) (((v0.getD v1.toNat (0, 0, 0, [], 0)).2).1) ((((v0.getD v1.toNat (0, 0, 0, [], 0)).2).2).1) (((((v0.getD v1.toNat (0, 0, 0, [], 0)).2).2).2).1) (((((v0.getD v1.toNat (0, 0, 0, [], 0)).2).2).2).2) else none else if v9.length + 1 ≤ LIM then (spec_ZigPut k (((v0.getD v1.toNat (0, 0, 0, [], 0)).2).1)).bind fun y560_3 => if (v9 ++ [b8 (wu8 ((v0.getD v1.toNat (0, 0, 0, [], 0)).1))]).length + y560_3.length ≤ LIM then spec_l4Packj4 rspec_l4Pack k (fun (i : (List GNode) × Int × Int × Int × Int × Int × Int × Bs × Int × Bs) => spec_l4Packl3 rspec_l4Pack k i.1 i.2.1 i.2.2.1 i.2.2.2.1 i.2.2.2.2.1 i.2.2.2.2.2.1 i.2.2.2.2.2.2.1 i.2.2.2.2.2.2.2.1 i.2.2.2.2.2.2.2.2.1 i.2.2.2.2.2.2.2.2.2) v0 v1 v3 v4 v5 v6 v7 v8 ((v9 ++ [b8 (wu8 ((v0.getD v1.toNat (0, 0, 0, [], 0)).1))]) ++ y560_3) ((v0.getD v1.toNat (0, 0, 0, [], 0)).1) (((v0.getD v1.toNat (0, 0, 0, [], 0)).2).1) ((((v0.getD v1.toNat (0, 0, 0, [], 0)).2).2).1) (((((v0.getD v1.toNat (0, 0, 0, [], 0)).2).2).2).1) (((((v0.getD v1.toNat (0, 0, 0, [], 0)).2).2).2).2) else none else none else none else some ((v1, v9))

def spec_l4Packj5 (rspec_l4Pack : Rspec_l4Pack) (k : Nat) (v0 : (List GNode)) (v1 : Int) (v2 : Int) (v3 : Bool) (v4 : Int) (v5 : Int) (v6 : Int) (v7 : Bs) (v8 : Int) : Option (Int × Bs) :=
  if v3 then (spec_ZigPut k v6).bind fun y514_2 => some (v1, y514_2) else if v2 == 8 then (spec_UvarPut k (v7.length : Int)).bind fun y518_3 => if v7.length ≤ LIM then if y518_3.length + v7.length ≤ LIM then some (v1, y518_3 ++ v7) else none else none else if v2 == 9 then if decide (v8 ≤ 14) then spec_l4Packj2 rspec_l4Pack k v0 v1 v4 v5 v6 v7 v8 ([] ++ [b8 (wu8 (w64 ((w64 (16 * v8)) + v6)))]) else (spec_UvarPut k v8).bind fun y525_3 => if ([] ++ [b8 (wu8 (w64 (240 + v6)))]).length + y525_3.length ≤ LIM then spec_l4Packj2 rspec_l4Pack k v0 v1 v4 v5 v6 v7 v8 (([] ++ [b8 (wu8 (w64 (240 + v6)))]) ++ y525_3) else none else if v2 == 12 then (spec_l4Packl3 rspec_l4Pack k v0 v1 0 0 v4 v5 v6 v7 v8 []).bind fun z577 => if z577.2.length + 1 ≤ LIM then some (z577.1, z577.2 ++ [0]) else none else some (v1, [])

def spec_l4Packb (rspec_l4Pack : Rspec_l4Pack) (k : Nat) (x0 : (List GNode)) (x1 : Int) : Option (Int × Bs) :=
  if 0 ≤ x1 ∧ x1 < (x0.length : Int) then if ((x0.getD x1.toNat (0, 0, 0, [], 0)).1) == 5 then spec_l4Packj5 rspec_l4Pack k x0 (w64 (x1 + 1)) ((x0.getD x1.toNat (0, 0, 0, [], 0)).1) (((x0.getD x1.toNat (0, 0, 0, [], 0)).1) == 5) ((x0.getD x1.toNat (0, 0, 0, [], 0)).1) (((x0.getD x1.toNat (0, 0, 0, [], 0)).2).1) ((((x0.getD x1.toNat (0, 0, 0, [], 0)).2).2).1) (((((x0.getD x1.toNat (0, 0, 0, [], 0)).2).2).2).1) (((((x0.getD x1.toNat (0, 0, 0, [], 0)).2).2).2).2) else spec_l4Packj5 rspec_l4Pack k x0 (w64 (x1 + 1)) ((x0.getD x1.toNat (0, 0, 0, [], 0)).1) (((x0.getD x1.toNat (0, 0, 0, [], 0)).1) == 6) ((x0.getD x1.toNat (0, 0, 0, [], 0)).1) (((x0.getD x1.toNat (0, 0, 0, [], 0)).2).1) ((((x0.getD x1.toNat (0, 0, 0, [], 0)).2).2).1) (((((x0.getD x1.toNat (0, 0, 0, [], 0)).2).2).2).1) (((((x0.getD x1.toNat (0, 0, 0, [], 0)).2).2).2).2) else none

def spec_l4Pack : Nat → Rspec_l4Pack
  | 0, _, _ => none
  | k + 1, x0, x1 => spec_l4Packb (spec_l4Pack k) k x0 x1

def spec_TreePack (k : Nat) (x0 : (List GNode)) : Option (Bool × Bs) :=
  (spec_TreeOk k x0).bind fun y310_1 => if !y310_1 then some (false, []) else (spec_l4Pack k x0 0).bind fun y317_1 => some (true, y317_1.2)


def spec_DrawTreeReadj1 (k : Nat) (v0 : Bs) (v1 : Int) (v2 : Int) (v3 : Bs) : Option (Int × Bs) :=
  (spec_l1Below k (v0, v1, v2) 8).bind fun y56_1 => if y56_1.1 == 0 then (spec_l1Below k y56_1.2 (v3.length : Int)).bind fun y58_4 => (spec_l1Byte k y58_4.2).bind fun y58_6 => if 0 ≤ y58_4.1 ∧ y58_4.1 < (v3.length : Int) then some (0, v3.set y58_4.1.toNat (b8 (wu8 y58_6.1))) else none else if y56_1.1 == 1 then (spec_l1Below k y56_1.2 (w64 ((v3.length : Int) + 1))).bind fun y60_5 => if 0 ≤ y60_5.1 ∧ y60_5.1 ≤ (v3.length : Int) then some (0, v3.take y60_5.1.toNat) else none else if y56_1.1 == 2 then (spec_l1Byte k y56_1.2).bind fun y62_1 => if 1 + v3.length ≤ LIM then some (1, [b8 (wu8 y62_1.1)] ++ v3) else none else if y56_1.1 == 3 then (spec_l1Byte k y56_1.2).bind fun y66_2 => if v3.length + 1 ≤ LIM then some (0, v3 ++ [b8 (wu8 y66_2.1)]) else none else if y56_1.1 == 4 then some (0, [5, 2, 9, 0, 8, 4, 1, 65, 0]) else if y56_1.1 == 5 then (spec_l1PickInt k y56_1.2 [(-1), (v3.length : Int), 1]).bind fun y70_4 => some (y70_4.1, v3) else some (0, v3)

def spec_DrawTreeRead (k : Nat) (x0 : Bs) : Option (Int × Bs) :=
  (spec_l1New k x0).bind fun y48_1 => (spec_l4DrawRight k (y48_1.1, 0, y48_1.2)).bind fun y49_1 => (spec_TreePack k y49_1.2.2.2).bind fun y49_2 => if !y49_2.1 then spec_DrawTreeReadj1 k y49_1.1 y49_1.2.1 y49_1.2.2.1 [0] else spec_DrawTreeReadj1 k y49_1.1 y49_1.2.1 y49_1.2.2.1 y49_2.2


def impl_within (k : Nat) (x0 : Int) (x1 : Int) (x2 : Int) : Option (Bool) :=
  if decide (x0 ≥ x1) then some (decide (x0 ≤ x2)) else some (false)


def impl_treeReader_fail (k : Nat) (x0 : GTreeReader) (x1 : Int) : Option (Bs × Int × Int × (List GNode)) :=
  if x0.2.2.2 == 0 then some (x0.1, x0.2.1, x1, x0.2.2.1) else some (x0.1, x0.2.1, x0.2.2.2, x0.2.2.1)


def impl_treeReader_beginj1 (k : Nat) (v0 : Bs) (v1 : Int) (v2 : Int) (v3 : (List GNode)) (v4 : Int) (v5 : Int) (v6 : Int) (v7 : Bs) (v8 : Int) : Option (Int × Bs × Int × Int × (List GNode)) :=
  if v2 != 0 then some (0, v0, v1, v2, v3) else if v3.length + 1 ≤ LIM then some (w64 (((v3 ++ [(v4, v5, v6, v7, v8)]).length : Int) - 1), v0, v1, v2, v3 ++ [(v4, v5, v6, v7, v8)]) else none

def impl_treeReader_begin (k : Nat) (x0 : GTreeReader) (x1 : GNode) (x2 : Int) : Option (Int × Bs × Int × Int × (List GNode)) :=
  if decide (x2 > 12) then (impl_treeReader_fail k x0 4).bind fun y725_1 => impl_treeReader_beginj1 k y725_1.1 y725_1.2.1 y725_1.2.2.1 y725_1.2.2.2 x1.1 x1.2.1 x1.2.2.1 x1.2.2.2.1 x1.2.2.2.2 else if (x0.2.2.1.length : Int) == 1500 then (impl_treeReader_fail k x0 4).bind fun y725_1 => impl_treeReader_beginj1 k y725_1.1 y725_1.2.1 y725_1.2.2.1 y725_1.2.2.2 x1.1 x1.2.1 x1.2.2.1 x1.2.2.2.1 x1.2.2.2.2 else impl_treeReader_beginj1 k x0.1 x0.2.1 x0.2.2.2 x0.2.2.1 x1.1 x1.2.1 x1.2.2.1 x1.2.2.2.1 x1.2.2.2.2


def impl_UvarGetj2 (k : Nat) (rec : Bs × Int × Int × Int → Option ((Unit) ⊕ (Int × Int))) (v0 : Bs) (v1 : Int) (v2 : Int) (v3 : Int) (v4 : UInt8) : Option ((Unit) ⊕ (Int × Int)) :=
  if (0 : Int) ≤ w64 (7 * v3) then if decide ((n8 v4) < 128) then some (.inr (w64 (bitI .or .u64 v2 (shlI .u64 (wu64 (n8 (b8 (bitI .and .u8 (n8 v4) 127)))) (w64 (7 * v3)))), w64 ((w64 (v1 + v3)) + 1))) else rec (v0, v1, (bitI .or .u64 v2 (shlI .u64 (wu64 (n8 (b8 (bitI .and .u8 (n8 v4) 127)))) (w64 (7 * v3)))), (w64 (v3 + 1))) else none

def impl_UvarGetl1 : Nat → Bs → Int → Int → Int → Option ((Unit) ⊕ (Int × Int))
  | 0, _, _, _, _ => none
  | k + 1, v0, v1, v2, v3 =>
    if decide (v3 < 10) then if decide (v3 < (w64 ((v0.length : Int) - v1))) then if 0 ≤ (w64 (v1 + v3)) ∧ (w64 (v1 + v3)) < (v0.length : Int) then if v3 == 9 then if decide ((n8 (v0.getD ((w64 (v1 + v3)).toNat) 0)) > 1) then some (.inl ()) else impl_UvarGetj2 k (fun (i : Bs × Int × Int × Int) => impl_UvarGetl1 k i.1 i.2.1 i.2.2.1 i.2.2.2) v0 v1 v2 v3 (v0.getD ((w64 (v1 + v3)).toNat) 0) else impl_UvarGetj2 k (fun (i : Bs × Int × Int × Int) => impl_UvarGetl1 k i.1 i.2.1 i.2.2.1 i.2.2.2) v0 v1 v2 v3 (v0.getD ((w64 (v1 + v3)).toNat) 0) else none else some (.inl ()) else some (.inl ())

def impl_UvarGet (k : Nat) (x0 : Bs) (x1 : Int) : Option (Int × Int × Bool) :=
  if decide (x1 < 0) then some (0, 0, false) else (impl_UvarGetl1 k x0 x1 0 0).bind (Sum.elim (fun z804 => some (0, 0, false)) (fun z804 => some (z804.1, z804.2, true)))


def impl_treeReader_uvar (k : Nat) (x0 : GTreeReader) : Option (Int × Bs × Int × Int × (List GNode)) :=
  (impl_UvarGet k x0.1 x0.2.1).bind fun y750_8 => if x0.2.2.2 != 0 then (impl_treeReader_fail k x0 1).bind fun y752_1 => some (0, y752_1.1, y752_1.2.1, y752_1.2.2.1, y752_1.2.2.2) else if !y750_8.2.2 then (impl_treeReader_fail k x0 1).bind fun y752_1 => some (0, y752_1.1, y752_1.2.1, y752_1.2.2.1, y752_1.2.2.2) else some (y750_8.1, x0.1, y750_8.2.1, x0.2.2.2, x0.2.2.1)


def impl_Zag (k : Nat) (x0 : Int) : Option (Int) :=
  some (bitI .xor .i64 (w64 (shrI .u64 (wu64 x0) 1)) (w64 (0 - (bitI .and .i64 x0 1))))


def impl_isInt32 (k : Nat) (x0 : Int) : Option (Bool) :=
  (impl_within k x0 (-2147483648) 2147483647).bind fun y820_1 => some (y820_1)


def impl_treeReader_textj1 (k : Nat) (v0 : Int) (v1 : Bs) (v2 : Int) (v3 : Int) (v4 : (List GNode)) : Option (Bs × Bs × Int × Int × (List GNode)) :=
  if v3 != 0 then some ([], v1, v2, v3, v4) else if 0 ≤ (w64 ((w64 (v2 + v0)) - v0)) ∧ (w64 ((w64 (v2 + v0)) - v0)) ≤ (w64 (v2 + v0)) ∧ (w64 (v2 + v0)) ≤ (v1.length : Int) then some ((v1.take ((w64 (v2 + v0)).toNat)).drop ((w64 ((w64 (v2 + v0)) - v0)).toNat), v1, w64 (v2 + v0), v3, v4) else none

def impl_treeReader_textj2 (k : Nat) (v0 : Int) (v1 : Bs) (v2 : Int) (v3 : Int) (v4 : (List GNode)) : Option (Bs × Bs × Int × Int × (List GNode)) :=
  if v3 == 0 then if decide (v0 > (w64 ((v1.length : Int) - v2))) then (impl_treeReader_fail k (v1, v2, v4, v3) 1).bind fun y832_1 => impl_treeReader_textj1 k v0 y832_1.1 y832_1.2.1 y832_1.2.2.1 y832_1.2.2.2 else impl_treeReader_textj1 k v0 v1 v2 v3 v4 else impl_treeReader_textj1 k v0 v1 v2 v3 v4

def impl_treeReader_text (k : Nat) (x0 : GTreeReader) : Option (Bs × Bs × Int × Int × (List GNode)) :=
  (impl_treeReader_uvar k x0).bind fun y825_1 => if y825_1.2.2.2.1 == 0 then (impl_within k y825_1.1 0 300).bind fun y826_7 => if !y826_7 then (impl_treeReader_fail k (y825_1.2.1, y825_1.2.2.1, y825_1.2.2.2.2, y825_1.2.2.2.1) 4).bind fun y827_1 => impl_treeReader_textj2 k y825_1.1 y827_1.1 y827_1.2.1 y827_1.2.2.1 y827_1.2.2.2 else impl_treeReader_textj2 k y825_1.1 y825_1.2.1 y825_1.2.2.1 y825_1.2.2.2.1 y825_1.2.2.2.2 else impl_treeReader_textj2 k y825_1.1 y825_1.2.1 y825_1.2.2.1 y825_1.2.2.2.1 y825_1.2.2.2.2


def impl_treeReader_one (k : Nat) (x0 : GTreeReader) : Option (Int × Bs × Int × Int × (List GNode)) :=
  if x0.2.2.2 != 0 then (impl_treeReader_fail k x0 1).bind fun y899_1 => some (0, y899_1.1, y899_1.2.1, y899_1.2.2.1, y899_1.2.2.2) else if decide (x0.2.1 ≥ (x0.1.length : Int)) then (impl_treeReader_fail k x0 1).bind fun y899_1 => some (0, y899_1.1, y899_1.2.1, y899_1.2.2.1, y899_1.2.2.2) else if 0 ≤ (w64 ((w64 (x0.2.1 + 1)) - 1)) ∧ (w64 ((w64 (x0.2.1 + 1)) - 1)) < (x0.1.length : Int) then some (w64 (n8 (x0.1.getD ((w64 ((w64 (x0.2.1 + 1)) - 1)).toNat) 0)), x0.1, w64 (x0.2.1 + 1), x0.2.2.2, x0.2.2.1) else none


def impl_isTypej1 (k : Nat) (v0 : Bool) (v1 : Int) (v2 : Bool) : Option (Bool) :=
  if v2 then some (!v0) else if v1 == 5 then some (true) else if v1 == 6 then some (true) else if v1 == 8 then some (true) else if v1 == 9 then some (true) else if v1 == 12 then some (true) else some (false)

def impl_isType (k : Nat) (x0 : Int) (x1 : Bool) : Option (Bool) :=
  if x0 == 1 then impl_isTypej1 k x1 x0 (x0 == 1) else impl_isTypej1 k x1 x0 (x0 == 2)


abbrev Rimpl_treeReader_node := GTreeReader → Int → Int → Int → Option (Bs × Int × Int × (List GNode))
abbrev Rimpl_treeReader_parts := GTreeReader → Int → Int → Option (Bs × Int × Int × (List GNode))
abbrev Rimpl_treeReader_fields := GTreeReader → Int → Int → Option (Bs × Int × Int × (List GNode))
def impl_treeReader_nodej1 (rimpl_treeReader_node : Rimpl_treeReader_node) (rimpl_treeReader_parts : Rimpl_treeReader_parts) (rimpl_treeReader_fields : Rimpl_treeReader_fields) (k : Nat) (v0 : Int) (v1 : Int) (v2 : Bs) (v3 : Int) (v4 : Int) (v5 : (List GNode)) : Option (Bs × Int × Int × (List GNode)) :=
  if 0 ≤ v0 ∧ v0 < (v5.length : Int) then some (v2, v3, v4, v5.set v0.toNat ((v5.getD v0.toNat (0, 0, 0, [], 0)).1, ((v5.getD v0.toNat (0, 0, 0, [], 0)).2).1, v1, (((v5.getD v0.toNat (0, 0, 0, [], 0)).2).2).2)) else none

def impl_treeReader_nodej2 (rimpl_treeReader_node : Rimpl_treeReader_node) (rimpl_treeReader_parts : Rimpl_treeReader_parts) (rimpl_treeReader_fields : Rimpl_treeReader_fields) (k : Nat) (v0 : Int) (v1 : Int) (v2 : Int) (v3 : Int) (v4 : Bool) (v5 : Bs) (v6 : Int) (v7 : Int) (v8 : (List GNode)) : Option (Bs × Int × Int × (List GNode)) :=
  if v4 then (impl_treeReader_uvar k (v5, v6, v8, v7)).bind fun y695_1 => (impl_Zag k y695_1.1).bind fun y695_2 => if v0 == 5 then if y695_1.2.2.2.1 == 0 then (impl_isInt32 k y695_2).bind fun y696_11 => if !y696_11 then (impl_treeReader_fail k (y695_1.2.1, y695_1.2.2.1, y695_1.2.2.2.2, y695_1.2.2.2.1) 3).bind fun y697_1 => impl_treeReader_nodej1 rimpl_treeReader_node rimpl_treeReader_parts rimpl_treeReader_fields k v2 y695_2 y697_1.1 y697_1.2.1 y697_1.2.2.1 y697_1.2.2.2 else impl_treeReader_nodej1 rimpl_treeReader_node rimpl_treeReader_parts rimpl_treeReader_fields k v2 y695_2 y695_1.2.1 y695_1.2.2.1 y695_1.2.2.2.1 y695_1.2.2.2.2 else impl_treeReader_nodej1 rimpl_treeReader_node rimpl_treeReader_parts rimpl_treeReader_fields k v2 y695_2 y695_1.2.1 y695_1.2.2.1 y695_1.2.2.2.1 y695_1.2.2.2.2 else impl_treeReader_nodej1 rimpl_treeReader_node rimpl_treeReader_parts rimpl_treeReader_fields k v2 y695_2 y695_1.2.1 y695_1.2.2.1 y695_1.2.2.2.1 y695_1.2.2.2.2 else if v3 == 8 then (impl_treeReader_text k (v5, v6, v8, v7)).bind fun y705_6 => if 0 ≤ v2 ∧ v2 < (y705_6.2.2.2.2.length : Int) then some (y705_6.2.1, y705_6.2.2.1, y705_6.2.2.2.1, y705_6.2.2.2.2.set v2.toNat ((y705_6.2.2.2.2.getD v2.toNat (0, 0, 0, [], 0)).1, ((y705_6.2.2.2.2.getD v2.toNat (0, 0, 0, [], 0)).2).1, (((y705_6.2.2.2.2.getD v2.toNat (0, 0, 0, [], 0)).2).2).1, y705_6.1, ((((y705_6.2.2.2.2.getD v2.toNat (0, 0, 0, [], 0)).2).2).2).2)) else none else if v3 == 9 then (rimpl_treeReader_parts (v5, v6, v8, v7) v2 v1).bind fun y707_3 => some (y707_3.1, y707_3.2.1, y707_3.2.2.1, y707_3.2.2.2) else if v3 == 12 then (rimpl_treeReader_fields (v5, v6, v8, v7) v2 v1).bind fun y709_3 => some (y709_3.1, y709_3.2.1, y709_3.2.2.1, y709_3.2.2.2) else some (v5, v6, v7, v8)

def impl_treeReader_nodeb (rimpl_treeReader_node : Rimpl_treeReader_node) (rimpl_treeReader_parts : Rimpl_treeReader_parts) (rimpl_treeReader_fields : Rimpl_treeReader_fields) (k : Nat) (x0 : GTreeReader) (x1 : Int) (x2 : Int) (x3 : Int) : Option (Bs × Int × Int × (List GNode)) :=
  (impl_treeReader_begin k x0 (x1, x2, 0, [], 0) x3).bind fun y683_5 => if y683_5.2.2.2.1 != 0 then some (y683_5.2.1, y683_5.2.2.1, y683_5.2.2.2.1, y683_5.2.2.2.2) else if x1 == 5 then impl_treeReader_nodej2 rimpl_treeReader_node rimpl_treeReader_parts rimpl_treeReader_fields k x1 x3 y683_5.1 x1 (x1 == 5) y683_5.2.1 y683_5.2.2.1 y683_5.2.2.2.1 y683_5.2.2.2.2 else impl_treeReader_nodej2 rimpl_treeReader_node rimpl_treeReader_parts rimpl_treeReader_fields k x1 x3 y683_5.1 x1 (x1 == 6) y683_5.2.1 y683_5.2.2.1 y683_5.2.2.2.1 y683_5.2.2.2.2

def impl_treeReader_partsl1 (rimpl_treeReader_node : Rimpl_treeReader_node) (rimpl_treeReader_parts : Rimpl_treeReader_parts) (rimpl_treeReader_fields : Rimpl_treeReader_fields) : Nat → Int → Int → Int → Int → Bs → Int → Int → (List GNode) → Option (Bs × Int × Int × (List GNode))
  | 0, _, _, _, _, _, _, _, _ => none
  | k + 1, v0, v1, v2, v3, v4, v5, v6, v7 =>
    if decide (v3 < v1) then if v6 == 0 then (rimpl_treeReader_node (v4, v5, v7, v6) v2 0 (w64 (v0 + 1))).bind fun y882_4 => impl_treeReader_partsl1 rimpl_treeReader_node rimpl_treeReader_parts rimpl_treeReader_fields k v0 v1 v2 (w64 (v3 + 1)) y882_4.1 y882_4.2.1 y882_4.2.2.1 y882_4.2.2.2 else some ((v4, v5, v6, v7)) else some ((v4, v5, v6, v7))

def impl_treeReader_partsj2 (rimpl_treeReader_node : Rimpl_treeReader_node) (rimpl_treeReader_parts : Rimpl_treeReader_parts) (rimpl_treeReader_fields : Rimpl_treeReader_fields) (k : Nat) (v0 : Int) (v1 : Int) (v2 : Int) (v3 : Int) (v4 : Bs) (v5 : Int) (v6 : Int) (v7 : (List GNode)) : Option (Bs × Int × Int × (List GNode)) :=
  if 0 ≤ v0 ∧ v0 < (v7.length : Int) then if 0 ≤ v0 ∧ v0 < ((v7.set v0.toNat ((v7.getD v0.toNat (0, 0, 0, [], 0)).1, ((v7.getD v0.toNat (0, 0, 0, [], 0)).2).1, (((v7.getD v0.toNat (0, 0, 0, [], 0)).2).2).1, ((((v7.getD v0.toNat (0, 0, 0, [], 0)).2).2).2).1, v2)).length : Int) then (impl_treeReader_partsl1 rimpl_treeReader_node rimpl_treeReader_parts rimpl_treeReader_fields k v1 v2 v3 0 v4 v5 v6 ((v7.set v0.toNat ((v7.getD v0.toNat (0, 0, 0, [], 0)).1, ((v7.getD v0.toNat (0, 0, 0, [], 0)).2).1, (((v7.getD v0.toNat (0, 0, 0, [], 0)).2).2).1, ((((v7.getD v0.toNat (0, 0, 0, [], 0)).2).2).2).1, v2)).set v0.toNat (((v7.set v0.toNat ((v7.getD v0.toNat (0, 0, 0, [], 0)).1, ((v7.getD v0.toNat (0, 0, 0, [], 0)).2).1, (((v7.getD v0.toNat (0, 0, 0, [], 0)).2).2).1, ((((v7.getD v0.toNat (0, 0, 0, [], 0)).2).2).2).1, v2)).getD v0.toNat (0, 0, 0, [], 0)).1, (((v7.set v0.toNat ((v7.getD v0.toNat (0, 0, 0, [], 0)).1, ((v7.getD v0.toNat (0, 0, 0, [], 0)).2).1, (((v7.getD v0.toNat (0, 0, 0, [], 0)).2).2).1, ((((v7.getD v0.toNat (0, 0, 0, [], 0)).2).2).2).1, v2)).getD v0.toNat (0, 0, 0, [], 0)).2).1, v3, ((((v7.set v0.toNat ((v7.getD v0.toNat (0, 0, 0, [], 0)).1, ((v7.getD v0.toNat (0, 0, 0, [], 0)).2).1, (((v7.getD v0.toNat (0, 0, 0, [], 0)).2).2).1, ((((v7.getD v0.toNat (0, 0, 0, [], 0)).2).2).2).1, v2)).getD v0.toNat (0, 0, 0, [], 0)).2).2).2))).bind fun z887 => some (z887.1, z887.2.1, z887.2.2.1, z887.2.2.2) else none else none

def impl_treeReader_partsj3 (rimpl_treeReader_node : Rimpl_treeReader_node) (rimpl_treeReader_parts : Rimpl_treeReader_parts) (rimpl_treeReader_fields : Rimpl_treeReader_fields) (k : Nat) (v0 : Int) (v1 : Int) (v2 : Int) (v3 : Int) (v4 : Bs) (v5 : Int) (v6 : Int) (v7 : (List GNode)) : Option (Bs × Int × Int × (List GNode)) :=
  (impl_within k v2 0 1500).bind fun y870_1 => if !y870_1 then (impl_treeReader_fail k (v4, v5, v7, v6) 4).bind fun y871_1 => impl_treeReader_partsj2 rimpl_treeReader_node rimpl_treeReader_parts rimpl_treeReader_fields k v0 v1 v2 v3 y871_1.1 y871_1.2.1 y871_1.2.2.1 y871_1.2.2.2 else impl_treeReader_partsj2 rimpl_treeReader_node rimpl_treeReader_parts rimpl_treeReader_fields k v0 v1 v2 v3 v4 v5 v6 v7

def impl_treeReader_partsj4 (rimpl_treeReader_node : Rimpl_treeReader_node) (rimpl_treeReader_parts : Rimpl_treeReader_parts) (rimpl_treeReader_fields : Rimpl_treeReader_fields) (k : Nat) (v0 : Int) (v1 : Int) (v2 : Int) (v3 : Int) (v4 : Bs) (v5 : Int) (v6 : Int) (v7 : (List GNode)) : Option (Bs × Int × Int × (List GNode)) :=
  if v6 != 0 then some (v4, v5, v6, v7) else if v2 == 0 then some (v4, v5, v6, v7) else (impl_isType k v3 true).bind fun y865_1 => if !y865_1 then (impl_treeReader_fail k (v4, v5, v7, v6) 2).bind fun y866_1 => impl_treeReader_partsj3 rimpl_treeReader_node rimpl_treeReader_parts rimpl_treeReader_fields k v0 v1 v2 v3 y866_1.1 y866_1.2.1 y866_1.2.2.1 y866_1.2.2.2 else impl_treeReader_partsj3 rimpl_treeReader_node rimpl_treeReader_parts rimpl_treeReader_fields k v0 v1 v2 v3 v4 v5 v6 v7

def impl_treeReader_partsb (rimpl_treeReader_node : Rimpl_treeReader_node) (rimpl_treeReader_parts : Rimpl_treeReader_parts) (rimpl_treeReader_fields : Rimpl_treeReader_fields) (k : Nat) (x0 : GTreeReader) (x1 : Int) (x2 : Int) : Option (Bs × Int × Int × (List GNode)) :=
  (impl_treeReader_one k x0).bind fun y853_1 => if (w64 (y853_1.1.tdiv 16)) == 15 then (impl_treeReader_uvar k (y853_1.2.1, y853_1.2.2.1, y853_1.2.2.2.2, y853_1.2.2.2.1)).bind fun y856_1 => impl_treeReader_partsj4 rimpl_treeReader_node rimpl_treeReader_parts rimpl_treeReader_fields k x1 x2 y856_1.1 (y853_1.1.tmod 16) y856_1.2.1 y856_1.2.2.1 y856_1.2.2.2.1 y856_1.2.2.2.2 else impl_treeReader_partsj4 rimpl_treeReader_node rimpl_treeReader_parts rimpl_treeReader_fields k x1 x2 (w64 (y853_1.1.tdiv 16)) (y853_1.1.tmod 16) y853_1.2.1 y853_1.2.2.1 y853_1.2.2.2.1 y853_1.2.2.2.2

def impl_treeReader_fieldsj2 (rimpl_treeReader_node : Rimpl_treeReader_node) (rimpl_treeReader_parts : Rimpl_treeReader_parts) (rimpl_treeReader_fields : Rimpl_treeReader_fields) (k : Nat) (rec : Int × Int × Int × Bs × Int × Int × (List GNode) → Option (Bs × Int × Int × (List GNode))) (v0 : Int) (v1 : Int) (v2 : Int) (v3 : Int) (v4 : Bs) (v5 : Int) (v6 : Int) (v7 : (List GNode)) : Option (Bs × Int × Int × (List GNode)) :=
  if v6 != 0 then some ((v4, v5, v6, v7)) else if 0 ≤ v0 ∧ v0 < (v7.length : Int) then (rimpl_treeReader_node (v4, v5, v7.set v0.toNat ((v7.getD v0.toNat (0, 0, 0, [], 0)).1, ((v7.getD v0.toNat (0, 0, 0, [], 0)).2).1, (((v7.getD v0.toNat (0, 0, 0, [], 0)).2).2).1, ((((v7.getD v0.toNat (0, 0, 0, [], 0)).2).2).2).1, w64 ((((((v7.getD v0.toNat (0, 0, 0, [], 0)).2).2).2).2) + 1)), v6) v2 v3 (w64 (v1 + 1))).bind fun y991_5 => rec (v0, v1, v3, y991_5.1, y991_5.2.1, y991_5.2.2.1, y991_5.2.2.2) else none

def impl_treeReader_fieldsj3 (rimpl_treeReader_node : Rimpl_treeReader_node) (rimpl_treeReader_parts : Rimpl_treeReader_parts) (rimpl_treeReader_fields : Rimpl_treeReader_fields) (k : Nat) (rec : Int × Int × Int × Bs × Int × Int × (List GNode) → Option (Bs × Int × Int × (List GNode))) (v0 : Int) (v1 : Int) (v2 : Int) (v3 : Int) (v4 : Int) (v5 : Bs) (v6 : Int) (v7 : Int) (v8 : (List GNode)) : Option (Bs × Int × Int × (List GNode)) :=
  if v7 == 0 then if decide (v4 ≤ v2) then (impl_treeReader_fail k (v5, v6, v8, v7) 5).bind fun y980_1 => impl_treeReader_fieldsj2 rimpl_treeReader_node rimpl_treeReader_parts rimpl_treeReader_fields k rec v0 v1 v3 v4 y980_1.1 y980_1.2.1 y980_1.2.2.1 y980_1.2.2.2 else impl_treeReader_fieldsj2 rimpl_treeReader_node rimpl_treeReader_parts rimpl_treeReader_fields k rec v0 v1 v3 v4 v5 v6 v7 v8 else impl_treeReader_fieldsj2 rimpl_treeReader_node rimpl_treeReader_parts rimpl_treeReader_fields k rec v0 v1 v3 v4 v5 v6 v7 v8

def impl_treeReader_fieldsj4 (rimpl_treeReader_node : Rimpl_treeReader_node) (rimpl_treeReader_parts : Rimpl_treeReader_parts) (rimpl_treeReader_fields : Rimpl_treeReader_fields) (k : Nat) (rec : Int × Int × Int × Bs × Int × Int × (List GNode) → Option (Bs × Int × Int × (List GNode))) (v0 : Int) (v1 : Int) (v2 : Int) (v3 : Int) (v4 : Int) (v5 : Bs) (v6 : Int) (v7 : Int) (v8 : (List GNode)) : Option (Bs × Int × Int × (List GNode)) :=
  if v7 == 0 then (impl_within k v4 1 1000).bind fun y974_7 => if !y974_7 then (impl_treeReader_fail k (v5, v6, v8, v7) 3).bind fun y975_1 => impl_treeReader_fieldsj3 rimpl_treeReader_node rimpl_treeReader_parts rimpl_treeReader_fields k rec v0 v1 v2 v3 v4 y975_1.1 y975_1.2.1 y975_1.2.2.1 y975_1.2.2.2 else impl_treeReader_fieldsj3 rimpl_treeReader_node rimpl_treeReader_parts rimpl_treeReader_fields k rec v0 v1 v2 v3 v4 v5 v6 v7 v8 else impl_treeReader_fieldsj3 rimpl_treeReader_node rimpl_treeReader_parts rimpl_treeReader_fields k rec v0 v1 v2 v3 v4 v5 v6 v7 v8

def impl_treeReader_fieldsj5 (rimpl_treeReader_node : Rimpl_treeReader_node) (rimpl_treeReader_parts : Rimpl_treeReader_parts) (rimpl_treeReader_fields : Rimpl_treeReader_fields) (k : Nat) (rec : Int × Int × Int × Bs × Int × Int × (List GNode) → Option (Bs × Int × Int × (List GNode))) (v0 : Int) (v1 : Int) (v2 : Int) (v3 : Int) (v4 : Int) (v5 : Int) (v6 : Bs) (v7 : Int) (v8 : Int) (v9 : (List GNode)) : Option (Bs × Int × Int × (List GNode)) :=
  if decide (v3 < 16) then (impl_treeReader_uvar k (v6, v7, v9, v8)).bind fun y970_1 => (impl_Zag k y970_1.1).bind fun y970_2 => impl_treeReader_fieldsj4 rimpl_treeReader_node rimpl_treeReader_parts rimpl_treeReader_fields k rec v0 v1 v2 v4 y970_2 y970_1.2.1 y970_1.2.2.1 y970_1.2.2.2.1 y970_1.2.2.2.2 else impl_treeReader_fieldsj4 rimpl_treeReader_node rimpl_treeReader_parts rimpl_treeReader_fields k rec v0 v1 v2 v4 v5 v6 v7 v8 v9

def impl_treeReader_fieldsl1 (rimpl_treeReader_node : Rimpl_treeReader_node) (rimpl_treeReader_parts : Rimpl_treeReader_parts) (rimpl_treeReader_fields : Rimpl_treeReader_fields) : Nat → Int → Int → Int → Bs → Int → Int → (List GNode) → Option (Bs × Int × Int × (List GNode))
  | 0, _, _, _, _, _, _, _ => none
  | k + 1, v0, v1, v2, v3, v4, v5, v6 =>
    (impl_treeReader_one k (v3, v4, v6, v5)).bind fun y957_1 => if y957_1.2.2.2.1 != 0 then some ((y957_1.2.1, y957_1.2.2.1, y957_1.2.2.2.1, y957_1.2.2.2.2)) else if y957_1.1 == 0 then some ((y957_1.2.1, y957_1.2.2.1, y957_1.2.2.2.1, y957_1.2.2.2.2)) else (impl_isType k (y957_1.1.tmod 16) false).bind fun y964_1 => if !y964_1 then (impl_treeReader_fail k (y957_1.2.1, y957_1.2.2.1, y957_1.2.2.2.2, y957_1.2.2.2.1) 2).bind fun y965_1 => impl_treeReader_fieldsj5 rimpl_treeReader_node rimpl_treeReader_parts rimpl_treeReader_fields k (fun (i : Int × Int × Int × Bs × Int × Int × (List GNode)) => impl_treeReader_fieldsl1 rimpl_treeReader_node rimpl_treeReader_parts rimpl_treeReader_fields k i.1 i.2.1 i.2.2.1 i.2.2.2.1 i.2.2.2.2.1 i.2.2.2.2.2.1 i.2.2.2.2.2.2) v0 v1 v2 y957_1.1 (y957_1.1.tmod 16) (w64 (v2 + (w64 (y957_1.1.tdiv 16)))) y965_1.1 y965_1.2.1 y965_1.2.2.1 y965_1.2.2.2 else impl_treeReader_fieldsj5 rimpl_treeReader_node rimpl_treeReader_parts rimpl_treeReader_fields k (fun (i : Int × Int × Int × Bs × Int × Int × (List GNode)) => impl_treeReader_fieldsl1 rimpl_treeReader_node rimpl_treeReader_parts rimpl_treeReader_fields k i.1 i.2.1 i.2.2.1 i.2.2.2.1 i.2.2.2.2.1 i.2.2.2.2.2.1 i.2.2.2.2.2.2) v0 v1 v2 y957_1.1 (y957_1.1.tmod 16) (w64 (v2 + (w64 (y957_1.1.tdiv 16)))) y957_1.2.1 y957_1.2.2.1 y957_1.2.2.2.1 y957_1.2.2.2.2

def impl_treeReader_fieldsb (rimpl_treeReader_node : Rimpl_treeReader_node) (rimpl_treeReader_parts : Rimpl_treeReader_parts) (rimpl_treeReader_fields : Rimpl_treeReader_fields) (k : Nat) (x0 : GTreeReader) (x1 : Int) (x2 : Int) : Option (Bs × Int × Int × (List GNode)) :=
  (impl_treeReader_fieldsl1 rimpl_treeReader_node rimpl_treeReader_parts rimpl_treeReader_fields k x1 x2 0 x0.1 x0.2.1 x0.2.2.2 x0.2.2.1).bind fun z1003 => some (z1003.1, z1003.2.1, z1003.2.2.1, z1003.2.2.2)

mutual
def impl_treeReader_node : Nat → Rimpl_treeReader_node
  | 0, _, _, _, _ => none
  | k + 1, x0, x1, x2, x3 => impl_treeReader_nodeb (impl_treeReader_node k) (impl_treeReader_parts k) (impl_treeReader_fields k) k x0 x1 x2 x3
def impl_treeReader_parts : Nat → Rimpl_treeReader_parts
  | 0, _, _, _ => none
  | k + 1, x0, x1, x2 => impl_treeReader_partsb (impl_treeReader_node k) (impl_treeReader_parts k) (impl_treeReader_fields k) k x0 x1 x2
def impl_treeReader_fields : Nat → Rimpl_treeReader_fields
  | 0, _, _, _ => none
  | k + 1, x0, x1, x2 => impl_treeReader_fieldsb (impl_treeReader_node k) (impl_treeReader_parts k) (impl_treeReader_fields k) k x0 x1 x2
end

def impl_TreeRead (k : Nat) (x0 : Bs) (x1 : Int) : Option (Int × Int × (List GNode)) :=
  (impl_within k x1 0 (w64 ((x0.length : Int) - 1))).bind fun y654_4 => if !y654_4 then some (0, 1, []) else (impl_treeReader_node k (x0, x1, [], 0) 12 0 1).bind fun y662_1 => if y662_1.2.2.1 != 0 then some (0, y662_1.2.2.1, []) else some (y662_1.2.1, 0, y662_1.2.2.2)


def spec_UvarGetj2 (k : Nat) (rec : Bs × Int × Int × Int → Option ((Unit) ⊕ (Int × Int × Bool))) (v0 : Int) (v1 : Int) (v2 : Int) : Option ((Unit) ⊕ (Int × Int × Bool)) :=
  some (.inr (v1, w64 ((w64 (v0 + v2)) + 1), true))

def spec_UvarGetl1 : Nat → Bs → Int → Int → Int → Option ((Unit) ⊕ (Int × Int × Bool))
  | 0, _, _, _, _ => none
  | k + 1, v0, v1, v2, v3 =>
    if decide (v3 < 10) then if decide ((w64 (v1 + v3)) < (v0.length : Int)) then if 0 ≤ (w64 (v1 + v3)) ∧ (w64 (v1 + v3)) < (v0.length : Int) then if (0 : Int) ≤ w64 (7 * v3) then if decide ((w64 (n8 (v0.getD ((w64 (v1 + v3)).toNat) 0))) < 128) then if v3 == 9 then if decide ((w64 (n8 (v0.getD ((w64 (v1 + v3)).toNat) 0))) > 1) then some (.inr (0, 0, false)) else spec_UvarGetj2 k (fun (i : Bs × Int × Int × Int) => spec_UvarGetl1 k i.1 i.2.1 i.2.2.1 i.2.2.2) v1 (bitI .or .i64 v2 (shlI .i64 (bitI .and .i64 (w64 (n8 (v0.getD ((w64 (v1 + v3)).toNat) 0))) 127) (w64 (7 * v3)))) v3 else spec_UvarGetj2 k (fun (i : Bs × Int × Int × Int) => spec_UvarGetl1 k i.1 i.2.1 i.2.2.1 i.2.2.2) v1 (bitI .or .i64 v2 (shlI .i64 (bitI .and .i64 (w64 (n8 (v0.getD ((w64 (v1 + v3)).toNat) 0))) 127) (w64 (7 * v3)))) v3 else spec_UvarGetl1 k v0 v1 (bitI .or .i64 v2 (shlI .i64 (bitI .and .i64 (w64 (n8 (v0.getD ((w64 (v1 + v3)).toNat) 0))) 127) (w64 (7 * v3)))) (w64 (v3 + 1)) else none else none else some (.inl ()) else some (.inl ())

def spec_UvarGet (k : Nat) (x0 : Bs) (x1 : Int) : Option (Int × Int × Bool) :=
  if decide (x1 < 0) then some (0, 0, false) else if decide (x1 ≥ (x0.length : Int)) then some (0, 0, false) else (spec_UvarGetl1 k x0 x1 0 0).bind (Sum.elim (fun z1212 => some (0, 0, false)) (fun z1212 => some (z1212.1, z1212.2.1, z1212.2.2)))


def spec_Zag (k : Nat) (x0 : Int) : Option (Int) :=
  if (bitI .and .i64 x0 1) == 1 then (spec_l2Down k x0 1).bind fun y1224_1 => some (bitI .xor .i64 (-1) y1224_1) else (spec_l2Down k x0 1).bind fun y1230_1 => some (y1230_1)


def spec_ZigGet (k : Nat) (x0 : Bs) (x1 : Int) : Option (Int × Int × Bool) :=
  (spec_UvarGet k x0 x1).bind fun y1160_2 => if !y1160_2.2.2 then some (0, 0, false) else (spec_Zag k y1160_2.1).bind fun y1168_1 => some (y1168_1, y1160_2.2.1, true)


def spec_l4Textj1 (k : Nat) (v0 : Bs) (v1 : Int) (v2 : Int) (v3 : Bool) : Option (Bs × Int × Int) :=
  if v3 then some ([], 0, 4) else if decide ((w64 ((v0.length : Int) - v2)) < v1) then some ([], 0, 1) else if 0 ≤ v2 ∧ v2 ≤ (w64 (v2 + v1)) ∧ (w64 (v2 + v1)) ≤ (v0.length : Int) then some ((v0.take ((w64 (v2 + v1)).toNat)).drop v2.toNat, w64 (v2 + v1), 0) else none

def spec_l4Text (k : Nat) (x0 : Bs) (x1 : Int) : Option (Bs × Int × Int) :=
  (spec_UvarGet k x0 x1).bind fun y1236_2 => if !y1236_2.2.2 then some ([], 0, 1) else if decide (y1236_2.1 < 0) then spec_l4Textj1 k x0 y1236_2.1 y1236_2.2.1 true else spec_l4Textj1 k x0 y1236_2.1 y1236_2.2.1 (decide (y1236_2.1 > 300))


def spec_l4Manyj1 (k : Nat) (v0 : Int) (v1 : Int) (v2 : Int) : Option (Int × Int × Int × Int) :=
  if v1 == 0 then some (0, 0, v0, 0) else (spec_l4Item k v2).bind fun y1294_1 => if !y1294_1 then some (0, 0, 0, 2) else if decide (v1 < 0) then some (0, 0, 0, 4) else if decide (v1 > 1500) then some (0, 0, 0, 4) else some (v1, v2, v0, 0)

def spec_l4Many (k : Nat) (x0 : Bs) (x1 : Int) : Option (Int × Int × Int × Int) :=
  if decide (x1 ≥ (x0.length : Int)) then some (0, 0, 0, 1) else if 0 ≤ x1 ∧ x1 < (x0.length : Int) then if (w64 ((w64 (n8 (x0.getD x1.toNat 0))).tdiv 16)) == 15 then (spec_UvarGet k x0 (w64 (x1 + 1))).bind fun y1274_2 => if !y1274_2.2.2 then some (0, 0, 0, 1) else spec_l4Manyj1 k y1274_2.2.1 y1274_2.1 ((w64 (n8 (x0.getD x1.toNat 0))).tmod 16) else spec_l4Manyj1 k (w64 (x1 + 1)) (w64 ((w64 (n8 (x0.getD x1.toNat 0))).tdiv 16)) ((w64 (n8 (x0.getD x1.toNat 0))).tmod 16) else none


def spec_l4Headj1 (k : Nat) (v0 : Int) (v1 : Int) (v2 : Int) (v3 : Int) : Option (Int × Int × Int × Int) :=
  (spec_l1In k v3 1 1000).bind fun y1361_1 => if !y1361_1 then some (0, 0, 0, 3) else if decide (v3 ≤ v1) then some (0, 0, 0, 5) else some (v2, v3, v0, 0)

def spec_l4Head (k : Nat) (x0 : Bs) (x1 : Int) (x2 : Int) : Option (Int × Int × Int × Int) :=
  if decide (x1 ≥ (x0.length : Int)) then some (0, 0, 0, 1) else if 0 ≤ x1 ∧ x1 < (x0.length : Int) then if (n8 (x0.getD x1.toNat 0)) == 0 then some (0, 0, w64 (x1 + 1), 0) else (spec_l4Kind k ((w64 (n8 (x0.getD x1.toNat 0))).tmod 16)).bind fun y1336_1 => if !y1336_1 then some (0, 0, 0, 2) else if (w64 ((w64 (n8 (x0.getD x1.toNat 0))).tdiv 16)) == 0 then (spec_ZigGet k x0 (w64 (x1 + 1))).bind fun y1345_2 => if !y1345_2.2.2 then some (0, 0, 0, 1) else spec_l4Headj1 k y1345_2.2.1 x2 ((w64 (n8 (x0.getD x1.toNat 0))).tmod 16) y1345_2.1 else spec_l4Headj1 k (w64 (x1 + 1)) x2 ((w64 (n8 (x0.getD x1.toNat 0))).tmod 16) (w64 (x2 + (w64 ((w64 (n8 (x0.getD x1.toNat 0))).tdiv 16)))) else none


abbrev Rspec_l4Read := Bs → Int → Int → Int → Int → (List GNode) → Option (Int × Int × (List GNode))
def spec_l4Readj1 (rspec_l4Read : Rspec_l4Read) (k : Nat) (v0 : Int) (v1 : Int) (v2 : Int) (v3 : (List GNode)) : Option (Int × Int × (List GNode)) :=
  if 0 ≤ v0 ∧ v0 < (v3.length : Int) then some (v2, 0, v3.set v0.toNat ((v3.getD v0.toNat (0, 0, 0, [], 0)).1, ((v3.getD v0.toNat (0, 0, 0, [], 0)).2).1, v1, (((v3.getD v0.toNat (0, 0, 0, [], 0)).2).2).2)) else none

def spec_l4Readl2 (rspec_l4Read : Rspec_l4Read) : Nat → Bs → Int → Int → Int → Int → Int → Int → (List GNode) → Option (Int × Int × (List GNode))
  | 0, _, _, _, _, _, _, _, _ => none
  | k + 1, v0, v1, v2, v3, v4, v5, v6, v7 =>
    if decide (v6 < v2) then if v5 == 0 then (rspec_l4Read v0 v4 v3 0 (w64 (v1 + 1)) v7).bind fun y1086_6 => spec_l4Readl2 rspec_l4Read k v0 v1 v2 v3 y1086_6.1 y1086_6.2.1 (w64 (v6 + 1)) y1086_6.2.2 else some ((v4, v5, v7)) else some ((v4, v5, v7))

def spec_l4Readl3 (rspec_l4Read : Rspec_l4Read) : Nat → Bs → Int → Int → Int → Int → Int → (List GNode) → Option (Int × Int × (List GNode))
  | 0, _, _, _, _, _, _, _ => none
  | k + 1, v0, v1, v2, v3, v4, v5, v6 =>
    (spec_l4Head k v0 v1 v4).bind fun y1103_3 => if y1103_3.2.2.2 != 0 then some ((0, y1103_3.2.2.2, v6)) else if y1103_3.1 == 0 then if 0 ≤ v3 ∧ v3 < (v6.length : Int) then some ((y1103_3.2.2.1, 0, v6.set v3.toNat ((v6.getD v3.toNat (0, 0, 0, [], 0)).1, ((v6.getD v3.toNat (0, 0, 0, [], 0)).2).1, (((v6.getD v3.toNat (0, 0, 0, [], 0)).2).2).1, ((((v6.getD v3.toNat (0, 0, 0, [], 0)).2).2).2).1, v5))) else none else (rspec_l4Read v0 y1103_3.2.2.1 y1103_3.1 y1103_3.2.1 (w64 (v2 + 1)) v6).bind fun y1120_7 => if y1120_7.2.1 != 0 then some ((0, y1120_7.2.1, y1120_7.2.2)) else spec_l4Readl3 rspec_l4Read k v0 y1120_7.1 v2 v3 y1103_3.2.1 (w64 (v5 + 1)) y1120_7.2.2

def spec_l4Readj4 (rspec_l4Read : Rspec_l4Read) (k : Nat) (v0 : Bs) (v1 : Int) (v2 : Int) (v3 : Int) (v4 : Int) (v5 : Int) (v6 : Bool) (v7 : (List GNode)) : Option (Int × Int × (List GNode)) :=
  if v6 then (spec_ZigGet k v0 v1).bind fun y1045_2 => if !y1045_2.2.2 then some (0, 1, v7) else if v2 == 5 then (spec_l4Int k y1045_2.1).bind fun y1053_4 => if !y1053_4 then some (0, 3, v7) else spec_l4Readj1 rspec_l4Read k v4 y1045_2.1 y1045_2.2.1 v7 else spec_l4Readj1 rspec_l4Read k v4 y1045_2.1 y1045_2.2.1 v7 else if v5 == 8 then (spec_l4Text k v0 v1).bind fun y1069_2 => if 0 ≤ v4 ∧ v4 < (v7.length : Int) then some (y1069_2.2.1, y1069_2.2.2, v7.set v4.toNat ((v7.getD v4.toNat (0, 0, 0, [], 0)).1, ((v7.getD v4.toNat (0, 0, 0, [], 0)).2).1, (((v7.getD v4.toNat (0, 0, 0, [], 0)).2).2).1, y1069_2.1, ((((v7.getD v4.toNat (0, 0, 0, [], 0)).2).2).2).2)) else none else if v5 == 9 then (spec_l4Many k v0 v1).bind fun y1077_2 => if 0 ≤ v4 ∧ v4 < (v7.length : Int) then if 0 ≤ v4 ∧ v4 < ((v7.set v4.toNat ((v7.getD v4.toNat (0, 0, 0, [], 0)).1, ((v7.getD v4.toNat (0, 0, 0, [], 0)).2).1, (((v7.getD v4.toNat (0, 0, 0, [], 0)).2).2).1, ((((v7.getD v4.toNat (0, 0, 0, [], 0)).2).2).2).1, y1077_2.1)).length : Int) then (spec_l4Readl2 rspec_l4Read k v0 v3 y1077_2.1 y1077_2.2.1 y1077_2.2.2.1 y1077_2.2.2.2 0 ((v7.set v4.toNat ((v7.getD v4.toNat (0, 0, 0, [], 0)).1, ((v7.getD v4.toNat (0, 0, 0, [], 0)).2).1, (((v7.getD v4.toNat (0, 0, 0, [], 0)).2).2).1, ((((v7.getD v4.toNat (0, 0, 0, [], 0)).2).2).2).1, y1077_2.1)).set v4.toNat (((v7.set v4.toNat ((v7.getD v4.toNat (0, 0, 0, [], 0)).1, ((v7.getD v4.toNat (0, 0, 0, [], 0)).2).1, (((v7.getD v4.toNat (0, 0, 0, [], 0)).2).2).1, ((((v7.getD v4.toNat (0, 0, 0, [], 0)).2).2).2).1, y1077_2.1)).getD v4.toNat (0, 0, 0, [], 0)).1, (((v7.set v4.toNat ((v7.getD v4.toNat (0, 0, 0, [], 0)).1, ((v7.getD v4.toNat (0, 0, 0, [], 0)).2).1, (((v7.getD v4.toNat (0, 0, 0, [], 0)).2).2).1, ((((v7.getD v4.toNat (0, 0, 0, [], 0)).2).2).2).1, y1077_2.1)).getD v4.toNat (0, 0, 0, [], 0)).2).1, y1077_2.2.1, ((((v7.set v4.toNat ((v7.getD v4.toNat (0, 0, 0, [], 0)).1, ((v7.getD v4.toNat (0, 0, 0, [], 0)).2).1, (((v7.getD v4.toNat (0, 0, 0, [], 0)).2).2).1, ((((v7.getD v4.toNat (0, 0, 0, [], 0)).2).2).2).1, y1077_2.1)).getD v4.toNat (0, 0, 0, [], 0)).2).2).2))).bind fun z1091 => some (z1091.1, z1091.2.1, z1091.2.2) else none else none else if v5 == 12 then (spec_l4Readl3 rspec_l4Read k v0 v1 v3 v4 0 0 v7).bind fun z1137 => some (z1137.1, z1137.2.1, z1137.2.2) else some (v1, 0, v7)

def spec_l4Readb (rspec_l4Read : Rspec_l4Read) (k : Nat) (x0 : Bs) (x1 : Int) (x2 : Int) (x3 : Int) (x4 : Int) (x5 : (List GNode)) : Option (Int × Int × (List GNode)) :=
  if (x5.length : Int) == 1500 then some (0, 4, x5) else if decide (x4 > 12) then some (0, 4, x5) else if x5.length + 1 ≤ LIM then if x2 == 5 then spec_l4Readj4 rspec_l4Read k x0 x1 x2 x4 (x5.length : Int) x2 (x2 == 5) (x5 ++ [(x2, x3, 0, [], 0)]) else spec_l4Readj4 rspec_l4Read k x0 x1 x2 x4 (x5.length : Int) x2 (x2 == 6) (x5 ++ [(x2, x3, 0, [], 0)]) else none

def spec_l4Read : Nat → Rspec_l4Read
  | 0, _, _, _, _, _, _ => none
  | k + 1, x0, x1, x2, x3, x4, x5 => spec_l4Readb (spec_l4Read k) k x0 x1 x2 x3 x4 x5

def spec_TreeRead (k : Nat) (x0 : Bs) (x1 : Int) : Option (Int × Int × (List GNode)) :=
  if decide (x1 < 0) then some (0, 1, []) else if decide (x1 ≥ (x0.length : Int)) then some (0, 1, []) else (spec_l4Read k x0 x1 12 0 1 []).bind fun y1014_3 => if y1014_3.2.1 != 0 then some (0, y1014_3.2.1, []) else some (y1014_3.1, y1014_3.2.1, y1014_3.2.2)


def impl_nodeOk (k : Nat) (x0 : GNode) : Option (Bool) :=
  if x0.1 == 5 then (impl_isInt32 k x0.2.2.1).bind fun y1502_2 => if y1502_2 then if x0.2.2.2.1 == [] then some (x0.2.2.2.2 == 0) else some (false) else some (false) else if x0.1 == 6 then if x0.2.2.2.1 == [] then some (x0.2.2.2.2 == 0) else some (false) else if x0.1 == 8 then if x0.2.2.1 == 0 then if decide ((x0.2.2.2.1.length : Int) ≤ 300) then some (x0.2.2.2.2 == 0) else some (false) else some (false) else if x0.1 == 9 then if x0.2.2.2.1 == [] then if decide (x0.2.2.2.2 ≥ 0) then if x0.2.2.2.2 == 0 then if x0.2.2.1 == 0 then some (true) else if decide (x0.2.2.2.2 > 0) then (impl_isType k x0.2.2.1 true).bind fun y1514_24 => some (y1514_24) else some (false) else if decide (x0.2.2.2.2 > 0) then (impl_isType k x0.2.2.1 true).bind fun y1514_24 => some (y1514_24) else some (false) else some (false) else some (false) else if x0.1 == 12 then if x0.2.2.1 == 0 then if x0.2.2.2.1 == [] then some (decide (x0.2.2.2.2 ≥ 0)) else some (false) else some (false) else (impl_isType k x0.1 false).bind fun y1534_2 => if y1534_2 then if x0.2.2.1 == 0 then if x0.2.2.2.1 == [] then some (x0.2.2.2.2 == 0) else some (false) else some (false) else some (false)


abbrev Rimpl_tree_measure := GTree → Int → Int → Option (Int × (List GNode) × (List Int))
def impl_tree_measurej2 (rimpl_tree_measure : Rimpl_tree_measure) (k : Nat) (rec : Int × Int × Int × Int × Int × Int × (List GNode) × (List Int) × Int × Int × Int × Bs × Int → Option ((Int × Int × (List GNode) × (List Int)) ⊕ GTree)) (v0 : Int) (v1 : Int) (v2 : Int) (v3 : Int) (v4 : Int) (v5 : (List GNode)) (v6 : (List Int)) (v7 : Int) (v8 : Int) (v9 : Int) (v10 : Bs) (v11 : Int) (v12 : Int) (v13 : Int) (v14 : Int) (v15 : Bs) (v16 : Int) : Option ((Int × Int × (List GNode) × (List Int)) ⊕ GTree) :=
  (rimpl_tree_measure (v5, v6) v2 (w64 (v1 + 1))).bind fun y1466_4 => if decide (y1466_4.1 < 0) then some (.inr (y1466_4.2.1, y1466_4.2.2)) else rec (v0, v1, y1466_4.1, v13, v3, (w64 (v4 + 1)), y1466_4.2.1, y1466_4.2.2, v7, v8, v9, v10, v11)

def impl_tree_measurej3 (rimpl_tree_measure : Rimpl_tree_measure) (k : Nat) (rec : Int × Int × Int × Int × Int × Int × (List GNode) × (List Int) × Int × Int × Int × Bs × Int → Option ((Int × Int × (List GNode) × (List Int)) ⊕ GTree)) (v0 : Int) (v1 : Int) (v2 : Int) (v3 : Int) (v4 : Int) (v5 : Int) (v6 : (List GNode)) (v7 : (List Int)) (v8 : Int) (v9 : Int) (v10 : Int) (v11 : Bs) (v12 : Int) (v13 : Int) (v14 : Int) (v15 : Int) (v16 : Bs) (v17 : Int) : Option ((Int × Int × (List GNode) × (List Int)) ⊕ GTree) :=
  if v8 == 12 then (impl_within k v14 (w64 (v3 + 1)) 1000).bind fun y1458_8 => if !y1458_8 then some (.inr (v6, v7)) else impl_tree_measurej2 rimpl_tree_measure k rec v0 v1 v2 v4 v5 v6 v7 v8 v9 v10 v11 v12 v13 v14 v15 v16 v17 else impl_tree_measurej2 rimpl_tree_measure k rec v0 v1 v2 v4 v5 v6 v7 v8 v9 v10 v11 v12 v13 v14 v15 v16 v17

def impl_tree_measurel1 (rimpl_tree_measure : Rimpl_tree_measure) : Nat → Int → Int → Int → Int → Int → Int → (List GNode) → (List Int) → Int → Int → Int → Bs → Int → Option ((Int × Int × (List GNode) × (List Int)) ⊕ GTree)
  | 0, _, _, _, _, _, _, _, _, _, _, _, _, _ => none
  | k + 1, v0, v1, v2, v3, v4, v5, v6, v7, v8, v9, v10, v11, v12 =>
    if decide (v5 < v4) then if decide (v2 ≥ (v6.length : Int)) then some (.inr (v6, v7)) else if 0 ≤ v2 ∧ v2 < (v6.length : Int) then if v8 == 9 then if ((v6.getD v2.toNat (0, 0, 0, [], 0)).1) != v10 then some (.inr (v6, v7)) else if (((v6.getD v2.toNat (0, 0, 0, [], 0)).2).1) != 0 then some (.inr (v6, v7)) else impl_tree_measurej3 rimpl_tree_measure k (fun (i : Int × Int × Int × Int × Int × Int × (List GNode) × (List Int) × Int × Int × Int × Bs × Int) => impl_tree_measurel1 rimpl_tree_measure k i.1 i.2.1 i.2.2.1 i.2.2.2.1 i.2.2.2.2.1 i.2.2.2.2.2.1 i.2.2.2.2.2.2.1 i.2.2.2.2.2.2.2.1 i.2.2.2.2.2.2.2.2.1 i.2.2.2.2.2.2.2.2.2.1 i.2.2.2.2.2.2.2.2.2.2.1 i.2.2.2.2.2.2.2.2.2.2.2.1 i.2.2.2.2.2.2.2.2.2.2.2.2) v0 v1 v2 v3 v4 v5 v6 v7 v8 v9 v10 v11 v12 ((v6.getD v2.toNat (0, 0, 0, [], 0)).1) (((v6.getD v2.toNat (0, 0, 0, [], 0)).2).1) ((((v6.getD v2.toNat (0, 0, 0, [], 0)).2).2).1) (((((v6.getD v2.toNat (0, 0, 0, [], 0)).2).2).2).1) (((((v6.getD v2.toNat (0, 0, 0, [], 0)).2).2).2).2) else impl_tree_measurej3 rimpl_tree_measure k (fun (i : Int × Int × Int × Int × Int × Int × (List GNode) × (List Int) × Int × Int × Int × Bs × Int) => impl_tree_measurel1 rimpl_tree_measure k i.1 i.2.1 i.2.2.1 i.2.2.2.1 i.2.2.2.2.1 i.2.2.2.2.2.1 i.2.2.2.2.2.2.1 i.2.2.2.2.2.2.2.1 i.2.2.2.2.2.2.2.2.1 i.2.2.2.2.2.2.2.2.2.1 i.2.2.2.2.2.2.2.2.2.2.1 i.2.2.2.2.2.2.2.2.2.2.2.1 i.2.2.2.2.2.2.2.2.2.2.2.2) v0 v1 v2 v3 v4 v5 v6 v7 v8 v9 v10 v11 v12 ((v6.getD v2.toNat (0, 0, 0, [], 0)).1) (((v6.getD v2.toNat (0, 0, 0, [], 0)).2).1) ((((v6.getD v2.toNat (0, 0, 0, [], 0)).2).2).1) (((((v6.getD v2.toNat (0, 0, 0, [], 0)).2).2).2).1) (((((v6.getD v2.toNat (0, 0, 0, [], 0)).2).2).2).2) else none else some (.inl (v0, v2, v6, v7))

def impl_tree_measureb (rimpl_tree_measure : Rimpl_tree_measure) (k : Nat) (x0 : GTree) (x1 : Int) (x2 : Int) : Option (Int × (List GNode) × (List Int)) :=
  if decide (x1 ≥ (x0.1.length : Int)) then some ((-1), x0.1, x0.2) else if decide (x2 > 12) then some ((-1), x0.1, x0.2) else if 0 ≤ x1 ∧ x1 < (x0.1.length : Int) then (impl_nodeOk k ((x0.1.getD x1.toNat (0, 0, 0, [], 0)).1, ((x0.1.getD x1.toNat (0, 0, 0, [], 0)).2).1, (((x0.1.getD x1.toNat (0, 0, 0, [], 0)).2).2).1, ((((x0.1.getD x1.toNat (0, 0, 0, [], 0)).2).2).2))).bind fun y1428_19 => if !y1428_19 then some ((-1), x0.1, x0.2) else (impl_tree_measurel1 rimpl_tree_measure k x1 x2 (w64 (x1 + 1)) 0 (((((x0.1.getD x1.toNat (0, 0, 0, [], 0)).2).2).2).2) 0 x0.1 x0.2 ((x0.1.getD x1.toNat (0, 0, 0, [], 0)).1) (((x0.1.getD x1.toNat (0, 0, 0, [], 0)).2).1) ((((x0.1.getD x1.toNat (0, 0, 0, [], 0)).2).2).1) (((((x0.1.getD x1.toNat (0, 0, 0, [], 0)).2).2).2).1) (((((x0.1.getD x1.toNat (0, 0, 0, [], 0)).2).2).2).2)).bind (Sum.elim (fun z1485 => if 0 ≤ z1485.1 ∧ z1485.1 < (z1485.2.2.2.length : Int) then some (z1485.2.1, z1485.2.2.1, z1485.2.2.2.set z1485.1.toNat z1485.2.1) else none) (fun z1485 => some ((-1), z1485.1, z1485.2))) else none

def impl_tree_measure : Nat → Rimpl_tree_measure
  | 0, _, _, _ => none
  | k + 1, x0, x1, x2 => impl_tree_measureb (impl_tree_measure k) k x0 x1 x2

def impl_treeOf (k : Nat) (x0 : (List GNode)) : Option ((Unit) ⊕ GTree) :=
  (impl_within k (x0.length : Int) 1 1500).bind fun y1403_2 => if !y1403_2 then some (.inl ()) else if (x0.length : Int) = (x0.length : Int) ∧ 0 ≤ (x0.length : Int) ∧ (x0.length : Int) ≤ (LIM : Int) then if 0 ≤ (0 : Int) ∧ 0 < (x0.length : Int) then if ((x0.getD 0 (0, 0, 0, [], 0)).1) != 12 then some (.inl ()) else if (((x0.getD 0 (0, 0, 0, [], 0)).2).1) != 0 then some (.inl ()) else (impl_tree_measure k (x0, List.replicate ((x0.length : Int).toNat) 0) 0 1).bind fun y1412_10 => if y1412_10.1 != (x0.length : Int) then some (.inl ()) else some (.inr (y1412_10.2.1, y1412_10.2.2)) else none else none


def impl_Zig (k : Nat) (x0 : Int) : Option (Int) :=
  some (bitI .xor .i64 (shlI .i64 x0 1) (shrI .i64 x0 63))


def impl_UvarPutl1 : Nat → Int → Bs → Option (Int × Bs)
  | 0, _, _ => none
  | k + 1, v0, v1 =>
    if decide (v0 > 127) then if v1.length + 1 ≤ LIM then impl_UvarPutl1 k (shrI .u64 v0 7) (v1 ++ [b8 (wu8 (bitI .or .u64 (bitI .and .u64 v0 127) 128))]) else none else some ((v0, v1))

def impl_UvarPut (k : Nat) (x0 : Int) : Option (Bs) :=
  (impl_UvarPutl1 k (wu64 x0) []).bind fun z1637 => if z1637.2.length + 1 ≤ LIM then some (z1637.2 ++ [b8 (wu8 z1637.1)]) else none


def impl_ZigPut (k : Nat) (x0 : Int) : Option (Bs) :=
  (impl_Zig k x0).bind fun y1615_1 => (impl_UvarPut k y1615_1).bind fun y1615_2 => some (y1615_2)


def impl_headOf (k : Nat) (x0 : GNode) (x1 : Int) : Option (Bs) :=
  if decide ((w64 (x0.2.1 - x1)) ≤ 15) then some ([b8 (wu8 (w64 ((w64 (16 * (w64 (x0.2.1 - x1)))) + x0.1)))]) else (impl_ZigPut k x0.2.1).bind fun y1655_6 => if 1 + y1655_6.length ≤ LIM then some ([b8 (wu8 x0.1)] ++ y1655_6) else none


abbrev Rimpl_tree_bytesOf := GTree → Int → Option ((List GNode) × (List Int) × Bs)
def impl_tree_bytesOfj2 (rimpl_tree_bytesOf : Rimpl_tree_bytesOf) (k : Nat) (rec : Int × Int × Int × Int × (List GNode) × (List Int) × Int × Int × Int × Bs × Int × Bs → Option ((List GNode) × (List Int) × Int × Int × Int × Bs × Int × Bs)) (v0 : Int) (v1 : Int) (v2 : Int) (v3 : (List GNode)) (v4 : (List Int)) (v5 : Int) (v6 : Int) (v7 : Int) (v8 : Bs) (v9 : Int) (v10 : Bs) (v11 : Int) (v12 : Int) (v13 : Int) (v14 : Bs) (v15 : Int) : Option ((List GNode) × (List Int) × Int × Int × Int × Bs × Int × Bs) :=
  (rimpl_tree_bytesOf (v3, v4) v0).bind fun y1584_3 => if v10.length + y1584_3.2.2.length ≤ LIM then if 0 ≤ v0 ∧ v0 < (y1584_3.2.1.length : Int) then rec ((y1584_3.2.1.getD v0.toNat 0), v12, v1, (w64 (v2 + 1)), y1584_3.1, y1584_3.2.1, v5, v6, v7, v8, v9, (v10 ++ y1584_3.2.2)) else none else none

def impl_tree_bytesOfl1 (rimpl_tree_bytesOf : Rimpl_tree_bytesOf) : Nat → Int → Int → Int → Int → (List GNode) → (List Int) → Int → Int → Int → Bs → Int → Bs → Option ((List GNode) × (List Int) × Int × Int × Int × Bs × Int × Bs)
  | 0, _, _, _, _, _, _, _, _, _, _, _, _ => none
  | k + 1, v0, v1, v2, v3, v4, v5, v6, v7, v8, v9, v10, v11 =>
    if decide (v3 < v2) then if 0 ≤ v0 ∧ v0 < (v4.length : Int) then if v6 == 12 then (impl_headOf k ((v4.getD v0.toNat (0, 0, 0, [], 0)).1, ((v4.getD v0.toNat (0, 0, 0, [], 0)).2).1, (((v4.getD v0.toNat (0, 0, 0, [], 0)).2).2).1, ((((v4.getD v0.toNat (0, 0, 0, [], 0)).2).2).2)) v1).bind fun y1579_3 => if v11.length + y1579_3.length ≤ LIM then impl_tree_bytesOfj2 rimpl_tree_bytesOf k (fun (i : Int × Int × Int × Int × (List GNode) × (List Int) × Int × Int × Int × Bs × Int × Bs) => impl_tree_bytesOfl1 rimpl_tree_bytesOf k i.1 i.2.1 i.2.2.1 i.2.2.2.1 i.2.2.2.2.1 i.2.2.2.2.2.1 i.2.2.2.2.2.2.1 i.2.2.2.2.2.2.2.1 i.2.2.2.2.2.2.2.2.1 i.2.2.2.2.2.2.2.2.2.1 i.2.2.2.2.2.2.2.2.2.2.1 i.2.2.2.2.2.2.2.2.2.2.2) v0 v2 v3 v4 v5 v6 v7 v8 v9 v10 (v11 ++ y1579_3) ((v4.getD v0.toNat (0, 0, 0, [], 0)).1) (((v4.getD v0.toNat (0, 0, 0, [], 0)).2).1) ((((v4.getD v0.toNat (0, 0, 0, [], 0)).2).2).1) (((((v4.getD v0.toNat (0, 0, 0, [], 0)).2).2).2).1) (((((v4.getD v0.toNat (0, 0, 0, [], 0)).2).2).2).2) else none else impl_tree_bytesOfj2 rimpl_tree_bytesOf k (fun (i : Int × Int × Int × Int × (List GNode) × (List Int) × Int × Int × Int × Bs × Int × Bs) => impl_tree_bytesOfl1 rimpl_tree_bytesOf k i.1 i.2.1 i.2.2.1 i.2.2.2.1 i.2.2.2.2.1 i.2.2.2.2.2.1 i.2.2.2.2.2.2.1 i.2.2.2.2.2.2.2.1 i.2.2.2.2.2.2.2.2.1 i.2.2.2.2.2.2.2.2.2.1 i.2.2.2.2.2.2.2.2.2.2.1 i.2.2.2.2.2.2.2.2.2.2.2) v0 v2 v3 v4 v5 v6 v7 v8 v9 v10 v11 ((v4.getD v0.toNat (0, 0, 0, [], 0)).1) (((v4.getD v0.toNat (0, 0, 0, [], 0)).2).1) ((((v4.getD v0.toNat (0, 0, 0, [], 0)).2).2).1) (((((v4.getD v0.toNat (0, 0, 0, [], 0)).2).2).2).1) (((((v4.getD v0.toNat (0, 0, 0, [], 0)).2).2).2).2) else none else some ((v4, v5, v6, v7, v8, v9, v10, v11))

def impl_tree_bytesOfj3 (rimpl_tree_bytesOf : Rimpl_tree_bytesOf) (k : Nat) (v0 : Int) (v1 : (List GNode)) (v2 : (List Int)) (v3 : Int) (v4 : Int) (v5 : Int) (v6 : Bs) (v7 : Int) (v8 : Bs) : Option ((List GNode) × (List Int) × Bs) :=
  (impl_tree_bytesOfl1 rimpl_tree_bytesOf k (w64 (v0 + 1)) 0 v7 0 v1 v2 v3 v4 v5 v6 v7 v8).bind fun z1595 => if z1595.2.2.1 == 12 then if z1595.2.2.2.2.2.2.2.length + 1 ≤ LIM then some (z1595.1, z1595.2.1, z1595.2.2.2.2.2.2.2 ++ [0]) else none else some (z1595.1, z1595.2.1, z1595.2.2.2.2.2.2.2)

def impl_tree_bytesOfj4 (rimpl_tree_bytesOf : Rimpl_tree_bytesOf) (k : Nat) (v0 : Int) (v1 : Int) (v2 : Bool) (v3 : (List GNode)) (v4 : (List Int)) (v5 : Int) (v6 : Int) (v7 : Int) (v8 : Bs) (v9 : Int) : Option ((List GNode) × (List Int) × Bs) :=
  if v2 then (impl_ZigPut k v7).bind fun y1548_2 => some (v3, v4, y1548_2) else if v1 == 8 then (impl_UvarPut k (v8.length : Int)).bind fun y1552_3 => if y1552_3.length + v8.length ≤ LIM then some (v3, v4, y1552_3 ++ v8) else none else if v1 == 9 then if decide (v9 ≤ 14) then impl_tree_bytesOfj3 rimpl_tree_bytesOf k v0 v3 v4 v5 v6 v7 v8 v9 ([] ++ [b8 (wu8 (w64 ((w64 (16 * v9)) + v7)))]) else (impl_UvarPut k v9).bind fun y1558_7 => if 1 + y1558_7.length ≤ LIM then impl_tree_bytesOfj3 rimpl_tree_bytesOf k v0 v3 v4 v5 v6 v7 v8 v9 ([b8 (wu8 (w64 (240 + v7)))] ++ y1558_7) else none else impl_tree_bytesOfj3 rimpl_tree_bytesOf k v0 v3 v4 v5 v6 v7 v8 v9 []

def impl_tree_bytesOfb (rimpl_tree_bytesOf : Rimpl_tree_bytesOf) (k : Nat) (x0 : GTree) (x1 : Int) : Option ((List GNode) × (List Int) × Bs) :=
  if 0 ≤ x1 ∧ x1 < (x0.1.length : Int) then if ((x0.1.getD x1.toNat (0, 0, 0, [], 0)).1) == 5 then impl_tree_bytesOfj4 rimpl_tree_bytesOf k x1 ((x0.1.getD x1.toNat (0, 0, 0, [], 0)).1) (((x0.1.getD x1.toNat (0, 0, 0, [], 0)).1) == 5) x0.1 x0.2 ((x0.1.getD x1.toNat (0, 0, 0, [], 0)).1) (((x0.1.getD x1.toNat (0, 0, 0, [], 0)).2).1) ((((x0.1.getD x1.toNat (0, 0, 0, [], 0)).2).2).1) (((((x0.1.getD x1.toNat (0, 0, 0, [], 0)).2).2).2).1) (((((x0.1.getD x1.toNat (0, 0, 0, [], 0)).2).2).2).2) else impl_tree_bytesOfj4 rimpl_tree_bytesOf k x1 ((x0.1.getD x1.toNat (0, 0, 0, [], 0)).1) (((x0.1.getD x1.toNat (0, 0, 0, [], 0)).1) == 6) x0.1 x0.2 ((x0.1.getD x1.toNat (0, 0, 0, [], 0)).1) (((x0.1.getD x1.toNat (0, 0, 0, [], 0)).2).1) ((((x0.1.getD x1.toNat (0, 0, 0, [], 0)).2).2).1) (((((x0.1.getD x1.toNat (0, 0, 0, [], 0)).2).2).2).1) (((((x0.1.getD x1.toNat (0, 0, 0, [], 0)).2).2).2).2) else none

def impl_tree_bytesOf : Nat → Rimpl_tree_bytesOf
  | 0, _, _ => none
  | k + 1, x0, x1 => impl_tree_bytesOfb (impl_tree_bytesOf k) k x0 x1

def impl_TreePack (k : Nat) (x0 : (List GNode)) : Option (Bool × Bs) :=
  (impl_treeOf k x0).bind (Sum.elim (fun y1388_1 => some (false, [])) (fun y1388_1 => (impl_tree_bytesOf k y1388_1 0).bind fun y1396_1 => some (true, y1396_1.2.2)))


def laws_sameNodesl1 : Nat → (List GNode) → (List GNode) → Int → Option ((Unit) ⊕ (Unit))
  | 0, _, _, _ => none
  | k + 1, v0, v1, v2 =>
    if decide (v2 < (v0.length : Int)) then if 0 ≤ v2 ∧ v2 < (v0.length : Int) then if 0 ≤ v2 ∧ v2 < (v1.length : Int) then if !((((v0.getD v2.toNat (0, 0, 0, [], 0)).1) == ((v1.getD v2.toNat (0, 0, 0, [], 0)).1)) && (((((v0.getD v2.toNat (0, 0, 0, [], 0)).2).1) == (((v1.getD v2.toNat (0, 0, 0, [], 0)).2).1)) && ((((((v0.getD v2.toNat (0, 0, 0, [], 0)).2).2).1) == ((((v1.getD v2.toNat (0, 0, 0, [], 0)).2).2).1)) && (((((((v0.getD v2.toNat (0, 0, 0, [], 0)).2).2).2).1) == (((((v1.getD v2.toNat (0, 0, 0, [], 0)).2).2).2).1)) && ((((((v0.getD v2.toNat (0, 0, 0, [], 0)).2).2).2).2) == (((((v1.getD v2.toNat (0, 0, 0, [], 0)).2).2).2).2)))))) then some (.inr ()) else laws_sameNodesl1 k v0 v1 (w64 (v2 + 1)) else none else none else some (.inl ())

def laws_sameNodes (k : Nat) (x0 : (List GNode)) (x1 : (List GNode)) : Option (Bool) :=
  if (x0.length : Int) != (x1.length : Int) then some (false) else (laws_sameNodesl1 k x0 x1 0).bind (Sum.elim (fun z1686 => some (true)) (fun z1686 => some (false)))


def laws_FnTreeRead (k : Nat) (x0 : Bs) : Option (Bool) :=
  (laws_big k x0).bind fun y2_1 => if y2_1 then some (true) else (spec_DrawTreeRead k x0).bind fun y9_1 => (impl_TreeRead k y9_1.2 y9_1.1).bind fun y10_2 => (spec_TreeRead k y9_1.2 y9_1.1).bind fun y11_2 => if y10_2.2.1 != y11_2.2.1 then some (false) else if y10_2.1 != y11_2.1 then some (false) else if y10_2.2.1 != 0 then some ((y10_2.2.2.length : Int) == 0) else (impl_TreePack k y10_2.2.2).bind fun y26_1 => (impl_TreeRead k y26_1.2 0).bind fun y27_1 => if 0 ≤ (w64 (y10_2.1 - 1)) ∧ (w64 (y10_2.1 - 1)) ≤ (y9_1.2.length : Int) then (impl_TreeRead k (y9_1.2.take ((w64 (y10_2.1 - 1)).toNat)) y9_1.1).bind fun y28_5 => if y26_1.1 then if y27_1.2.1 == 0 then (laws_sameNodes k y27_1.2.2 y10_2.2.2).bind fun y29_8 => if y29_8 then if decide ((y26_1.2.length : Int) ≤ (w64 (y10_2.1 - y9_1.1))) then some (y28_5.2.1 == 1) else some (false) else some (false) else some (false) else some (false) else none


end Go.Proofs.Ytpggmokeohleiaa
