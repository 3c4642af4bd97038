/- The by-value reading of the program's operations, each shown once. No condition. -/
import Derived.Calls
import Derived.Orders
import Derived.Laws.AppendOwn
import Derived.Laws.OwnMore
import Derived.Laws.MakeOwn
import Derived.KernelRfl
import Derived.Laws.StructEq
import Derived.Laws.Strings
import Derived.Laws.Concat
import Derived.Laws.Entries
import Derived.Laws.Bits
import Derived.Laws.Rows
import Derived.Laws.IdiomStrings
import Derived.Laws.BytesArg
import Derived.Laws.Slices
import Derived.Lib.ConvBytes
import Derived.Lib.AppendStr
set_option linter.unusedVariables false
set_option linter.unusedSimpArgs false
set_option linter.unusedSectionVars false

/- The by-value machine, part 1: types, values, objects, and what they say of a world. -/
namespace Go.V
open Go

/-! ### Types and values -/
inductive Ty where
  | int (k : IntKind)
  | byte
  | bool
  | str
  | slice (e : TypeId) (t : Ty)
  | pair (a b : Ty)
  deriving DecidableEq

@[reducible] def Ty.T : Ty → Type
  | .int _ => Int
  | .byte => UInt8
  | .bool => Bool
  | .str => List UInt8
  | .slice _ t => List t.T
  | .pair a b => a.T × b.T

def Ty.sz : Ty → Nat
  | .pair a b => a.sz + b.sz
  | _ => 1
theorem Ty.sz_pos : ∀ t : Ty, 0 < t.sz
  | .int _ => by simp [Ty.sz]
  | .byte => by simp [Ty.sz]
  | .bool => by simp [Ty.sz]
  | .str => by simp [Ty.sz]
  | .slice _ _ => by simp [Ty.sz]
  | .pair a b => by have := Ty.sz_pos a; simp [Ty.sz]; omega

def Ty.dflt : (t : Ty) → t.T
  | .int _ => (0 : Int)
  | .byte => (0 : UInt8)
  | .bool => false
  | .str => ([] : List UInt8)
  | .slice _ t => ([] : List t.T)
  | .pair a b => (a.dflt, b.dflt)

/-- A value by what it holds. -/
inductive AV where
  | int (k : IntKind) (n : Int)
  | byte (x : UInt8)
  | bool (b : Bool)
  | str (s : List UInt8)
  | nil
  | ro (p : Bool) (e : TypeId) (t : Ty) (l : List t.T)
  | row (o : Nat)
  | box (o : Nat) (off : Nat)
  | elt (o : Nat) (sz : Nat) (i : Nat) (off : Nat)
  | rel (p : Bool) (t : Ty) (x : t.T) (off : Nat)
  | agg (cs : List AV)
  | tup (vs : List AV)
  | clo (f : Nat) (caps : List AV)
  | nilp
  | undef

inductive Ob where
  | box (q : Bool) (T : TypeId) (cells : List AV)
  | row (q p : Bool) (e : TypeId) (t : Ty) (l : List t.T)

/-! ### What is read in memory -/
/-- The cells 'vs' read as x of type t; memory is looked into in the blocks of A alone. -/
def RdC (A : Nat → Prop) (w : World) : (t : Ty) → List Value → t.T → Prop
  | .int k, vs, x => vs = [.int k x]
  | .byte, vs, x => vs = [.int .u8 (x.toNat : Int)]
  | .bool, vs, x => vs = [.bool x]
  | .str, vs, x => vs = [.string ⟨⟨x⟩⟩]
  | .slice _ t, vs, x => ∃ a c, vs = [.slice a x.length c] ∧ (x.length ≤ maxLen ∧ x.length ≤ c) ∧
      (x ≠ [] → ∃ ad, a = some ad ∧ A ad.block ∧ ∀ j (h : j < x.length), ∃ us, RdC A w t us x[j] ∧ ∀ i u, us[i]? = some u → w.cell? (ad.add (j * t.sz + i)) = some u)
  | .pair a b, vs, x => ∃ us us', vs = us ++ us' ∧ RdC A w a us x.1 ∧ RdC A w b us' x.2

theorem RdC.len {A : Nat → Prop} {w : World} : ∀ {t : Ty} {vs : List Value} {x : t.T}, RdC A w t vs x → vs.length = t.sz
  | .int _, _, _, h => by simp only [RdC] at h; subst h; rfl
  | .byte, _, _, h => by simp only [RdC] at h; subst h; rfl
  | .bool, _, _, h => by simp only [RdC] at h; subst h; rfl
  | .str, _, _, h => by simp only [RdC] at h; subst h; rfl
  | .slice _ _, _, _, h => by simp only [RdC] at h; obtain ⟨a, c, rfl, _⟩ := h; rfl
  | .pair a b, _, _, h => by
    simp only [RdC] at h
    obtain ⟨us, us', rfl, h1, h2⟩ := h
    have := RdC.len h1
    have := RdC.len h2
    simp [Ty.sz]; omega

theorem cell_lt {w : World} {a : Addr} {v : Value} (h : w.cell? a = some v) : a.block < w.heap.size := World.block_lt_of_cell? w a h
theorem add_block (a : Addr) (n : Nat) : (a.add n).block = a.block := by unfold Addr.add; split <;> rfl
theorem add_add (a : Addr) (m n : Nat) : (a.add m).add n = a.add (m + n) := by
  unfold Addr.add
  by_cases hm : m = 0 <;> by_cases hn : n = 0 <;> simp_all [Nat.add_assoc]
theorem cell_eq {w w' : World} {a : Addr} (h : w'.heap[a.block]? = w.heap[a.block]?) : w'.cell? a = w.cell? a := by simp [World.cell?, h]

theorem RdC.mono {A A' : Nat → Prop} {w w' : World} (hm : ∀ b, A b → b < w.heap.size → A' b ∧ w'.heap[b]? = w.heap[b]?) :
    ∀ {t : Ty} {vs : List Value} {x : t.T}, RdC A w t vs x → RdC A' w' t vs x
  | .int _, _, _, h => by simpa only [RdC] using h
  | .byte, _, _, h => by simpa only [RdC] using h
  | .bool, _, _, h => by simpa only [RdC] using h
  | .str, _, _, h => by simpa only [RdC] using h
  | .slice _ t, _, x, h => by
    simp only [RdC] at h ⊢
    obtain ⟨a, c, rfl, hl, hr⟩ := h
    refine ⟨a, c, rfl, hl, fun hx => ?_⟩
    obtain ⟨ad, rfl, hA, hc⟩ := hr hx
    have h0 : 0 < x.length := by cases x <;> simp_all
    obtain ⟨us, hu, hcell⟩ := hc 0 h0
    have hlt : ad.block < w.heap.size := by
      have hp := t.sz_pos
      have hl := hu.len
      have := hcell 0 us[0] (by simp [List.getElem?_eq_getElem (show 0 < us.length by omega)])
      have := cell_lt this
      rwa [add_block] at this
    obtain ⟨hA', hb⟩ := hm _ hA hlt
    refine ⟨ad, rfl, hA', fun j hj => ?_⟩
    obtain ⟨us, hu, hcell⟩ := hc j hj
    exact ⟨us, RdC.mono hm hu, fun i u hi => (cell_eq (by rw [add_block]; exact hb)).trans (hcell i u hi)⟩
  | .pair a b, _, _, h => by
    simp only [RdC] at h ⊢
    obtain ⟨us, us', rfl, h1, h2⟩ := h
    exact ⟨us, us', rfl, RdC.mono hm h1, RdC.mono hm h2⟩

/-- The flat cells of a row of elements. -/
def RdL (A : Nat → Prop) (w : World) (t : Ty) : List Value → List t.T → Prop
  | xs, [] => xs = []
  | xs, x :: l => ∃ us rest, xs = us ++ rest ∧ RdC A w t us x ∧ RdL A w t rest l

theorem RdL.len {A : Nat → Prop} {w : World} {t : Ty} : ∀ {xs : List Value} {l : List t.T}, RdL A w t xs l → xs.length = l.length * t.sz
  | _, [], h => by simp only [RdL] at h; subst h; simp
  | _, x :: l, h => by
    obtain ⟨us, rest, rfl, h1, h2⟩ := h
    have := h1.len
    have := RdL.len h2
    simp [Nat.add_mul]; omega
theorem RdL.mono {A A' : Nat → Prop} {w w' : World} {t : Ty} (hm : ∀ b, A b → b < w.heap.size → A' b ∧ w'.heap[b]? = w.heap[b]?) :
    ∀ {xs : List Value} {l : List t.T}, RdL A w t xs l → RdL A' w' t xs l
  | _, [], h => h
  | _, x :: l, h => by
    obtain ⟨us, rest, rfl, h1, h2⟩ := h
    exact ⟨us, rest, rfl, h1.mono hm, RdL.mono hm h2⟩
theorem RdL.append {A : Nat → Prop} {w : World} {t : Ty} : ∀ {xs ys : List Value} {l m : List t.T}, RdL A w t xs l → RdL A w t ys m → RdL A w t (xs ++ ys) (l ++ m)
  | _, _, [], _, h, h' => by simp only [RdL] at h; subst h; simpa using h'
  | _, _, x :: l, _, h, h' => by
    obtain ⟨us, rest, rfl, h1, h2⟩ := h
    exact ⟨us, _, by rw [List.append_assoc], h1, RdL.append h2 h'⟩
/-- Element j of a row. -/
theorem RdL.at {A : Nat → Prop} {w : World} {t : Ty} : ∀ {xs : List Value} {l : List t.T}, RdL A w t xs l → ∀ j (h : j < l.length),
    ∃ us, RdC A w t us l[j] ∧ ∀ i u, us[i]? = some u → xs[j * t.sz + i]? = some u
  | _, [], _, j, h => by simp at h
  | _, x :: l, h, j, hj => by
    obtain ⟨us, rest, rfl, h1, h2⟩ := h
    cases j with
    | zero =>
      refine ⟨us, h1, fun i u hi => ?_⟩
      have hlt := (List.getElem?_eq_some_iff.1 hi).1
      simp only [Nat.zero_mul, Nat.zero_add]
      rw [List.getElem?_append_left hlt]; exact hi
    | succ j =>
      obtain ⟨vs, hv, hc⟩ := RdL.at h2 j (by simpa using hj)
      refine ⟨vs, by simpa using hv, fun i u hi => ?_⟩
      rw [List.getElem?_append_right (by have := h1.len; rw [Nat.add_mul]; omega)]
      have := h1.len
      rw [show (j + 1) * t.sz + i - us.length = j * t.sz + i by rw [Nat.add_mul]; omega]
      exact hc i u hi
/-- A row out of its elements. -/
theorem RdL.of {A : Nat → Prop} {w : World} {t : Ty} : ∀ {xs : List Value} {l : List t.T}, xs.length = l.length * t.sz →
    (∀ j (h : j < l.length), ∃ us, RdC A w t us l[j] ∧ ∀ i u, us[i]? = some u → xs[j * t.sz + i]? = some u) → RdL A w t xs l
  | xs, [], hl, _ => by simp at hl; exact hl
  | xs, x :: l, hl, h => by
    obtain ⟨us, hu, hc⟩ := h 0 (by simp)
    have hul := hu.len
    have hxl : t.sz ≤ xs.length := by rw [hl]; simp [Nat.add_mul]
    have e1 : xs.take t.sz = us := by
      apply List.ext_getElem?
      intro i
      by_cases hi : i < t.sz
      · rw [List.getElem?_take_of_lt hi]
        have := hc i us[i] (List.getElem?_eq_getElem (by omega))
        simp only [Nat.zero_mul, Nat.zero_add] at this
        rw [this, List.getElem?_eq_getElem (by omega)]
      · rw [List.getElem?_eq_none (by simp; omega), List.getElem?_eq_none (by omega)]
    refine ⟨us, xs.drop t.sz, by rw [← e1]; exact (List.take_append_drop _ _).symm, by simpa using hu, RdL.of ?_ ?_⟩
    · simp only [List.length_drop, hl, List.length_cons, Nat.add_mul]; omega
    · intro j hj
      obtain ⟨vs, hv, hc'⟩ := h (j + 1) (by simpa using hj)
      refine ⟨vs, by simpa using hv, fun i u hi => ?_⟩
      have := hc' i u hi
      rw [List.getElem?_drop, show t.sz + (j * t.sz + i) = (j + 1) * t.sz + i by rw [Nat.add_mul]; omega]
      exact this

/-! ### Memory with owners -/
structure Mem where
  own : Nat → Option Nat
  ρ : Nat → Value
  w : World

/-- Which blocks are new (from B on), and which of the others may be looked into. -/
structure Rg where
  B : Nat
  old : Nat → Prop
/-- Frozen: owned by none; what is not from outside (p = false) is new. -/
def Fz (B : Rg) (M : Mem) (p : Bool) (b : Nat) : Prop := M.own b = none ∧ (B.B ≤ b ∨ (p = true ∧ B.old b))
theorem Fz.up {B : Rg} {M : Mem} {p : Bool} {b : Nat} (h : Fz B M p b) : Fz B M true b := ⟨h.1, h.2.imp id fun h => ⟨rfl, h.2⟩⟩

mutual
inductive VR (B : Rg) (M : Mem) : AV → Value → Prop
  | int (k : IntKind) (n : Int) : VR B M (.int k n) (.int k n)
  | byte (x : UInt8) : VR B M (.byte x) (.int .u8 (x.toNat : Int))
  | bool (b : Bool) : VR B M (.bool b) (.bool b)
  | str (s : List UInt8) : VR B M (.str s) (.string ⟨⟨s⟩⟩)
  | nil : VR B M .nil (.slice none 0 0)
  | ro {p : Bool} {e : TypeId} {t : Ty} {l : List t.T} {ad : Option Addr} {n c : Nat} : RdC (Fz B M p) M.w (.slice e t) [.slice ad n c] l → VR B M (.ro p e t l) (.slice ad n c)
  | row {o n c : Nat} {ad : Option Addr} : M.ρ o = .slice ad n c → VR B M (.row o) (.slice ad n c)
  | box {o b : Nat} (off : Nat) : M.ρ o = .pointer (some ⟨b, 0, none⟩) → VR B M (.box o off) (.pointer (some ⟨b, off, none⟩))
  | elt {o b n c : Nat} (sz i off : Nat) : M.ρ o = .slice (some ⟨b, 0, none⟩) n c → VR B M (.elt o sz i off) (.pointer (some ⟨b, i * sz + off, none⟩))
  | rel {p : Bool} {t : Ty} {x : t.T} {off : Nat} {ad : Addr} {us : List Value} : Fz B M p ad.block → RdC (Fz B M p) M.w t us x →
      (∀ i u, us[i]? = some u → M.w.cell? (ad.add i) = some u) → VR B M (.rel p t x off) (.pointer (some (ad.add off)))
  | agg {cs : List AV} {vs : List Value} : VRs B M cs vs → VR B M (.agg cs) (.agg vs.toArray)
  | tup {cs : List AV} {vs : List Value} : VRs B M cs vs → VR B M (.tup cs) (.tuple vs.toArray)
  | clo (f : Nat) {cs : List AV} {vs : List Value} : VRs B M cs vs → VR B M (.clo f cs) (.func (.func f) #[] vs.toArray)
  | nilp : VR B M .nilp (.pointer none)
  | undef (v : Value) : VR B M .undef v
inductive VRs (B : Rg) (M : Mem) : List AV → List Value → Prop
  | nil : VRs B M [] []
  | cons {c : AV} {v : Value} {cs : List AV} {vs : List Value} : VR B M c v → VRs B M cs vs → VRs B M (c :: cs) (v :: vs)
end

theorem VR.ro' {B : Rg} {M : Mem} {p : Bool} {e : TypeId} {t : Ty} {l : List t.T} {v : Value} (h : RdC (Fz B M p) M.w (.slice e t) [v] l) : VR B M (.ro p e t l) v := by
  have h' := h
  simp only [RdC] at h'
  obtain ⟨a, c, h', _⟩ := h'
  simp only [List.cons.injEq, and_true] at h'
  subst h'
  exact .ro h
theorem VRs.len {B : Rg} {M : Mem} : ∀ {cs : List AV} {vs : List Value}, VRs B M cs vs → cs.length = vs.length
  | [], _, h => by cases h; rfl
  | _ :: _, _, h => by cases h with | cons _ h => simp [VRs.len h]
theorem VRs.at {B : Rg} {M : Mem} : ∀ {cs : List AV} {vs : List Value}, VRs B M cs vs → ∀ (i : Nat) (c : AV), cs[i]? = some c → ∃ v, vs[i]? = some v ∧ VR B M c v
  | [], _, _, i, c, hc => by simp at hc
  | _ :: _, _, h, i, c, hc => by
    cases h with
    | cons h1 h2 =>
      cases i with
      | zero => simp at hc; subst hc; exact ⟨_, rfl, h1⟩
      | succ i => simpa using VRs.at h2 i c (by simpa using hc)
theorem VRs.at' {B : Rg} {M : Mem} : ∀ {cs : List AV} {vs : List Value}, VRs B M cs vs → ∀ (i : Nat) (v : Value), vs[i]? = some v → ∃ c, cs[i]? = some c ∧ VR B M c v
  | [], _, h, i, c, hc => by cases h; simp at hc
  | _ :: _, _, h, i, c, hc => by
    cases h with
    | cons h1 h2 =>
      cases i with
      | zero => simp at hc; subst hc; exact ⟨_, rfl, h1⟩
      | succ i => simpa using VRs.at' h2 i c (by simpa using hc)
theorem VRs.append {B : Rg} {M : Mem} : ∀ {cs ds : List AV} {vs us : List Value}, VRs B M cs vs → VRs B M ds us → VRs B M (cs ++ ds) (vs ++ us)
  | [], _, _, _, h, h' => by cases h; exact h'
  | _ :: _, _, _, _, h, h' => by cases h with | cons h1 h2 => exact .cons h1 (VRs.append h2 h')
theorem VRs.split {B : Rg} {M : Mem} : ∀ {cs ds : List AV} {vs : List Value}, VRs B M (cs ++ ds) vs → ∃ us us', vs = us ++ us' ∧ VRs B M cs us ∧ VRs B M ds us'
  | [], _, vs, h => ⟨[], vs, rfl, .nil, h⟩
  | _ :: _, _, _, h => by
    cases h with
    | cons h1 h2 =>
      obtain ⟨us, us', rfl, h3, h4⟩ := VRs.split h2
      exact ⟨_ :: us, us', rfl, .cons h1 h3, h4⟩
theorem VRs.drop {B : Rg} {M : Mem} : ∀ {cs : List AV} {vs : List Value} (n : Nat), VRs B M cs vs → VRs B M (cs.drop n) (vs.drop n)
  | _, _, 0, h => by simpa using h
  | [], _, n + 1, h => by cases h; exact .nil
  | _ :: _, _, n + 1, h => by cases h with | cons _ h2 => simpa using VRs.drop n h2
theorem VRs.take {B : Rg} {M : Mem} : ∀ {cs : List AV} {vs : List Value} (n : Nat), VRs B M cs vs → VRs B M (cs.take n) (vs.take n)
  | _, _, 0, _ => by simpa using .nil
  | [], _, n + 1, h => by cases h; exact .nil
  | _ :: _, _, n + 1, h => by cases h with | cons h1 h2 => simpa using .cons h1 (VRs.take n h2)
theorem VRs.set {B : Rg} {M : Mem} : ∀ {cs : List AV} {vs : List Value} (i : Nat) {c : AV} {v : Value}, VRs B M cs vs → VR B M c v → VRs B M (cs.set i c) (vs.set i v)
  | [], _, i, _, _, h, _ => by cases h; simpa using .nil
  | _ :: _, _, i, _, _, h, hc => by
    cases h with
    | cons h1 h2 =>
      cases i with
      | zero => exact .cons hc h2
      | succ i => exact .cons h1 (VRs.set i h2 hc)

/-- What is told of an object. -/
def OR (B : Rg) (M : Mem) (o : Nat) : Ob → Prop
  | .box q T cells => ∃ b cs, M.ρ o = .pointer (some ⟨b, 0, none⟩) ∧ M.own b = some o ∧ (q = false → ∀ b', M.own b' = some o → B.B ≤ b') ∧ M.w.heap[b]? = some (.cells cs T (0, 0)) ∧ VRs B M cells cs.toList
  | .row q p e t l => ∃ xs, M.w.ownsRow 0 e t.sz (M.ρ o) l.length xs ∧ (∀ g, (M.ρ o).ownBlock = some g → M.own g = some o) ∧ (q = false → ∀ b, M.own b = some o → B.B ≤ b) ∧ RdL (Fz B M p) M.w t xs l

/-! ### Ids -/
mutual
/-- None of these ids is named. -/
def AV.free (nw : List Nat) : AV → Bool
  | .row o => !nw.contains o
  | .box o _ => !nw.contains o
  | .elt o _ _ _ => !nw.contains o
  | .agg cs => freeAll nw cs
  | .tup cs => freeAll nw cs
  | .clo _ cs => freeAll nw cs
  | _ => true
def freeAll (nw : List Nat) : List AV → Bool
  | [] => true
  | c :: cs => c.free nw && freeAll nw cs
end
def Ob.free (nw : List Nat) : Ob → Bool
  | .box _ _ cs => freeAll nw cs
  | _ => true

/-! ### How a world goes on -/
/-- From M to M': what is owned by none, and what is owned by an object that is not in S, stays. -/
structure Stays (S : Nat → Prop) (M M' : Mem) : Prop where
  size : M.w.heap.size ≤ M'.w.heap.size
  fro : ∀ b, b < M.w.heap.size → M.own b = none → M'.own b = none ∧ M'.w.heap[b]? = M.w.heap[b]?
  obs : ∀ b o, M.own b = some o → ¬ S o → M'.own b = some o ∧ M'.w.heap[b]? = M.w.heap[b]?
  os : M'.w.os = M.w.os
  tape : M'.w.tape = M.w.tape
  output : M'.w.output = M.w.output

theorem Fz.stays {S : Nat → Prop} {B : Rg} {M M' : Mem} (hs : Stays S M M') {p : Bool} : ∀ b, Fz B M p b → b < M.w.heap.size → Fz B M' p b ∧ M'.w.heap[b]? = M.w.heap[b]? :=
  fun b hb hlt => ⟨⟨(hs.fro b hlt hb.1).1, hb.2⟩, (hs.fro b hlt hb.1).2⟩

mutual
theorem VR.stays {S : Nat → Prop} {B : Rg} {M M' : Mem} {nw : List Nat} (hs : Stays S M M') (hρ : ∀ o, o ∉ nw → M'.ρ o = M.ρ o) : ∀ {c : AV} {v : Value}, VR B M c v → c.free nw = true → VR B M' c v
  | _, _, .int k n, _ => .int k n
  | _, _, .byte x, _ => .byte x
  | _, _, .bool b, _ => .bool b
  | _, _, .str s, _ => .str s
  | _, _, .nil, _ => .nil
  | _, _, .ro h, _ => .ro (h.mono (Fz.stays hs))
  | _, _, .row h, hl => .row ((hρ _ (by simpa [AV.free] using hl)).trans h)
  | _, _, .box off h, hl => .box off ((hρ _ (by simpa [AV.free] using hl)).trans h)
  | _, _, .elt sz i off h, hl => .elt sz i off ((hρ _ (by simpa [AV.free] using hl)).trans h)
  | .rel _ t _ _, _, .rel (ad := ad) (us := us) h1 h2 h3, _ => by
    have hlt : ad.block < M.w.heap.size := by
      have hp := t.sz_pos
      have hl := h2.len
      have := h3 0 us[0] (by simp [List.getElem?_eq_getElem (show 0 < us.length by omega)])
      have := cell_lt this
      rwa [add_block] at this
    obtain ⟨h1', hb⟩ := Fz.stays hs _ h1 hlt
    exact .rel h1' (h2.mono (Fz.stays hs)) fun i u hi => (cell_eq (by rw [add_block]; exact hb)).trans (h3 i u hi)
  | _, _, .agg h, hl => .agg (VRs.stays hs hρ h (by simpa [AV.free] using hl))
  | _, _, .tup h, hl => .tup (VRs.stays hs hρ h (by simpa [AV.free] using hl))
  | _, _, .clo f h, hl => .clo f (VRs.stays hs hρ h (by simpa [AV.free] using hl))
  | _, _, .nilp, _ => .nilp
  | _, _, .undef v, _ => .undef v
theorem VRs.stays {S : Nat → Prop} {B : Rg} {M M' : Mem} {nw : List Nat} (hs : Stays S M M') (hρ : ∀ o, o ∉ nw → M'.ρ o = M.ρ o) : ∀ {cs : List AV} {vs : List Value}, VRs B M cs vs → freeAll nw cs = true → VRs B M' cs vs
  | _, _, .nil, _ => .nil
  | _, _, .cons h1 h2, hl => by
    simp only [freeAll, Bool.and_eq_true] at hl
    exact .cons (VR.stays hs hρ h1 hl.1) (VRs.stays hs hρ h2 hl.2)
end

theorem OR.stays {S : Nat → Prop} {B : Rg} {M M' : Mem} {nw : List Nat} {o : Nat} {ob : Ob} (hs : Stays S M M') (hρ : ∀ o, o ∉ nw → M'.ρ o = M.ρ o) (h : OR B M o ob) (ho : o ∉ nw) (hl : ob.free nw = true) (hS : ¬ S o) (hback : ∀ b, M'.own b = some o → M.own b = some o) : OR B M' o ob := by
  cases ob with
  | box q T cells =>
    obtain ⟨b, cs, h1, h2, hq, h3, h4⟩ := h
    obtain ⟨h5, h6⟩ := hs.obs b o h2 hS
    exact ⟨b, cs, (hρ o ho).trans h1, h5, fun h b' hb' => hq h b' (hback b' hb'), h6.trans h3, h4.stays hs hρ (by simpa [Ob.free] using hl)⟩
  | row q p e t l =>
    obtain ⟨xs, h1, h2, hq, h3⟩ := h
    refine ⟨xs, ?_, fun g hg => ?_, fun h b' hb' => hq h b' (hback b' hb'), h3.mono (Fz.stays hs)⟩
    · rw [hρ o ho]
      refine ⟨h1.1, ?_⟩
      rcases h1.2 with hn | ⟨g, cap, cur, he, hb, hh, rest⟩
      · exact .inl hn
      · exact .inr ⟨g, cap, cur, he, hb, (hs.obs g o (h2 g (by rw [he]; rfl)) hS).2.trans hh, rest⟩
    · rw [hρ o ho] at hg
      exact (hs.obs g o (h2 g hg) hS).1

/-! ### States -/
structure VS where
  sl' : Nat → Option AV
  ob' : Nat → Option Ob

structure Env where
  w0 : World
  own0 : Nat → Option Nat
  ρ0 : Nat → Value
  I0 : Nat
  nt : Nat
  old : Nat → Prop

structure Fr (E : Env) (M : Mem) : Prop where
  size : E.w0.heap.size ≤ M.w.heap.size
  old : ∀ b, b < E.w0.heap.size → E.own0 b = none → M.own b = none ∧ M.w.heap[b]? = E.w0.heap[b]?
  ids : ∀ o, o < E.I0 → M.ρ o = E.ρ0 o
  bound : ∀ b o, M.own b = some o → b < M.w.heap.size
  inO : ∀ b o, M.own b = some o → E.w0.heap.size ≤ b ∨ E.old b
  os : M.w.os = E.w0.os
  tape : M.w.tape = E.w0.tape
  output : M.w.output = E.w0.output

def Env.B (E : Env) : Rg := ⟨E.w0.heap.size, E.old⟩

structure SRm (E : Env) (st : VS) (a : Act) (M : Mem) : Prop where
  fr : Fr E M
  slots : ∀ i c, st.sl' i = some c → ∃ v, a.tmps[i]? = some v ∧ VR E.B M c v
  obs : ∀ o ob, st.ob' o = some ob → OR E.B M o ob
  own_in : ∀ b o, M.own b = some o → ∃ ob, st.ob' o = some ob
  tmps : a.tmps.size = E.nt
  defers : a.defers = []

def SR (E : Env) (st : VS) (a : Act) (w : World) : Prop := ∃ own ρ, SRm E st a ⟨own, ρ, w⟩

end Go.V

/- The by-value machine, part 2: what each operation does, by a function that the kernel can run. -/
namespace Go.V
open Go

/-! ### The table of types -/
inductive TSh where
  | int (k : IntKind)
  | bool
  | str
  | slice (e : TypeId)
  | struct (fs : List (TypeId × Nat))
  | other

def shOf : TypeDesc → TSh
  | .int k => .int k
  | .bool => .bool
  | .string => .str
  | .slice e => .slice e
  | .struct fs => .struct (fs.toList.map fun f => (f.type, f.offset))
  | _ => .other

structure TE where
  sh : TSh
  agg : Bool
  size : Nat
  bytes : Nat
  zero : List Value

def aggOf : TypeDesc → Bool
  | .struct _ | .array _ _ => true
  | _ => false

def teOf (P : Program) (T : TypeId) : Option TE :=
  match P.underlying T, P.info? T with
  | some d, some i => match i.zero with
    | some z => some ⟨shOf d, aggOf d, i.size, i.bytes, z.cells.toList⟩
    | none => none
  | _, _ => none

def zcells : Ty → List Value
  | .int k => [.int k 0]
  | .byte => [.int .u8 0]
  | .bool => [.bool false]
  | .str => [.string ⟨⟨[]⟩⟩]
  | .slice _ _ => [.slice none 0 0]
  | .pair a b => zcells a ++ zcells b

structure Tab where
  te : List (Nat × TE)
  ty : List (Nat × Ty)

/-- The table tells the program's types. -/
structure TabOk (P : Program) (tab : Tab) : Prop where
  te : tab.te.map (fun x => teOf P x.1) = tab.te.map (fun x => some x.2)
  ty : tab.ty.map (fun x => (tab.te.lookup x.1).map fun te => (te.size, te.zero)) = tab.ty.map (fun x => some (x.2.sz, zcells x.2))
  bytes : tab.te.all (fun x => decide (0 < x.2.bytes ∧ x.2.bytes ≤ 512)) = true

def shT (tab : Tab) (T : TypeId) : Option TSh :=
  match tab.te.lookup T with
  | some te => some te.sh
  | none => none
/-- A slice type's element type, and how an element reads. -/
def elT (tab : Tab) (T : TypeId) : Option (TypeId × Ty) :=
  match tab.te.lookup T with
  | some ⟨.slice e, _, _, _, _⟩ => match tab.ty.lookup e with
    | some t => some (e, t)
    | none => none
  | _ => none

/-! ### Values -/
def Ty.cast? (t t' : Ty) (x : t.T) : Option t'.T := if h : t = t' then some (h ▸ x) else none
def Ty.castL? (t t' : Ty) (x : List t.T) : Option (List t'.T) := if h : t = t' then some (h ▸ x) else none

/-- No slices inside. -/
def Ty.flat : Ty → Bool
  | .slice _ _ => false
  | .pair a b => a.flat && b.flat
  | _ => true

/-- A typed value's cells. -/
def cellsOf (p : Bool) : (t : Ty) → t.T → List AV
  | .int k, x => [.int k x]
  | .byte, x => [.byte x]
  | .bool, x => [.bool x]
  | .str, x => [.str x]
  | .slice e t, x => [.ro p e t x]
  | .pair a b, x => cellsOf p a x.1 ++ cellsOf p b x.2

def AV.cells : AV → List AV
  | .agg cs => cs
  | v => [v]
/-- The value of one cell. -/
def AV.one : AV → Bool
  | .agg _ => false
  | .tup _ => false
  | .undef => false
  | _ => true
/-- A value whose cells are told. -/
def AV.known : AV → Bool
  | .tup _ => false
  | .undef => false
  | _ => true

def constAV : Value → AV
  | .int .u8 n => if 0 ≤ n ∧ n < 256 then .byte (UInt8.ofNat n.toNat) else .undef
  | .int k n => .int k n
  | .bool b => .bool b
  | .string s => .str s.data.toList
  | .slice none 0 0 => .nil
  | .pointer none => .nilp
  | _ => .undef

def evalO (sl : Nat → Option AV) : Operand → Option AV
  | .tmp t => sl t
  | .const v => some (constAV v)
  | .func f => some (.clo f [])
  | .global _ => none

/-! ### Whole numbers -/
def ivOf : AV → Option (IntKind × Int)
  | .int .u8 _ => none
  | .int k n => some (k, n)
  | .byte x => some (.u8, (x.toNat : Int))
  | _ => none
def mkInt (k : IntKind) (n : Int) : AV :=
  match k with
  | .u8 => .byte (UInt8.ofNat n.toNat)
  | k => .int k n
def bitI (op : BinOp) (k : IntKind) (x y : Int) : Int :=
  let a := BitVec.ofInt k.bits x
  let b := BitVec.ofInt k.bits y
  match op with
  | .and => k.wrap (a &&& b).toNat
  | .or => k.wrap (a ||| b).toNat
  | .xor => k.wrap (a ^^^ b).toNat
  | _ => k.wrap (a &&& ~~~b).toNat
def shlI (k : IntKind) (x y : Int) : Int := k.wrap (x * 2 ^ (min y.toNat k.bits))
def shrI (k : IntKind) (x y : Int) : Int := x.fdiv (2 ^ (min y.toNat k.bits))

def LIM : Nat := 274877906944

def intBin (op : BinOp) (k : IntKind) (a b : Int) : Option (AV × Prop) :=
  match op with
  | .add => some (mkInt k (k.wrap (a + b)), True)
  | .sub => some (mkInt k (k.wrap (a - b)), True)
  | .mul => some (mkInt k (k.wrap (a * b)), True)
  | .quo => some (mkInt k (k.wrap (a.tdiv b)), b ≠ 0)
  | .rem => if k = .u8 then none else some (.int k (a.tmod b), b ≠ 0)
  | .and => some (mkInt k (bitI .and k a b), True)
  | .or => some (mkInt k (bitI .or k a b), True)
  | .xor => some (mkInt k (bitI .xor k a b), True)
  | .eql => some (.bool (a == b), True)
  | .neq => some (.bool (a != b), True)
  | .lss => some (.bool (decide (a < b)), True)
  | .leq => some (.bool (decide (a ≤ b)), True)
  | .gtr => some (.bool (decide (a > b)), True)
  | .geq => some (.bool (decide (a ≥ b)), True)
  | _ => none

def eqC : AV → AV → Option Bool
  | .int k a, .int k' b => if k = k' then some (a == b) else none
  | .byte a, .byte b => some ((a.toNat : Int) == (b.toNat : Int))
  | .bool a, .bool b => some (a == b)
  | .str a, .str b => some (a == b)
  | _, _ => none
def eqCs : List AV → List AV → Option Bool
  | [], [] => some true
  | [a], [b] => eqC a b
  | a :: as, b :: bs => match eqC a b, eqCs as bs with
    | some x, some y => some (x && y)
    | _, _ => none
  | _, _ => none

/-- '==' and '!=' of structs of type T as the machine has them. -/
def EqOk (P : Program) (T : TypeId) (xs ys : List AV) (r : Bool) : Prop :=
  ∀ (B : Rg) (M : Mem) (vs us : List Value) (x y : Operand), VRs B M xs vs → VRs B M ys us →
    ((do eqGuard .eql T x y (.agg vs.toArray) (.agg us.toArray); binOp .eql T (.agg vs.toArray) (.agg us.toArray) : Sem Value).run P M.w = .ok (.bool r) M.w) ∧
    ((do eqGuard .neq T x y (.agg vs.toArray) (.agg us.toArray); binOp .neq T (.agg vs.toArray) (.agg us.toArray) : Sem Value).run P M.w = .ok (.bool (!r)) M.w)

def strBin (op : BinOp) (a b : List UInt8) : Option (AV × Prop) :=
  match op with
  | .eql => some (.bool (a == b), True)
  | .neq => some (.bool (!(a == b)), True)
  | .add => some (.str (a ++ b), a.length + b.length ≤ LIM)
  | .lss => some (.bool (Op.bytesLess a b), True)
  | _ => none

def binAV (P : Program) (tab : Tab) (op : BinOp) (T : TypeId) (x y : AV) : Option (AV × Prop) :=
  match x, y with
  | .str a, .str b => strBin op a b
  | .bool a, .bool b => match shT tab T, op with
    | some .bool, .eql => some (.bool (a == b), True)
    | some .bool, .neq => some (.bool (!(a == b)), True)
    | _, _ => none
  | .agg xs, .agg ys => match eqCs xs ys, op with
    | some r, .eql => some (.bool r, EqOk P T xs ys r)
    | some r, .neq => some (.bool (!r), EqOk P T xs ys r)
    | _, _ => none
  | x, y => match ivOf x, ivOf y with
    | some (k, a), some (k', b) => match op with
      | .shl => some (mkInt k (shlI k a b), 0 ≤ b)
      | .shr => some (mkInt k (shrI k a b), 0 ≤ b)
      | op => if k = k' then intBin op k a b else none
    | _, _ => none

def unAV (op : UnOp) (x : AV) : Option AV :=
  match op, x with
  | .not, .bool b => some (.bool (!b))
  | .neg, .int k n => some (mkInt k (k.wrap (0 - n)))
  | .xor, .int k n => some (mkInt k (bitI .xor k (if k.signed then -1 else k.max) n))
  | _, _ => none

/-! ### Typed values out of cells -/
/-- Out of cells a typed value, whether its slices may be from outside, and the objects that are frozen by it. -/
def parse (lob : Nat → Option Ob) : (t : Ty) → List AV → Option (t.T × Bool × List Nat)
  | .int k, cs => match cs with
    | [.int k' n] => if k = k' then some ((n : Int), false, []) else none
    | _ => none
  | .byte, cs => match cs with
    | [.byte x] => some ((x : UInt8), false, [])
    | _ => none
  | .bool, cs => match cs with
    | [.bool b] => some ((b : Bool), false, [])
    | _ => none
  | .str, cs => match cs with
    | [.str s] => some ((s : List UInt8), false, [])
    | _ => none
  | .slice e t, cs => match cs with
    | [.ro p e' t' l] => if e = e' then match t'.castL? t l with
        | some l => some ((l : List t.T), p, [])
        | none => none
      else none
    | [.nil] => some (([] : List t.T), false, [])
    | [.row o] => match lob o with
      | some (.row q p e' t' l) => if e = e' then match t'.castL? t l with
          | some l => some ((l : List t.T), p || q, [o])
          | none => none
        else none
      | _ => none
    | _ => none
  | .pair a b, cs => match parse lob a (cs.take a.sz), parse lob b (cs.drop a.sz) with
    | some (x, p, f), some (y, q, g) => some ((x, y), p || q, f ++ g)
    | _, _ => none

/-- Cells off, off + 1, .. of a typed value set anew. -/
def upd (lob : Nat → Option Ob) : (t : Ty) → (off n : Nat) → List AV → t.T → Option (t.T × Bool × List Nat)
  | .pair a b, off, n, cs, x =>
    if off = 0 ∧ n = a.sz + b.sz then parse lob (.pair a b) cs
    else if off + n ≤ a.sz then match upd lob a off n cs x.1 with
      | some (y, p, f) => some ((y, x.2), p, f)
      | none => none
    else if a.sz ≤ off then match upd lob b (off - a.sz) n cs x.2 with
      | some (y, p, f) => some ((x.1, y), p, f)
      | none => none
    else none
  | .int k, off, n, cs, _ => if off = 0 ∧ n = 1 then parse lob (.int k) cs else none
  | .byte, off, n, cs, _ => if off = 0 ∧ n = 1 then parse lob .byte cs else none
  | .bool, off, n, cs, _ => if off = 0 ∧ n = 1 then parse lob .bool cs else none
  | .str, off, n, cs, _ => if off = 0 ∧ n = 1 then parse lob .str cs else none
  | .slice e t, off, n, cs, _ => if off = 0 ∧ n = 1 then parse lob (.slice e t) cs else none

/-! ### Calls -/
structure CI where
  /-- which objects are lent: their numbers there and here -/
  lend : List (Nat × Nat)
  /-- numbers there and here of what comes back -/
  back : List (Nat × Nat)
  res : AV
  robs : List (Nat × Ob)

/-- The new numbers of what comes back. -/
def newOf (ci : CI) : List Nat := (ci.back.filter fun x => !ci.lend.contains x).map (·.2)

/-- A function that is entered when it is called. -/
def FnOk (P : Program) (f : FuncId) : Prop := ∃ fn, P.funcs[f]? = some fn ∧ (fn.name == "runtime.NumGoroutine") = false ∧ fn.body.isNone = false

/-- All numbers are below it. -/
def topOf : List (Nat × Ob) → Nat
  | [] => 0
  | (o, _) :: r => max (o + 1) (topOf r)

def VCalls (P : Program) (f : FuncId) (args : List AV) (objs : List (Nat × Ob)) (Q : AV → List (Nat × Ob) → Prop) : Prop :=
  FnOk P f ∧ ∀ (w : World) (own : Nat → Option Nat) (ρ : Nat → Value) (old : Nat → Prop) (vs : List Value),
    (∀ b o, own b = some o → b < w.heap.size ∧ old b ∧ ∃ ob, objs.lookup o = some ob) →
    (∀ o ob, objs.lookup o = some ob → OR ⟨w.heap.size, old⟩ ⟨own, ρ, w⟩ o ob) →
    VRs ⟨w.heap.size, old⟩ ⟨own, ρ, w⟩ args vs →
    Calls P f vs.toArray w fun e w' => ∃ v res robs own' ρ', e = .returned v ∧ Q res robs ∧ Fr ⟨w, own, ρ, topOf objs, 0, old⟩ ⟨own', ρ', w'⟩ ∧
      VR ⟨w.heap.size, old⟩ ⟨own', ρ', w'⟩ res v ∧ (∀ o ob, robs.lookup o = some ob → OR ⟨w.heap.size, old⟩ ⟨own', ρ', w'⟩ o ob) ∧ ∀ b o, own' b = some o → ∃ ob, robs.lookup o = some ob

/-- The caller's number of an object, told in the callee's. -/
def embOf (lend : List (Nat × Nat)) (o : Nat) : Option Nat :=
  match lend with
  | [] => none
  | (o', x) :: r => if x = o then some o' else embOf r o

mutual
/-- A value as the callee has it. What is an own row, and not lent, is read. -/
def toCallee (lob : Nat → Option Ob) (lend : List (Nat × Nat)) : AV → Option AV
  | .row o => match embOf lend o with
    | some o' => some (.row o')
    | none => match lob o with
      | some (.row _ _ e t l) => some (.ro true e t l)
      | _ => none
  | .box o off => (embOf lend o).map fun o' => .box o' off
  | .elt _ _ _ _ => none
  | .ro _ e t l => some (.ro true e t l)
  | .rel _ t x off => some (.rel true t x off)
  | .agg cs => (toCallees lob lend cs).map .agg
  | .tup cs => (toCallees lob lend cs).map .tup
  | .clo f cs => (toCallees lob lend cs).map (.clo f)
  | v => some v
def toCallees (lob : Nat → Option Ob) (lend : List (Nat × Nat)) : List AV → Option (List AV)
  | [] => some []
  | c :: cs => match toCallee lob lend c, toCallees lob lend cs with
    | some d, some ds => some (d :: ds)
    | _, _ => none
end

/-- An argument: nil is told as the slice that it is. -/
def argTo (tab : Tab) (lob : Nat → Option Ob) (lend : List (Nat × Nat)) (T : TypeId) (c : AV) : Option AV :=
  match c with
  | .nil => match elT tab T with
    | some (e, t) => some (.ro true e t [])
    | none => none
  | c => toCallee lob lend c
def argsTo (tab : Tab) (lob : Nat → Option Ob) (lend : List (Nat × Nat)) : List TypeId → List AV → Option (List AV)
  | [], [] => some []
  | T :: Ts, c :: cs => match argTo tab lob lend T c, argsTo tab lob lend Ts cs with
    | some d, some ds => some (d :: ds)
    | _, _ => none
  | _, _ => none

mutual
/-- Are there own rows among what is handed over, that are not lent? -/
def AV.roV (lend : List (Nat × Nat)) : AV → Bool
  | .row o => (embOf lend o).isNone
  | .agg cs => roAll lend cs
  | .tup cs => roAll lend cs
  | .clo _ cs => roAll lend cs
  | _ => false
def roAll (lend : List (Nat × Nat)) : List AV → Bool
  | [] => false
  | c :: cs => c.roV lend || roAll lend cs
end
def roObjs (lob : Nat → Option Ob) (lend : List (Nat × Nat)) : List (Nat × Nat) → Bool
  | [] => false
  | (_, o) :: r => (match lob o with
    | some (.box _ _ cs) => roAll lend cs
    | _ => false) || roObjs lob lend r

def objTo (lob : Nat → Option Ob) (lend : List (Nat × Nat)) : Ob → Option Ob
  | .box _ T cs => (toCallees lob lend cs).map (.box true T)
  | .row _ _ e t l => some (.row true (!t.flat) e t l)
def objsTo (lob : Nat → Option Ob) (lend : List (Nat × Nat)) : List (Nat × Nat) → Option (List (Nat × Ob))
  | [] => some []
  | (o', o) :: r => match lob o with
    | some ob => match objTo lob lend ob, objsTo lob lend r with
      | some x, some y => some ((o', x) :: y)
      | _, _ => none
    | none => none

mutual
/-- Is anything from outside among what is handed over? -/
def AV.oldV (lob : Nat → Option Ob) : AV → Bool
  | .row o => match lob o with
    | some (.row q p _ _ _) => q || p
    | _ => true
  | .ro p _ _ _ => p
  | .rel p _ _ _ => p
  | .agg cs => oldAll lob cs
  | .tup cs => oldAll lob cs
  | .clo _ cs => oldAll lob cs
  | _ => false
def oldAll (lob : Nat → Option Ob) : List AV → Bool
  | [] => false
  | c :: cs => c.oldV lob || oldAll lob cs
end
mutual
/-- The rows that are handed over are told. -/
def AV.named (lob : Nat → Option Ob) : AV → Bool
  | .row o => (lob o).isSome
  | .agg cs => namedAll lob cs
  | .tup cs => namedAll lob cs
  | .clo _ cs => namedAll lob cs
  | _ => true
def namedAll (lob : Nat → Option Ob) : List AV → Bool
  | [] => true
  | c :: cs => c.named lob && namedAll lob cs
end
def namedObjs (lob : Nat → Option Ob) : List (Nat × Nat) → Bool
  | [] => true
  | (_, o) :: r => (match lob o with
    | some (.box _ _ cs) => namedAll lob cs
    | some _ => true
    | none => false) && namedObjs lob r

/-- .. or in the objects that are lent. -/
def oldObjs (lob : Nat → Option Ob) : List (Nat × Nat) → Bool
  | [] => false
  | (_, o) :: r => (match lob o with
    | some (.box q _ cs) => q || oldAll lob cs
    | some (.row q p _ _ _) => q || p
    | none => true) || oldObjs lob r

mutual
/-- What comes back, in the caller's numbers; 'ok': what is from outside may come back; 'od': it may be from outside here, too. -/
def ofCallee (ok od : Bool) (back : List (Nat × Nat)) : AV → Option AV
  | .row o => (back.lookup o).map .row
  | .box o off => (back.lookup o).map fun x => .box x off
  | .elt _ _ _ _ => none
  | .ro p e t l => if p && !ok then none else some (.ro (p && od) e t l)
  | .rel p t x off => if p && !ok then none else some (.rel (p && od) t x off)
  | .agg cs => (ofCallees ok od back cs).map .agg
  | .tup cs => (ofCallees ok od back cs).map .tup
  | .clo f cs => (ofCallees ok od back cs).map (.clo f)
  | v => some v
def ofCallees (ok od : Bool) (back : List (Nat × Nat)) : List AV → Option (List AV)
  | [] => some []
  | c :: cs => match ofCallee ok od back c, ofCallees ok od back cs with
    | some d, some ds => some (d :: ds)
    | _, _ => none
end
def objOf (ok od : Bool) (back : List (Nat × Nat)) : Ob → Option Ob
  | .box q T cs => (ofCallees ok od back cs).map (.box (q && od) T)
  | .row q p e t l => if p && !ok && !t.flat then none else some (.row (q && od) (p && od && !t.flat) e t l)
def objsOf (ok od : Bool) (back : List (Nat × Nat)) : List (Nat × Ob) → Option (List (Nat × Ob))
  | [] => some []
  | (o, ob) :: r => match back.lookup o, objOf ok od back ob, objsOf ok od back r with
    | some x, some y, some z => some ((x, y) :: z)
    | _, _, _ => none

/-! ### One operation -/
structure Eff where
  val : AV
  del : List Nat := []
  new : List Nat := []
  put : List (Nat × Ob) := []
  rd : List Nat := []
  obl : Prop := True

def idsOfCells : List AV → List Nat
  | [] => []
  | .row o :: cs => o :: idsOfCells cs
  | .box o _ :: cs => o :: idsOfCells cs
  | _ :: cs => idsOfCells cs

def loadAV (te : TE) (cells : List AV) (off : Nat) : Option AV :=
  if off + te.size ≤ cells.length then
    if te.agg then some (.agg ((cells.drop off).take te.size))
    else if te.size = 1 then cells[off]? else none
  else none

def setCells : List AV → Nat → List AV → List AV
  | cs, _, [] => cs
  | cs, i, v :: vs => setCells (cs.set i v) (i + 1) vs

def fillAV (places : List (Nat × Nat)) (cells : List AV) : List (Nat × AV) → Option (List AV)
  | [] => some cells
  | (i, v) :: rest => match places[i]? with
    | some (off, size) =>
      if v.cells.length = size ∧ off + size ≤ cells.length ∧ v.known = true then fillAV places (setCells cells off v.cells) rest else none
    | none => none

def placesOf (tab : Tab) : List (TypeId × Nat) → Option (List (Nat × Nat))
  | [] => some []
  | (T, off) :: r => match tab.te.lookup T, placesOf tab r with
    | some te, some l => some ((off, te.size) :: l)
    | _, _ => none

def evalParts (sl : Nat → Option AV) : List (Nat × Operand) → Option (List (Nat × AV))
  | [] => some []
  | (i, x) :: r => match evalO sl x, evalParts sl r with
    | some v, some l => some ((i, v) :: l)
    | _, _ => none
def evalAll (sl : Nat → Option AV) : List Operand → Option (List AV)
  | [] => some []
  | x :: r => match evalO sl x, evalAll sl r with
    | some v, some l => some (v :: l)
    | _, _ => none

/-- The elements of a slice literal, number by number. -/
def parseParts (lob : Nat → Option Ob) (t : Ty) : Nat → List (Nat × AV) → Option (List t.T × Bool × List Nat)
  | _, [] => some ([], false, [])
  | i, (j, v) :: r => if i = j then
      match parse lob t v.cells, parseParts lob t (i + 1) r with
      | some (x, p, f), some (l, q, g) => some (x :: l, p || q, f ++ g)
      | _, _ => none
    else none

/-- What a slice value reads as: element type, type, elements, whether from outside; its own object. -/
structure SlV where
  p : Bool
  e : TypeId
  t : Ty
  l : List t.T
  rd : List Nat

def slOf (lob : Nat → Option Ob) : AV → Option SlV
  | .ro p e t l => some ⟨p, e, t, l, []⟩
  | .row o => match lob o with
    | some (.row _ p e t l) => some ⟨p, e, t, l, [o]⟩
    | _ => none
  | _ => none

/-- What is appended, as elements of t. -/
def srcOf (tab : Tab) (lob : Nat → Option Ob) (T U : TypeId) (t : Ty) (y : AV) : Option (Bool × List t.T × List Nat) :=
  match y with
  | .nil => if T = U then some (false, [], []) else none
  | .str s => match shT tab U with
    | some .str => match Ty.castL? .byte t s with
      | some l => some (false, l, [])
      | none => none
    | _ => none
  | y => if T = U then match slOf lob y with
      | some v => match v.t.castL? t v.l with
        | some l => some (v.p, l, v.rd)
        | none => none
      | none => none
    else none

def appendAV (tab : Tab) (lob : Nat → Option Ob) (id : Nat) (T U : TypeId) (x y : AV) : Option Eff :=
  match elT tab T with
  | none => none
  | some (e, t) => match srcOf tab lob T U t y with
    | none => none
    | some (q, m, rd) => match x with
      | .nil => some { val := .row id, new := [id], put := [(id, .row false (q && !t.flat) e t m)], rd := rd, obl := m.length ≤ LIM }
      | .row o => match lob o with
        | some (.row x p e' t' l) => if e = e' then match t'.castL? t l with
            | some l => some { val := .row id, del := [o], new := [id], put := [(id, .row x ((p || q) && !t.flat) e t (l ++ m))], rd := o :: rd, obl := l.length + m.length ≤ LIM }
            | none => none
          else none
        | _ => none
      | _ => none

def lenAV (tab : Tab) (lob : Nat → Option Ob) (T : TypeId) (x : AV) : Option (Int × List Nat) :=
  match shT tab T with
  | some .str => match x with
    | .str s => some ((s.length : Int), [])
    | _ => none
  | some (.slice _) => match x with
    | .nil => some (0, [])
    | x => match slOf lob x with
      | some v => some ((v.l.length : Int), v.rd)
      | none => none
  | _ => none

/-- A cut of a slice or of a string, its bounds as numbers. -/
def cutL {α : Type} (l : List α) : Option Int → Option Int → List α × Prop
  | none, none => (l, True)
  | none, some h => (l.take h.toNat, 0 ≤ h ∧ h ≤ (l.length : Int))
  | some a, none => (l.drop a.toNat, 0 ≤ a ∧ a ≤ (l.length : Int))
  | some a, some h => ((l.take h.toNat).drop a.toNat, 0 ≤ a ∧ a ≤ h ∧ h ≤ (l.length : Int))

def optInt (sl : Nat → Option AV) : Option Operand → Option (Option Int)
  | none => some none
  | some x => match evalO sl x with
    | some (.int .i64 n) => some (some n)
    | _ => none

def sliceAV (lob : Nat → Option Ob) (id : Nat) (x : AV) (lo hi : Option Int) : Option Eff :=
  match x with
  | .str s => some { val := .str (cutL s lo hi).1, obl := (cutL s lo hi).2 }
  | .ro p e t l => some { val := .ro p e t (cutL l lo hi).1, obl := (cutL l lo hi).2 }
  | .row o => match lob o with
    | some (.row q p e t l) => match lo with
      | none => some { val := .row id, del := [o], new := [id], put := [(id, .row q p e t (cutL l none hi).1)], rd := [o], obl := (cutL l none hi).2 }
      | some _ => some { val := .ro (p || q) e t (cutL l lo hi).1, del := [o], rd := [o], obl := (cutL l lo hi).2 }
    | _ => none
  | _ => none

/-- A slice type of bytes. -/
def bytesT (tab : Tab) (T : TypeId) : Bool :=
  match elT tab T with
  | some (e, .byte) => match shT tab e with
    | some (.int .u8) => true
    | _ => false
  | _ => false

def convAV (tab : Tab) (lob : Nat → Option Ob) (S D : TypeId) (x : AV) : Option Eff :=
  match shT tab S, shT tab D with
  | some (.int _), some (.int k) => match ivOf x with
    | some (_, n) => some { val := mkInt k (k.wrap n) }
    | none => none
  | some (.slice _), some .str => if bytesT tab S then match x with
      | .nil => some { val := .str [] }
      | x => match slOf lob x with
        | some ⟨_, _, .byte, l, rd⟩ => some { val := .str l, rd := rd }
        | _ => none
    else none
  | some .str, some (.slice e) => if bytesT tab D then match x with
      | .str s => some { val := .ro false e .byte s, obl := s.length ≤ LIM }
      | _ => none
    else none
  | _, _ => none

def loadE (te : TE) (x : AV) (lob : Nat → Option Ob) : Option Eff :=
  match x with
  | .box o off => match lob o with
    | some (.box _ _ cells) => match loadAV te cells off with
      | some v => some { val := v, rd := [o] }
      | none => none
    | _ => none
  | .elt o sz i off => match lob o with
    | some (.row _ p _ t l) => if sz = t.sz then match loadAV te (cellsOf p t (l.getD i t.dflt)) off with
        | some v => some { val := v, rd := [o], obl := i < l.length }
        | none => none
      else none
    | _ => none
  | .rel p t x off => match loadAV te (cellsOf p t x) off with
    | some v => some { val := v }
    | none => none
  | _ => none

def storeE (te : TE) (lob : Nat → Option Ob) (x v : AV) : Option Eff :=
  if v.cells.length = te.size ∧ v.cells.all AV.one = true then
    match x with
    | .box o off => match lob o with
      | some (.box q T cells) => if off + te.size ≤ cells.length then
          some { val := .undef, put := [(o, .box q T (setCells cells off v.cells))], rd := [o] }
        else none
      | _ => none
    | .elt o sz i off => match lob o with
      | some (.row x p e t l) => if sz = t.sz then match upd lob t off te.size v.cells (l.getD i t.dflt) with
          | some (y, q, f) => if f.contains o then none else
            some { val := .undef, del := f, put := [(o, .row x ((p || q) && !t.flat) e t (l.set i y))], rd := o :: f, obl := i < l.length }
          | none => none
        else none
      | _ => none
    | _ => none
  else none

def fieldOff (tab : Tab) (T : TypeId) (f : Nat) : Option Nat :=
  match shT tab T with
  | some (.struct fs) => match fs[f]? with
    | some (U, off) => match tab.te.lookup U with
      | some te => if te.size = 0 then none else some off
      | none => none
    | none => none
  | _ => none

def fieldE (fo : Nat) : AV → Option AV
  | .box o off => some (.box o (off + fo))
  | .elt o sz i off => some (.elt o sz i (off + fo))
  | .rel p t x off => some (.rel p t x (off + fo))
  | _ => none

def nodupB : List Nat → Bool
  | [] => true
  | x :: l => !l.contains x && nodupB l
/-- The numbers are each the other's own; what is new lies from id on. -/
def ciOk (id : Nat) (ci : CI) : Bool :=
  nodupB (ci.lend.map (·.1)) && nodupB (ci.lend.map (·.2)) && nodupB (ci.back.map (·.1)) && nodupB (ci.back.map (·.2)) &&
  ci.lend.all (fun x => match ci.back.lookup x.1 with | some y => y == x.2 | none => true) &&
  ci.lend.all (fun x => decide (x.2 < id)) && (newOf ci).all (fun x => decide (id ≤ x)) && nodupB (ci.robs.map (·.1))

def callE (P : Program) (tab : Tab) (lob : Nat → Option Ob) (id : Nat) (f : Nat) (Ts : List TypeId) (args caps : List AV) (ci : CI) : Option Eff :=
  let ok := !(roAll ci.lend (args ++ caps) || roObjs lob ci.lend ci.lend)
  let od := oldAll lob (args ++ caps) || oldObjs lob ci.lend
  match argsTo tab lob ci.lend Ts args, toCallees lob ci.lend caps, objsTo lob ci.lend ci.lend, ofCallee ok od ci.back ci.res, objsOf ok od ci.back ci.robs with
  | some as, some cs, some os, some r, some ro =>
    if ciOk id ci && (namedAll lob (args ++ caps) && namedObjs lob ci.lend) then
      some { val := r, del := ci.lend.map (·.2), new := newOf ci, put := ro, rd := idsOfCells (args ++ caps) ++ ci.lend.map (·.2), obl := VCalls P f (as ++ cs) os fun r os => r = ci.res ∧ os = ci.robs }
    else none
  | _, _, _, _, _ => none

def builtinE (tab : Tab) (lob : Nat → Option Ob) (id : Nat) (b : Builtin) (Ts : List TypeId) (args : List AV) : Option Eff :=
  match b, Ts, args with
  | .len, [T], [x] => match lenAV tab lob T x with
    | some (n, rd) => some { val := .int .i64 n, rd := rd }
    | none => none
  | .append, [T, U], [x, y] => appendAV tab lob id T U x y
  | .min, [_, _], [.int .i64 a, .int .i64 b] => some { val := .int .i64 (if b < a then b else a) }
  | _, _, _ => none

def eff (P : Program) (tab : Tab) (ci : Option CI) (sl : Nat → Option AV) (lob : Nat → Option Ob) (id : Nat) (op : Op) : Option Eff :=
  match op with
  | .move x => match evalO sl x with
    | some v => some { val := v }
    | none => none
  | .assign x => match evalO sl x with
    | some v => some { val := v }
    | none => none
  | .pick c a b => match evalO sl c with
    | some (.bool true) => match evalO sl a with
      | some v => some { val := v }
      | none => none
    | some (.bool false) => match evalO sl b with
      | some v => some { val := v }
      | none => none
    | _ => none
  | .binOp op T x y _ => match evalO sl x, evalO sl y with
    | some a, some b => match binAV P tab op T a b with
      | some (v, p) => some { val := v, obl := p }
      | none => none
    | _, _ => none
  | .unOp op _ x => match evalO sl x with
    | some a => match unAV op a with
      | some v => some { val := v }
      | none => none
    | none => none
  | .convert S D x => match evalO sl x with
    | some a => convAV tab lob S D a
    | none => none
  | .nilCheck x => match evalO sl x with
    | some (.box o off) => some { val := .box o off }
    | some (.elt o sz i off) => some { val := .elt o sz i off }
    | some (.rel p t x off) => some { val := .rel p t x off }
    | some (.clo f cs) => some { val := .clo f cs }
    | _ => none
  | .alloc T => match tab.te.lookup T with
    | some te => some { val := .box id 0, new := [id], put := [(id, .box false T (te.zero.map constAV))] }
    | none => none
  | .box T x => match evalO sl x with
    | some v => if v.known then some { val := .box id 0, new := [id], put := [(id, .box false T v.cells)] } else none
    | none => none
  | .build T parts => match tab.te.lookup T, shT tab T, evalParts sl parts.toList with
    | some te, some (.struct fs), some ps => match placesOf tab fs with
      | some pl => match fillAV pl (te.zero.map constAV) ps with
        | some cells => some { val := .agg cells }
        | none => none
      | none => none
    | _, _, _ => none
  | .buildSlice T n parts => match elT tab T, evalParts sl parts.toList with
    | some (e, t), some ps => match parseParts lob t 0 ps with
      | some (l, p, f) => if l.length = n ∧ n * t.sz ≤ 1000 then some { val := .row id, del := f, new := [id], put := [(id, .row false (p && !t.flat) e t l)], rd := f } else none
      | none => none
    | _, _ => none
  | .load T x => match tab.te.lookup T, evalO sl x with
    | some te, some v => loadE te v lob
    | _, _ => none
  | .store T x y => match tab.te.lookup T, evalO sl x, evalO sl y with
    | some te, some a, some v => storeE te lob a v
    | _, _, _ => none
  | .fieldAddr T x f => match fieldOff tab T f, evalO sl x with
    | some fo, some v => match fieldE fo v with
      | some v => some { val := v }
      | none => none
    | _, _ => none
  | .indexAddr T x i => match elT tab T, evalO sl x, evalO sl i with
    | some (_, t), some (.row o), some (.int _ n) => match lob o with
      | some (.row _ _ _ t' l) => if t = t' then some { val := .elt o t.sz n.toNat 0, rd := [o], obl := 0 ≤ n ∧ n < (l.length : Int) } else none
      | _ => none
    | some (_, t), some (.ro p _ t' l), some (.int _ n) => if t = t' then some { val := .rel p t' (l.getD n.toNat t'.dflt) 0, obl := 0 ≤ n ∧ n < (l.length : Int) } else none
    | _, _, _ => none
  | .index T x i => match shT tab T, evalO sl x, evalO sl i with
    | some .str, some (.str s), some (.int _ n) => some { val := .byte (s.getD n.toNat 0), obl := 0 ≤ n ∧ n < (s.length : Int) }
    | _, _, _ => none
  | .makeSlice T n c => match elT tab T, evalO sl n, evalO sl c with
    | some (e, t), some (.int .i64 a), some (.int .i64 b) => some { val := .row id, new := [id], put := [(id, .row false false e t (List.replicate a.toNat t.dflt))], obl := a = b ∧ 0 ≤ a ∧ a ≤ (LIM : Int) }
    | _, _, _ => none
  | .slice T x lo hi mx => match mx, evalO sl x, optInt sl lo, optInt sl hi with
    | none, some (.str s), some l, some h => match shT tab T with
      | some .str => sliceAV lob id (.str s) l h
      | _ => none
    | none, some v, some l, some h => match elT tab T, slOf lob v with
      | some (_, t'), some s => if s.t.sz = t'.sz then sliceAV lob id v l h else none
      | _, _ => none
    | _, _, _, _ => none
  | .extract x i => match evalO sl x with
    | some (.tup vs) => match vs[i]? with
      | some v => some { val := v }
      | none => none
    | _ => none
  | .makeFunc fn first caps => match fn, first.toList, evalAll sl caps.toList with
    | .func f, [], some cs => some { val := .clo f cs }
    | _, _, _ => none
  | .call c => match c.callee, evalAll sl c.args.toList with
    | .builtin b, some args => builtinE tab lob id b c.argTypes.toList args
    | .value x, some args => match evalO sl x, ci with
      | some (.clo f caps), some ci => callE P tab lob id f c.argTypes.toList args caps ci
      | _, _ => none
    | _, _ => none
  | _ => none

end Go.V

/- The by-value machine, part 3: operations that only reckon. -/
namespace Go.V
open Go

/-! ### What an operation owes -/
structure Done (E : Env) (M M' : Mem) (e : Eff) (v : Value) : Prop where
  stays : Stays (fun o => o ∈ e.del ∨ o ∈ e.put.map (·.1)) M M'
  ρ : ∀ o, o ∉ e.new → M'.ρ o = M.ρ o
  val : VR E.B M' e.val v
  put : ∀ o ob, (o, ob) ∈ e.put → OR E.B M' o ob
  bound : ∀ b o, M'.own b = some o → b < M'.w.heap.size ∧ (E.w0.heap.size ≤ b ∨ E.old b)
  own_in : ∀ b o, M'.own b = some o → o ∈ e.put.map (·.1) ∨ (M.own b = some o ∧ o ∉ e.del)

def Goes (P : Program) (E : Env) (a : Act) (M : Mem) (o : Oper) (e : Eff) : Prop :=
  ∀ (K : Act → World → Prop) (Q : Exit → Act → World → Prop), (∀ v M', Done E M M' e v → K (a.put o.dst v) M'.w) → o.wp P a M.w K Q

theorem Stays.refl (S : Nat → Prop) (M : Mem) : Stays S M M :=
  ⟨Nat.le_refl _, fun _ _ h => ⟨h, rfl⟩, fun _ _ h _ => ⟨h, rfl⟩, rfl, rfl, rfl⟩

section
variable {P : Program} {E : Env} {a : Act} {M : Mem} {o : Oper} {e : Eff}

theorem goes_value {v : Value} {M' : Mem} (hr : (execOp a.eval o).run P M.w = .ok (.value v) M'.w) (hd : Done E M M' e v) : Goes P E a M o e := by
  intro K Q hk
  unfold Oper.wp
  rw [hr]
  exact hk v M' hd
theorem goes_skip {M' : Mem} (hr : (execOp a.eval o).run P M.w = .ok .skip M'.w) (hd : Done E M M' e Go.undef) : Goes P E a M o e := by
  intro K Q hk
  unfold Oper.wp
  rw [hr]
  exact hk _ M' hd
/-- An operation that changes nothing. -/
theorem goes_pure {st : VS} {a' : Act} {v : Value} {c : AV} (hS : SRm E st a' M) (hr : (execOp a.eval o).run P M.w = .ok (.value v) M.w) (hv : VR E.B M c v) {rd : List Nat} {p : Prop} :
    Goes P E a M o { val := c, rd := rd, obl := p } :=
  goes_value hr ⟨Stays.refl _ _, fun _ _ => rfl, hv, (fun _ _ h => by cases h), (fun b o h => ⟨hS.fr.bound b o h, hS.fr.inO b o h⟩), fun b o h => .inr ⟨h, by simp⟩⟩
end

/-! ### Operands -/
theorem VR.const (B : Rg) (M : Mem) (v : Value) : VR B M (constAV v) v := by
  unfold constAV
  split
  · rename_i n
    split
    · rename_i h
      have e : n = ((UInt8.ofNat n.toNat).toNat : Int) := by
        simp only [UInt8.toNat_ofNat', Nat.reducePow]
        omega
      conv => rhs; rw [e]
      exact .byte _
    · exact .undef _
  · exact .int _ _
  · exact .bool _
  · rename_i s; exact .str s.data.toList
  · exact .nil
  · exact .nilp
  · exact .undef _

structure Ctx (P : Program) (tab : Tab) (E : Env) (n : Nat) (st : VS) (a : Act) (M : Mem) : Prop where
  tab : TabOk P tab
  sr : SRm E st a M
  lt : E.I0 ≤ n


section
variable {P : Program} {tab : Tab} {E : Env} {n : Nat} {st : VS} {a : Act} {M : Mem}

theorem SRm.eval (h : SRm E st a M) {x : Operand} {c : AV} (he : evalO st.sl' x = some c) : VR E.B M c (a.eval x) := by
  cases x with
  | tmp t =>
    obtain ⟨v, hv, hr⟩ := h.slots t c he
    simpa [Act.eval, Array.getD_eq_getD_getElem?, hv] using hr
  | const v => simp only [evalO, Option.some.injEq] at he; subst he; exact VR.const _ _ _
  | global g => simp [evalO] at he
  | func f => simp only [evalO, Option.some.injEq] at he; subst he; exact .clo f .nil

/-! ### Whole numbers -/
theorem iv_of {B : Rg} {c : AV} {v : Value} {k : IntKind} {m : Int} (h : VR B M c v) (hi : ivOf c = some (k, m)) : v = .int k m ∧ (k = .u8 → 0 ≤ m ∧ m < 256) := by
  unfold ivOf at hi
  split at hi
  · cases hi
  · rename_i hk
    cases h
    simp only [Option.some.injEq, Prod.mk.injEq] at hi
    obtain ⟨rfl, rfl⟩ := hi
    exact ⟨rfl, fun h => absurd h (by intro h; subst h; exact hk rfl)⟩
  · rename_i x
    cases h
    simp only [Option.some.injEq, Prod.mk.injEq] at hi
    obtain ⟨rfl, rfl⟩ := hi
    have := x.toNat_lt
    exact ⟨rfl, fun _ => by omega⟩
  · cases hi

theorem wrap_u8 (m : Int) : 0 ≤ IntKind.u8.wrap m ∧ IntKind.u8.wrap m < 256 := by
  simp only [IntKind.wrap, IntKind.bits, IntKind.signed, Bool.false_and]
  simp only [Bool.false_eq_true, if_false]
  omega

theorem VR.mkInt {B : Rg} {k : IntKind} {m : Int} (h : k = .u8 → 0 ≤ m ∧ m < 256) : VR B M (mkInt k m) (.int k m) := by
  cases k <;> first
    | exact .int _ _
    | (obtain ⟨h0, h1⟩ := h rfl
       have e : m = ((UInt8.ofNat m.toNat).toNat : Int) := by
         simp only [UInt8.toNat_ofNat', Nat.reducePow]
         omega
       show VR B M (.byte (UInt8.ofNat m.toNat)) (.int .u8 m)
       conv => rhs; rw [e]
       exact .byte _)

theorem bitI_u8 (op : BinOp) (x y : Int) : 0 ≤ bitI op .u8 x y ∧ bitI op .u8 x y < 256 := by
  unfold bitI; split <;> exact wrap_u8 _

theorem run_guard_int {op : BinOp} {T : TypeId} {x y : Operand} {k k' : IntKind} {a b : Int} {w : World} : (eqGuard op T x y (.int k a) (.int k' b)).run P w = .ok () w := by
  cases op <;> rfl

theorem run_intBin {op : BinOp} {T : TypeId} {k : IntKind} {x y : Int} {c : AV} {p : Prop} {w : World} (hx : k = .u8 → 0 ≤ x ∧ x < 256) (h : intBin op k x y = some (c, p)) (hp : p) (ho : op ≠ .shl) (ho' : op ≠ .shr) :
    ∃ v, (binOp op T (.int k x) (.int k y)).run P w = .ok v w ∧ VR E.B M c v := by
  cases op <;> simp only [intBin] at h <;> try cases h
  all_goals first
    | exact absurd rfl ho
    | exact absurd rfl ho'
    | skip
  case add => exact ⟨_, by simp [binOp, Op.intArith], VR.mkInt fun e => by subst e; exact wrap_u8 _⟩
  case sub => exact ⟨_, by simp [binOp, Op.intArith], VR.mkInt fun e => by subst e; exact wrap_u8 _⟩
  case mul => exact ⟨_, by simp [binOp, Op.intArith], VR.mkInt fun e => by subst e; exact wrap_u8 _⟩
  case quo => exact ⟨_, by simp [binOp, Op.intDiv, hp], VR.mkInt fun e => by subst e; exact wrap_u8 _⟩
  case rem =>
    split at h
    · cases h
    · simp only [Option.some.injEq, Prod.mk.injEq] at h
      obtain ⟨rfl, rfl⟩ := h
      exact ⟨_, by simp [binOp, Op.intDiv, hp], .int _ _⟩
  case and => exact ⟨_, by simp [binOp, Op.intBits, bitI], VR.mkInt fun e => by subst e; exact bitI_u8 _ _ _⟩
  case or => exact ⟨_, by simp [binOp, Op.intBits, bitI], VR.mkInt fun e => by subst e; exact bitI_u8 _ _ _⟩
  case xor => exact ⟨_, by simp [binOp, Op.intBits, bitI], VR.mkInt fun e => by subst e; exact bitI_u8 _ _ _⟩
  all_goals exact ⟨_, by simp [binOp, Op.intCmp], .bool _⟩

theorem run_shl {T : TypeId} {k k' : IntKind} {x y : Int} {w : World} (hy : 0 ≤ y) : ∃ v, (binOp .shl T (.int k x) (.int k' y)).run P w = .ok v w ∧ VR E.B M (mkInt k (shlI k x y)) v :=
  ⟨_, by simp [binOp, Op.shift, Int.not_lt.2 hy, shlI], VR.mkInt fun e => by subst e; exact wrap_u8 _⟩
theorem fdiv_range (x : Int) (n : Nat) (h0 : 0 ≤ x) (h1 : x < 256) : 0 ≤ x.fdiv (2 ^ n) ∧ x.fdiv (2 ^ n) < 256 := by
  have hp : (0 : Int) < 2 ^ n := Int.pow_pos (by omega)
  rw [Int.fdiv_eq_ediv_of_nonneg _ (by omega)]
  refine ⟨Int.ediv_nonneg h0 (by omega), ?_⟩
  have := Int.ediv_le_self (2 ^ n) h0
  omega
theorem run_shr {T : TypeId} {k k' : IntKind} {x y : Int} {w : World} (hx : k = .u8 → 0 ≤ x ∧ x < 256) (hy : 0 ≤ y) : ∃ v, (binOp .shr T (.int k x) (.int k' y)).run P w = .ok v w ∧ VR E.B M (mkInt k (shrI k x y)) v :=
  ⟨_, by simp [binOp, Op.shift, Int.not_lt.2 hy, shrI], VR.mkInt fun e => fdiv_range x _ (hx e).1 (hx e).2⟩

/-! ### Texts -/
theorem toList_mk (l : List UInt8) : (⟨⟨l⟩⟩ : ByteArray).toList = l := by rw [ByteArray.toList_eq]
theorem append_mk (l m : List UInt8) : (⟨⟨l⟩⟩ : ByteArray) ++ ⟨⟨m⟩⟩ = ⟨⟨l ++ m⟩⟩ := by
  apply ByteArray.ext
  simp
theorem run_strBin {op : BinOp} {T : TypeId} {x y : List UInt8} {c : AV} {p : Prop} {w : World} (h : strBin op x y = some (c, p)) (hp : p) :
    ∃ v, (binOp op T (.string ⟨⟨x⟩⟩) (.string ⟨⟨y⟩⟩)).run P w = .ok v w ∧ VR E.B M c v := by
  cases op <;> simp only [strBin] at h <;> try cases h
  case add =>
    refine ⟨_, ?_, .str _⟩
    have := run_string_add_sum (P := P) w ⟨⟨x⟩⟩ ⟨⟨y⟩⟩ (by show x.length + y.length ≤ _; simp only [LIM] at hp; omega)
    simp only [binOp, this, append_mk]
  case eql => exact ⟨_, by simp [binOp, Op.stringOp], .bool _⟩
  case neq => exact ⟨_, by simp [binOp, Op.stringOp], .bool _⟩
  case lss => exact ⟨_, by simp [binOp, Op.stringOp], .bool _⟩


theorem TabOk.at_ (hT : TabOk P tab) {T : TypeId} {te : TE} (h : tab.te.lookup T = some te) : teOf P T = some te := by
  have key : ∀ l : List (Nat × TE), l.map (fun x => teOf P x.1) = l.map (fun x => some x.2) → l.lookup T = some te → teOf P T = some te := by
    intro l
    induction l with
    | nil => intro _ h; simp at h
    | cons x l ih =>
      obtain ⟨x1, x2⟩ := x
      intro hl h
      simp only [List.map_cons, List.cons.injEq] at hl
      simp only [List.lookup_cons] at h
      split at h
      · rename_i he
        have : T = x1 := by simpa using he
        subst this
        rw [hl.1]; exact h
      · exact ih hl.2 h
  exact key _ hT.te h
theorem teOf_spec {T : TypeId} {te : TE} (h : teOf P T = some te) : ∃ d i z, P.underlying T = some d ∧ P.info? T = some i ∧ i.zero = some z ∧ te = ⟨shOf d, aggOf d, i.size, i.bytes, z.cells.toList⟩ := by
  unfold teOf at h
  split at h
  · rename_i d i h1 h2
    split at h
    · rename_i z hz
      simp only [Option.some.injEq] at h
      exact ⟨d, i, z, h1, h2, hz, h.symm⟩
    · cases h
  · cases h
theorem sh_spec (hT : TabOk P tab) {T : TypeId} {s : TSh} (h : shT tab T = some s) : ∃ d, P.underlying T = some d ∧ shOf d = s := by
  unfold shT at h
  split at h
  · rename_i te hte
    obtain ⟨d, i, z, h1, _, _, rfl⟩ := teOf_spec (hT.at_ hte)
    simp only [Option.some.injEq] at h
    exact ⟨d, h1, h⟩
  · cases h
theorem el_spec (hT : TabOk P tab) {T e : TypeId} {t : Ty} (h : elT tab T = some (e, t)) : P.underlying T = some (.slice e) ∧ ∃ te, tab.te.lookup e = some te ∧ tab.ty.lookup e = some t ∧ te.size = t.sz ∧ te.zero = zcells t := by
  unfold elT at h
  split at h
  · rename_i e' _ _ _ _ hte
    split at h
    · rename_i t' ht
      simp only [Option.some.injEq, Prod.mk.injEq] at h
      obtain ⟨rfl, rfl⟩ := h
      obtain ⟨d, i, z, h1, _, _, h4⟩ := teOf_spec (hT.at_ hte)
      refine ⟨?_, ?_⟩
      · simp only [TE.mk.injEq] at h4
        cases d <;> simp [shOf] at h4
        rw [h1, h4.1]
      · have key : ∀ l : List (Nat × Ty), l.map (fun x => (tab.te.lookup x.1).map fun te => (te.size, te.zero)) = l.map (fun x => some (x.2.sz, zcells x.2)) → l.lookup e' = some t' → (tab.te.lookup e').map (fun te => (te.size, te.zero)) = some (t'.sz, zcells t') := by
          intro l
          induction l with
          | nil => intro _ h; simp at h
          | cons x l ih =>
            obtain ⟨x1, x2⟩ := x
            intro hl h
            simp only [List.map_cons, List.cons.injEq] at hl
            simp only [List.lookup_cons] at h
            split at h
            · rename_i he
              have : e' = x1 := by simpa using he
              subst this
              rw [hl.1]; simp only [Option.some.injEq] at h; rw [h]
            · exact ih hl.2 h
        have := key _ hT.ty ht
        cases hl : tab.te.lookup e' with
        | none => rw [hl] at this; simp at this
        | some te =>
          rw [hl] at this
          simp only [Option.map_some, Option.some.injEq, Prod.mk.injEq] at this
          exact ⟨te, rfl, ht, this.1, this.2⟩
    · cases h
  · cases h

theorem run_guard_bool {op : BinOp} {T : TypeId} {x y : Operand} {a b : Bool} {w : World} : (eqGuard op T x y (.bool a) (.bool b)).run P w = .ok () w := by
  cases op <;> rfl
theorem run_guard_str {op : BinOp} {T : TypeId} {x y : Operand} {a b : ByteArray} {w : World} : (eqGuard op T x y (.string a) (.string b)).run P w = .ok () w := by
  cases op <;> rfl

theorem run_binAV (hT : TabOk P tab) {op : BinOp} {T : TypeId} {x y : Operand} {c d r : AV} {p : Prop} {u v : Value} (hc : VR E.B M c u) (hd : VR E.B M d v) (h : binAV P tab op T c d = some (r, p)) (hp : p) :
    ∃ z, (do eqGuard op T x y u v; binOp op T u v : Sem Value).run P M.w = .ok z M.w ∧ VR E.B M r z := by
  unfold binAV at h
  split at h
  · cases hc; cases hd
    obtain ⟨z, h1, h2⟩ := run_strBin (P := P) (E := E) (M := M) (T := T) (w := M.w) h hp
    exact ⟨z, by simp only [Sem.run_bind, run_guard_str, Result.andThen_ok, h1], h2⟩
  · cases hc; cases hd
    split at h
    · rename_i hs
      obtain ⟨dd, hu, hsh⟩ := sh_spec hT hs
      have hu' : P.underlying T = some .bool := by cases dd <;> simp [shOf] at hsh; exact hu
      simp only [Option.some.injEq, Prod.mk.injEq] at h
      obtain ⟨rfl, rfl⟩ := h
      exact ⟨_, by simp only [Sem.run_bind, run_guard_bool, Result.andThen_ok, binOp, Op.equal, Op.maxDepth, run_equalIn_bool' _ _ _ _ _ hu', Sem.run_pure], .bool _⟩
    · rename_i hs
      obtain ⟨dd, hu, hsh⟩ := sh_spec hT hs
      have hu' : P.underlying T = some .bool := by cases dd <;> simp [shOf] at hsh; exact hu
      simp only [Option.some.injEq, Prod.mk.injEq] at h
      obtain ⟨rfl, rfl⟩ := h
      exact ⟨_, by simp only [Sem.run_bind, run_guard_bool, Result.andThen_ok, binOp, Op.equal, Op.maxDepth, run_equalIn_bool' _ _ _ _ _ hu', Sem.run_pure], .bool _⟩
    · cases h
  · rename_i xs ys
    cases hc with | agg hc => cases hd with | agg hd =>
    split at h
    · rename_i r' he
      simp only [Option.some.injEq, Prod.mk.injEq] at h
      obtain ⟨rfl, rfl⟩ := h
      exact ⟨_, (hp E.B M _ _ x y hc hd).1, .bool _⟩
    · rename_i r' he
      simp only [Option.some.injEq, Prod.mk.injEq] at h
      obtain ⟨rfl, rfl⟩ := h
      exact ⟨_, (hp E.B M _ _ x y hc hd).2, .bool _⟩
    · cases h
  · split at h
    · rename_i k a' k' b' h1 h2
      obtain ⟨rfl, r1⟩ := iv_of hc h1
      obtain ⟨rfl, r2⟩ := iv_of hd h2
      simp only [Sem.run_bind, run_guard_int, Result.andThen_ok]
      split at h
      · simp only [Option.some.injEq, Prod.mk.injEq] at h
        obtain ⟨rfl, rfl⟩ := h
        exact run_shl hp
      · simp only [Option.some.injEq, Prod.mk.injEq] at h
        obtain ⟨rfl, rfl⟩ := h
        exact run_shr r1 hp
      · split at h
        · rename_i ho1 ho2 hk
          subst hk
          exact run_intBin r1 h hp (fun h => ho1 h) (fun h => ho2 h)
        · cases h
    · cases h

theorem run_unAV {op : UnOp} {c r : AV} {u : Value} (hc : VR E.B M c u) (h : unAV op c = some r) : ∃ z, (Op.unary op u).run P M.w = .ok z M.w ∧ VR E.B M r z := by
  unfold unAV at h
  split at h
  · cases hc; simp only [Option.some.injEq] at h; subst h
    exact ⟨_, by simp [Op.unary], .bool _⟩
  · rename_i k m
    cases hc; simp only [Option.some.injEq] at h; subst h
    exact ⟨_, by simp [Op.unary, Op.intArith], VR.mkInt fun e => by subst e; exact wrap_u8 _⟩
  · rename_i k m
    cases hc; simp only [Option.some.injEq] at h; subst h
    exact ⟨_, by simp [Op.unary, Op.intBits, bitI], VR.mkInt fun e => by subst e; exact bitI_u8 _ _ _⟩
  · cases h

end
end Go.V

/- The by-value machine, part 4: operations on memory. -/
namespace Go.V
open Go

section
variable {P : Program} {tab : Tab} {E : Env} {st : VS} {a : Act} {M : Mem} {n : Nat} {B : Rg}

theorem VR.one {c : AV} {v : Value} (h : VR B M c v) (ho : c.one = true) : v.oneCell' = true := by
  cases h <;> first | rfl | (simp [AV.one] at ho; done)
theorem VR.cells {c : AV} {v : Value} (h : VR B M c v) (hk : c.known = true) : VRs B M c.cells v.cells.toList := by
  cases h
  case agg h => exact h
  case tup => simp [AV.known] at hk
  case undef => simp [AV.known] at hk
  all_goals refine .cons ?_ .nil
  case int => exact .int _ _
  case byte => exact .byte _
  case bool => exact .bool _
  case str => exact .str _
  case nil => exact .nil
  case nilp => exact .nilp
  case ro h => exact .ro h
  case row h => exact .row h
  case box h => exact .box _ h
  case elt h => exact .elt _ _ _ h
  case rel h1 h2 h3 => exact .rel h1 h2 h3
  case clo h => exact .clo _ h
theorem one_known {c : AV} (h : c.cells.all AV.one = true) : c.known = true := by
  cases c <;> simp_all [AV.cells, AV.one, AV.known]
theorem VRs.one : ∀ {cs : List AV} {vs : List Value}, VRs B M cs vs → cs.all AV.one = true → ∀ v ∈ vs, v.oneCell' = true
  | [], _, h, _, v, hv => by cases h; simp at hv
  | _ :: _, _, h, ho, v, hv => by
    cases h with
    | cons h1 h2 =>
      simp only [List.all_cons, Bool.and_eq_true] at ho
      simp only [List.mem_cons] at hv
      rcases hv with rfl | hv
      · exact h1.one ho.1
      · exact VRs.one h2 ho.2 v hv

/-! ### Typed values as cells -/
theorem RdC.vrs {A : Nat → Prop} {p : Bool} (hA : ∀ b, A b → Fz B M p b) : ∀ {t : Ty} {vs : List Value} {x : t.T}, RdC A M.w t vs x → VRs B M (cellsOf p t x) vs
  | .int k, _, _, h => by simp only [RdC] at h; subst h; exact .cons (.int _ _) .nil
  | .byte, _, _, h => by simp only [RdC] at h; subst h; exact .cons (.byte _) .nil
  | .bool, _, _, h => by simp only [RdC] at h; subst h; exact .cons (.bool _) .nil
  | .str, _, _, h => by simp only [RdC] at h; subst h; exact .cons (.str _) .nil
  | .slice e t, vs, x, h => by
    have h' := RdC.mono (A' := Fz B M p) (w' := M.w) (fun b hb _ => ⟨hA b hb, rfl⟩) h
    simp only [RdC] at h
    obtain ⟨a, c, rfl, _⟩ := h
    exact .cons (.ro' h') .nil
  | .pair a b, _, _, h => by
    simp only [RdC] at h
    obtain ⟨us, us', rfl, h1, h2⟩ := h
    exact (RdC.vrs hA h1).append (RdC.vrs hA h2)
theorem RdC.one {A : Nat → Prop} {w : World} : ∀ {t : Ty} {vs : List Value} {x : t.T}, RdC A w t vs x → ∀ v ∈ vs, v.oneCell' = true
  | .int k, _, _, h => by simp only [RdC] at h; subst h; simp [Value.oneCell']
  | .byte, _, _, h => by simp only [RdC] at h; subst h; simp [Value.oneCell']
  | .bool, _, _, h => by simp only [RdC] at h; subst h; simp [Value.oneCell']
  | .str, _, _, h => by simp only [RdC] at h; subst h; simp [Value.oneCell']
  | .slice e t, vs, x, h => by
    simp only [RdC] at h
    obtain ⟨a, c, rfl, _⟩ := h
    simp [Value.oneCell']
  | .pair a b, _, _, h => by
    simp only [RdC] at h
    obtain ⟨us, us', rfl, h1, h2⟩ := h
    intro v hv
    simp only [List.mem_append] at hv
    rcases hv with hv | hv
    · exact RdC.one h1 v hv
    · exact RdC.one h2 v hv
theorem RdL.one {A : Nat → Prop} {w : World} {t : Ty} : ∀ {xs : List Value} {l : List t.T}, RdL A w t xs l → ∀ v ∈ xs, v.oneCell' = true
  | _, [], h => by simp only [RdL] at h; subst h; simp
  | _, x :: l, h => by
    obtain ⟨us, rest, rfl, h1, h2⟩ := h
    intro v hv
    simp only [List.mem_append] at hv
    rcases hv with hv | hv
    · exact h1.one v hv
    · exact RdL.one h2 v hv
theorem RdC.flat {A A' : Nat → Prop} {w w' : World} : ∀ {t : Ty} {vs : List Value} {x : t.T}, t.flat = true → RdC A w t vs x → RdC A' w' t vs x
  | .int k, _, _, _, h => by simpa only [RdC] using h
  | .byte, _, _, _, h => by simpa only [RdC] using h
  | .bool, _, _, _, h => by simpa only [RdC] using h
  | .str, _, _, _, h => by simpa only [RdC] using h
  | .slice e t, _, _, hf, _ => by simp [Ty.flat] at hf
  | .pair a b, _, _, hf, h => by
    simp only [Ty.flat, Bool.and_eq_true] at hf
    simp only [RdC] at h ⊢
    obtain ⟨us, us', rfl, h1, h2⟩ := h
    exact ⟨us, us', rfl, RdC.flat hf.1 h1, RdC.flat hf.2 h2⟩
theorem RdL.flat {A A' : Nat → Prop} {w w' : World} {t : Ty} (hf : t.flat = true) : ∀ {xs : List Value} {l : List t.T}, RdL A w t xs l → RdL A' w' t xs l
  | _, [], h => h
  | _, x :: l, h => by
    obtain ⟨us, rest, rfl, h1, h2⟩ := h
    exact ⟨us, rest, rfl, h1.flat hf, RdL.flat hf h2⟩
/-- Where a type has no slices the mark is idle. -/
theorem RdL.nrm {p : Bool} {t : Ty} {xs : List Value} {l : List t.T} (h : RdL (Fz B M p) M.w t xs l) : RdL (Fz B M (p && !t.flat)) M.w t xs l := by
  by_cases hf : t.flat = true
  · exact RdL.flat hf h
  · have : (p && !t.flat) = p := by simp [hf]
    rw [this]; exact h
theorem Fz.or {p q : Bool} {b : Nat} (h : Fz B M p b) : Fz B M (p || q) b := ⟨h.1, h.2.imp id fun h => ⟨by simp [h.1], h.2⟩⟩
theorem Fz.or' {p q : Bool} {b : Nat} (h : Fz B M q b) : Fz B M (p || q) b := ⟨h.1, h.2.imp id fun h => ⟨by simp [h.1], h.2⟩⟩
theorem RdC.zero {A : Nat → Prop} {w : World} : ∀ (t : Ty), RdC A w t (zcells t) t.dflt
  | .int k => by simp only [RdC, zcells, Ty.dflt]
  | .byte => by simp only [RdC, zcells, Ty.dflt]; rfl
  | .bool => by simp only [RdC, zcells, Ty.dflt]
  | .str => by simp only [RdC, zcells, Ty.dflt]
  | .slice e t => by
    simp only [RdC, zcells, Ty.dflt]
    exact ⟨none, 0, rfl, ⟨Nat.zero_le _, Nat.zero_le _⟩, fun h => absurd rfl h⟩
  | .pair a b => by
    simp only [RdC, zcells, Ty.dflt]
    exact ⟨_, _, rfl, RdC.zero a, RdC.zero b⟩

/-! ### A new block -/
def Mem.alloc (M : Mem) (id : Nat) (v : Value) (cs : Array Value) (T : TypeId) : Mem :=
  ⟨fun x => if x = M.w.heap.size then some id else M.own x, fun x => if x = id then v else M.ρ x, M.w.alloc (.cells cs T)⟩
theorem Mem.alloc_stays (S : Nat → Prop) (hb : ∀ b o, M.own b = some o → b < M.w.heap.size) (id : Nat) (v : Value) (cs : Array Value) (T : TypeId) : Stays S M (M.alloc id v cs T) := by
  refine ⟨by show M.w.heap.size ≤ (M.w.heap.push _).size; simp, fun b hlt hn => ?_, fun b o ho _ => ?_, rfl, rfl, rfl⟩
  · refine ⟨?_, heap_alloc_old _ _ _ hlt⟩
    simp only [Mem.alloc]
    rw [if_neg (by omega)]; exact hn
  · have := hb b o ho
    refine ⟨?_, heap_alloc_old _ _ _ this⟩
    simp only [Mem.alloc]
    rw [if_neg (by omega)]; exact ho
theorem Mem.alloc_ρ (id : Nat) (v : Value) (cs : Array Value) (T : TypeId) : ∀ o, o ∉ [id] → (M.alloc id v cs T).ρ o = M.ρ o := by
  intro o ho
  simp only [List.mem_singleton] at ho
  simp [Mem.alloc, ho]
theorem Mem.alloc_bound (hb : ∀ b o, M.own b = some o → b < M.w.heap.size) (id : Nat) (v : Value) (cs : Array Value) (T : TypeId) :
    ∀ b o, (M.alloc id v cs T).own b = some o → b < (M.alloc id v cs T).w.heap.size := by
  intro b o h
  show b < (M.w.heap.push _).size
  simp only [Array.size_push]
  simp only [Mem.alloc] at h
  split at h
  · omega
  · have := hb b o h; omega
end
end Go.V

/- The by-value machine, part 5: each operation keeps what is told. -/
namespace Go.V
open Go

section
variable {P : Program} {tab : Tab} {E : Env} {st : VS} {a : Act} {M : Mem} {o : Oper} {id : Nat}

theorem g_move (hS : SRm E st a M) {x : Operand} {c : AV} (ho : o.op = .move x) (h : evalO st.sl' x = some c) : Goes P E a M o { val := c } :=
  goes_pure hS (by simp [execOp, ho]) (hS.eval h)
theorem g_assign (hS : SRm E st a M) {x : Operand} {c : AV} (ho : o.op = .assign x) (h : evalO st.sl' x = some c) : Goes P E a M o { val := c } :=
  goes_pure hS (by simp [execOp, ho]) (hS.eval h)
theorem g_pick (hS : SRm E st a M) {x y z : Operand} {c : AV} {b : Bool} (ho : o.op = .pick x y z) (hb : evalO st.sl' x = some (.bool b)) (h : evalO st.sl' (if b then y else z) = some c) : Goes P E a M o { val := c } := by
  have h1 := hS.eval hb
  have h2 := hS.eval h
  generalize hx : a.eval x = vx at h1
  cases h1
  refine goes_pure hS (v := a.eval (if b then y else z)) ?_ h2
  cases b <;> simp [execOp, ho, hx, asBool]
theorem g_bin (hT : TabOk P tab) (hS : SRm E st a M) {op : BinOp} {T U : TypeId} {x y : Operand} {c d r : AV} {p : Prop} (ho : o.op = .binOp op T x y U) (hx : evalO st.sl' x = some c) (hy : evalO st.sl' y = some d)
    (h : binAV P tab op T c d = some (r, p)) (hp : p) : Goes P E a M o { val := r, obl := p } := by
  obtain ⟨z, h1, h2⟩ := run_binAV (E := E) (M := M) (x := x) (y := y) hT (hS.eval hx) (hS.eval hy) h hp
  refine goes_pure hS (v := z) ?_ h2
  simp only [execOp, ho, Sem.run_bind, h1, Result.andThen_ok, Sem.run_pure]
theorem g_un (hS : SRm E st a M) {op : UnOp} {T : TypeId} {x : Operand} {c r : AV} (ho : o.op = .unOp op T x) (hx : evalO st.sl' x = some c)
    (h : unAV op c = some r) : Goes P E a M o { val := r } := by
  obtain ⟨z, h1, h2⟩ := run_unAV (P := P) (E := E) (M := M) (hS.eval hx) h
  refine goes_pure hS (v := z) ?_ h2
  simp only [execOp, ho, Sem.run_bind, h1, Result.andThen_ok, Sem.run_pure]
theorem g_nil (hS : SRm E st a M) {x : Operand} {c : AV} (ho : o.op = .nilCheck x) (hx : evalO st.sl' x = some c)
    (h : (∃ i j, c = .box i j) ∨ (∃ i j k l, c = .elt i j k l) ∨ (∃ p t y j, c = .rel p t y j) ∨ ∃ f cs, c = .clo f cs) : Goes P E a M o { val := c } := by
  have h1 := hS.eval hx
  refine goes_pure hS (v := a.eval x) ?_ h1
  generalize hv : a.eval x = vx at h1
  rcases h with ⟨i, j, rfl⟩ | ⟨i, j, k, l, rfl⟩ | ⟨p, t, y, j, rfl⟩ | ⟨f, cs, rfl⟩ <;> cases h1 <;> simp [execOp, ho, hv]
theorem g_extract (hS : SRm E st a M) {x : Operand} {vs : List AV} {i : Nat} {c : AV} (ho : o.op = .extract x i) (hx : evalO st.sl' x = some (.tup vs)) (hi : vs[i]? = some c) : Goes P E a M o { val := c } := by
  have h1 := hS.eval hx
  generalize hv : a.eval x = vx at h1
  cases h1 with
  | tup h1 =>
    obtain ⟨v, h2, h3⟩ := h1.at i c hi
    refine goes_pure hS (v := v) ?_ h3
    simp [execOp, ho, hv, Instr.extract, h2]

theorem VRs.const (B : Rg) (M : Mem) : ∀ vs : List Value, VRs B M (vs.map constAV) vs
  | [] => .nil
  | v :: vs => .cons (VR.const B M v) (VRs.const B M vs)

theorem alloc_ok (hS : SRm E st a M) {id : Nat} {v : Value} {cs : Array Value} {T : TypeId} :
    ∀ b o, (M.alloc id v cs T).own b = some o → b < (M.alloc id v cs T).w.heap.size ∧ (E.w0.heap.size ≤ b ∨ E.old b) := by
  intro b o h
  refine ⟨Mem.alloc_bound hS.fr.bound id v cs T b o h, ?_⟩
  simp only [Mem.alloc] at h
  split at h
  · rename_i hb; subst hb; exact .inl hS.fr.size
  · exact hS.fr.inO b o h

theorem SRm.fresh (hS : SRm E st a M) (hid : st.ob' id = none) : ∀ b, M.own b ≠ some id := by
  intro b h
  obtain ⟨ob, hob⟩ := hS.own_in b id h
  rw [hid] at hob
  cases hob

/-- A new variable in memory. -/
theorem done_box (hS : SRm E st a M) (hid : st.ob' id = none) {cs : Array Value} {cells : List AV} (T : TypeId) (h : VRs E.B M cells cs.toList) (hf : freeAll [id] cells = true) :
    Done E M (M.alloc id (.pointer (some ⟨M.w.heap.size, 0, none⟩)) cs T) { val := .box id 0, new := [id], put := [(id, .box false T cells)] } (.pointer (some ⟨M.w.heap.size, 0, none⟩)) := by
  have hb := hS.fr.bound
  have hs := fun S => Mem.alloc_stays (M := M) S hb id (.pointer (some ⟨M.w.heap.size, 0, none⟩)) cs T
  have hρ := Mem.alloc_ρ (M := M) id (.pointer (some ⟨M.w.heap.size, 0, none⟩)) cs T
  have hr : (M.alloc id (.pointer (some ⟨M.w.heap.size, 0, none⟩)) cs T).ρ id = .pointer (some ⟨M.w.heap.size, 0, none⟩) := by simp [Mem.alloc]
  refine ⟨hs _, hρ, .box 0 hr, ?_, alloc_ok hS, fun b x hx => ?_⟩
  · intro o' ob' hm
    simp only [List.mem_singleton, Prod.mk.injEq] at hm
    obtain ⟨rfl, rfl⟩ := hm
    refine ⟨M.w.heap.size, cs, hr, by simp [Mem.alloc], fun _ b hb' => ?_, heap_alloc_new _ _, h.stays (hs fun _ => False) hρ hf⟩
    simp only [Mem.alloc] at hb'
    split at hb'
    · rename_i he; subst he; exact hS.fr.size
    · exact absurd hb' (hS.fresh hid b)
  · simp only [Mem.alloc] at hx
    split at hx
    · simp only [Option.some.injEq] at hx; subst hx; exact .inl (by simp)
    · exact .inr ⟨hx, by simp⟩

theorem freeAll_const (nw : List Nat) : ∀ vs : List Value, freeAll nw (vs.map constAV) = true
  | [] => rfl
  | v :: vs => by
    have h : (constAV v).free nw = true := by
      unfold constAV
      split
      · split <;> rfl
      all_goals rfl
    simp [freeAll, h, freeAll_const nw vs]

theorem g_alloc (hT : TabOk P tab) (hS : SRm E st a M) (hid : st.ob' id = none) {T : TypeId} {te : TE} (ho : o.op = .alloc T) (hte : tab.te.lookup T = some te) :
    Goes P E a M o { val := .box id 0, new := [id], put := [(id, .box false T (te.zero.map constAV))] } := by
  obtain ⟨d, i, z, h1, h2, h3, rfl⟩ := teOf_spec (hT.at_ hte)
  have hd := done_box (E := E) (id := id) hS hid T (cs := z.cells) (VRs.const E.B M z.cells.toList) (freeAll_const _ _)
  refine goes_value ?_ hd
  simp [execOp, ho, Instr.alloc, zeroValue, typeInfo, h2, h3, newVar, newRow, Mem.alloc]

theorem g_box (hS : SRm E st a M) (hid : st.ob' id = none) {T : TypeId} {x : Operand} {c : AV} (ho : o.op = .box T x) (hx : evalO st.sl' x = some c) (hk : c.known = true) (hf : freeAll [id] c.cells = true) :
    Goes P E a M o { val := .box id 0, new := [id], put := [(id, .box false T c.cells)] } := by
  have hd := done_box (E := E) (id := id) hS hid T (cs := (a.eval x).cells) ((hS.eval hx).cells hk) hf
  refine goes_value ?_ hd
  simp [execOp, ho, Instr.box, newVar, newRow, Mem.alloc]

theorem g_field (hT : TabOk P tab) (hS : SRm E st a M) {T : TypeId} {x : Operand} {f fo : Nat} {c r : AV} (ho : o.op = .fieldAddr T x f) (hf : fieldOff tab T f = some fo) (hx : evalO st.sl' x = some c) (hr : fieldE fo c = some r) :
    Goes P E a M o { val := r } := by
  have h1 := hS.eval hx
  unfold fieldOff at hf
  split at hf
  · rename_i fs hs
    obtain ⟨d, hu, hd⟩ := sh_spec hT hs
    cases d <;> simp [shOf] at hd
    rename_i fields
    subst hd
    split at hf
    · rename_i U off hfo
      split at hf
      · rename_i te hte
        split at hf
        · cases hf
        · rename_i hsz
          simp only [Option.some.injEq] at hf
          subst hf
          obtain ⟨d, i, z, _, h2, h3, rfl⟩ := teOf_spec (hT.at_ hte)
          simp only [List.getElem?_map, Option.map_eq_some_iff, Prod.mk.injEq] at hfo
          obtain ⟨fld, hfl, rfl, rfl⟩ := hfo
          have hfl' : fields[f]? = some fld := by simpa using hfl
          have key : ∀ ad : Addr, (Instr.fieldAt T (.pointer (some ad)) f).run P M.w = .ok (.pointer (some (ad.add fld.offset))) M.w := by
            intro ad
            simp [Instr.fieldAt, run_underlying hu, hfl', Instr.sureAddr, fieldPlace, sizeOf, typeInfo, h2, hsz]
          generalize hv : a.eval x = vx at h1
          have hadd : ∀ (b k m : Nat), (⟨b, k, none⟩ : Addr).add m = ⟨b, k + m, none⟩ := by
            intro b k m; unfold Addr.add; split <;> simp_all
          cases h1 <;> simp only [fieldE, Option.some.injEq, reduceCtorEq] at hr
          · rename_i o' b off' h
            subst hr
            exact goes_pure hS (v := .pointer (some ⟨b, off' + fld.offset, none⟩)) (by simp [execOp, ho, hv, key, hadd]) (.box _ h)
          · rename_i o' b n c' sz i' off' h
            subst hr
            exact goes_pure hS (v := .pointer (some ⟨b, i' * sz + (off' + fld.offset), none⟩)) (by simp [execOp, ho, hv, key, hadd, Nat.add_assoc]) (.elt _ _ _ h)
          · rename_i p t y off' ad us h1 h2 h3
            subst hr
            exact goes_pure hS (v := .pointer (some (ad.add (off' + fld.offset)))) (by simp [execOp, ho, hv, key, add_add]) (.rel h1 h2 h3)
      · cases hf
    · cases hf
  · cases hf

theorem run_isAgg (hT : TabOk P tab) {T : TypeId} {te : TE} (hte : tab.te.lookup T = some te) (w : World) : (isAgg T).run P w = .ok te.agg w := by
  obtain ⟨d, i, z, h1, h2, h3, rfl⟩ := teOf_spec (hT.at_ hte)
  cases d <;> simp [isAgg, run_underlying h1, aggOf]
theorem run_size (hT : TabOk P tab) {T : TypeId} {te : TE} (hte : tab.te.lookup T = some te) (w : World) : (sizeOf T).run P w = .ok te.size w := by
  obtain ⟨d, i, z, h1, h2, h3, rfl⟩ := teOf_spec (hT.at_ hte)
  simp [sizeOf, typeInfo, h2]

theorem run_load1 {w : World} {ad : Addr} {v : Value} (h : w.cell? ad = some v) : (load ad).run P w = .ok v w := by
  simp [load, Sem.run, h]

/-- A load out of cells that are told. -/
theorem run_loadAV (hT : TabOk P tab) {T : TypeId} {te : TE} (hte : tab.te.lookup T = some te) {cells : List AV} {vs : List Value} {off : Nat} {r : AV} {B : Rg} (hc : VRs B M cells vs)
    {ad : Addr} (hm : ∀ i u, vs[i]? = some u → M.w.cell? (ad.add i) = some u) (hl : loadAV te cells off = some r) :
    ∃ v, (loadVar T (ad.add off)).run P M.w = .ok v M.w ∧ VR B M r v := by
  unfold loadAV at hl
  split at hl
  · rename_i hle
    have hlen := hc.len
    split at hl
    · rename_i hag
      simp only [Option.some.injEq] at hl
      subst hl
      have hd := (hc.drop off).take te.size
      have hsz : ((vs.drop off).take te.size).length = te.size := by simp; omega
      have hr := run_loadCells_list (P := P) M.w (ad.add off) ((vs.drop off).take te.size) (fun j v hj => by
        rw [add_add]
        refine hm _ v ?_
        rw [List.getElem?_take] at hj
        split at hj
        · simpa using hj
        · cases hj)
      rw [hsz] at hr
      refine ⟨_, ?_, .agg hd⟩
      simp [loadVar, run_isAgg hT hte, hag, run_size hT hte, hr]
    · rename_i hag
      split at hl
      · obtain ⟨v, h1, h2⟩ := hc.at off r hl
        refine ⟨v, ?_, h2⟩
        simp [loadVar, run_isAgg hT hte, hag, hm off v h1]
      · cases hl
  · cases hl

theorem goes_rd {v : Value} {c : AV} (hS : SRm E st a M) {rd : List Nat} {p : Prop} (hr : (execOp a.eval o).run P M.w = .ok (.value v) M.w) (hv : VR E.B M c v) : Goes P E a M o { val := c, rd := rd, obl := p } :=
  goes_pure hS hr hv

/-- The cells of an own row lie in memory. -/
theorem own_cells {w : World} {e : TypeId} {size : Nat} {v : Value} {k : Nat} {xs : List Value} (h : w.ownsRow 0 e size v k xs) {b n c : Nat} (hv : v = .slice (some ⟨b, 0, none⟩) n c) :
    ∀ (i : Nat) (u : Value), xs[i]? = some u → w.cell? ⟨b, i, none⟩ = some u := by
  intro i u hu
  have := h.cells (g := b) (by rw [hv]; rfl) i u hu
  have hadd : (⟨b, 0, none⟩ : Addr).add i = ⟨b, i, none⟩ := by unfold Addr.add; split <;> simp_all
  rwa [hadd] at this

theorem getD_lt {α : Type} (l : List α) (i : Nat) (d : α) (h : i < l.length) : l.getD i d = l[i] := by simp [List.getD_eq_getElem?_getD, h]

theorem g_load (hT : TabOk P tab) (hS : SRm E st a M) {T : TypeId} {te : TE} {x : Operand} {c : AV} {e : Eff} (ho : o.op = .load T x) (hte : tab.te.lookup T = some te) (hx : evalO st.sl' x = some c)
    (he : loadE te c st.ob' = some e) (hp : e.obl) : Goes P E a M o e := by
  have h1 := hS.eval hx
  generalize hv : a.eval x = vx at h1
  unfold loadE at he
  split at he
  · rename_i o' off
    split at he
    · rename_i T' cells hob
      split at he
      · rename_i r hl
        simp only [Option.some.injEq] at he
        subst he
        cases h1 with
        | box _ hb =>
          rename_i b
          obtain ⟨b', cs, h2, h3, hq, h4, h5⟩ := hS.obs o' _ hob
          rw [hb] at h2
          simp only [Value.pointer.injEq, Option.some.injEq, Addr.mk.injEq, and_true] at h2
          subst h2
          have hadd : (⟨b, 0, none⟩ : Addr).add off = ⟨b, off, none⟩ := by unfold Addr.add; split <;> simp_all
          obtain ⟨v, h6, h7⟩ := run_loadAV hT hte (P := P) (ad := ⟨b, 0, none⟩) h5 (fun i u hi => by
            have hadd : (⟨b, 0, none⟩ : Addr).add i = ⟨b, i, none⟩ := by unfold Addr.add; split <;> simp_all
            rw [hadd]
            simpa [World.cell?, h4] using hi) hl
          rw [hadd] at h6
          exact goes_rd hS (v := v) (by simp [execOp, ho, hv, Instr.loadAt, Instr.sureAddr, h6]) h7
      · cases he
    · cases he
  · rename_i o' sz i off
    split at he
    · rename_i p e' t l hob
      split at he
      · rename_i hsz
        subst hsz
        split at he
        · rename_i r hl
          simp only [Option.some.injEq] at he
          subst he
          simp only at hp
          cases h1 with
          | elt _ _ _ hb =>
            rename_i b n c'
            obtain ⟨xs, h2, h3, _, h4⟩ := hS.obs o' _ hob
            obtain ⟨us, h5, h6⟩ := h4.at i hp
            rw [getD_lt l i t.dflt hp] at hl
            have hadd : ∀ m, (⟨b, i * t.sz, none⟩ : Addr).add m = ⟨b, i * t.sz + m, none⟩ := fun m => by unfold Addr.add; split <;> simp_all
            obtain ⟨v, h7, h8⟩ := run_loadAV hT hte (P := P) (ad := ⟨b, i * t.sz, none⟩) (h5.vrs (p := p) fun _ h => h) (fun j u hj => by
              rw [hadd]
              exact own_cells h2 hb _ _ (h6 j u hj)) hl
            rw [hadd] at h7
            exact goes_rd hS (v := v) (by simp [execOp, ho, hv, Instr.loadAt, Instr.sureAddr, h7]) h8
        · cases he
      · cases he
    · cases he
  · rename_i p t y off
    split at he
    · rename_i r hl
      simp only [Option.some.injEq] at he
      subst he
      cases h1 with
      | rel h2 h3 h4 =>
        obtain ⟨v, h5, h6⟩ := run_loadAV hT hte (P := P) (h3.vrs (p := p) fun _ h => h) h4 hl
        exact goes_rd hS (v := v) (by simp [execOp, ho, hv, Instr.loadAt, Instr.sureAddr, h5]) h6
    · cases he
  · cases he

end
end Go.V

/- The by-value machine, part 6: stores, indexes, cuts, new rows. -/
namespace Go.V
open Go

section
variable {P : Program} {tab : Tab} {E : Env} {st : VS} {a : Act} {M : Mem} {o : Oper} {id : Nat}

/-! ### Stores -/
theorem setCells_len : ∀ (vs cs : List AV) (i : Nat), (setCells cs i vs).length = cs.length
  | [], cs, i => rfl
  | v :: vs, cs, i => by simp [setCells, setCells_len vs]
def setVals : List Value → Nat → List Value → List Value
  | cs, _, [] => cs
  | cs, i, v :: vs => setVals (cs.set i v) (i + 1) vs
theorem VRs.setCells {B : Rg} : ∀ {vs : List AV} {us : List Value} {cs : List AV} {ws : List Value} (i : Nat), VRs B M cs ws → VRs B M vs us → VRs B M (setCells cs i vs) (setVals ws i us)
  | [], _, _, _, i, h, h' => by cases h'; exact h
  | _ :: _, _, _, _, i, h, h' => by cases h' with | cons h1 h2 => exact VRs.setCells (i + 1) (h.set i h1) h2
theorem setVals_eq : ∀ (us ws : List Value) (i : Nat), i + us.length ≤ ws.length → setVals ws i us = ws.take i ++ us ++ ws.drop (i + us.length)
  | [], ws, i, _ => by simp [setVals]
  | u :: us, ws, i, h => by
    simp only [List.length_cons] at h
    rw [setVals, setVals_eq us (ws.set i u) (i + 1) (by simp; omega)]
    have := list_seg_step ws i u us (by omega)
    simpa using this

/-- The world with one block's cells set anew. -/
def Mem.setRow (M : Mem) (g : Nat) (cs : Array Value) : Mem := ⟨M.own, M.ρ, M.w.setRow g cs⟩
theorem Mem.setRow_stays {S : Nat → Prop} {g o' : Nat} (cs : Array Value) (hg : M.own g = some o') (hS : S o') : Stays S M (M.setRow g cs) := by
  refine ⟨by simp [Mem.setRow], fun b _ hn => ⟨hn, setRow_other _ _ _ _ ?_⟩, fun b x hx hs => ⟨hx, setRow_other _ _ _ _ ?_⟩, rfl, rfl, rfl⟩
  · rintro rfl; rw [hg] at hn; cases hn
  · rintro rfl; rw [hg] at hx; cases hx; exact hs hS
theorem Mem.setRow_bound {g : Nat} (cs : Array Value) (hb : ∀ b o, M.own b = some o → b < M.w.heap.size) : ∀ b o, (M.setRow g cs).own b = some o → b < (M.setRow g cs).w.heap.size := by
  intro b o' h
  simp only [Mem.setRow, setRow_size]
  exact hb b o' h

theorem VRs.stays' {S : Nat → Prop} {B : Rg} {M M' : Mem} (hs : Stays S M M') (hρ : M'.ρ = M.ρ) {cs : List AV} {vs : List Value} (h : VRs B M cs vs) : VRs B M' cs vs := by
  refine h.stays (nw := []) hs (fun o _ => by rw [hρ]) ?_
  have key : ∀ n : Nat, True := fun _ => trivial
  clear h hs
  revert vs
  have : (∀ c : AV, c.free [] = true) ∧ ∀ cs : List AV, freeAll [] cs = true := by
    refine ⟨fun c => ?_, fun cs => ?_⟩
    · exact AV.rec (motive_1 := fun c => c.free [] = true) (motive_2 := fun cs => freeAll [] cs = true) (by intros; rfl) (by intros; rfl) (by intros; rfl) (by intros; rfl) rfl (by intros; rfl) (by intros; rfl) (by intros; rfl) (by intros; rfl) (by intros; rfl)
        (by intro cs h; simpa [AV.free] using h) (by intro cs h; simpa [AV.free] using h) (by intro f cs h; simpa [AV.free] using h) rfl rfl rfl (by intro c cs h1 h2; simp [freeAll, h1, h2]) c
    · exact AV.rec_1 (motive_1 := fun c => c.free [] = true) (motive_2 := fun cs => freeAll [] cs = true) (by intros; rfl) (by intros; rfl) (by intros; rfl) (by intros; rfl) rfl (by intros; rfl) (by intros; rfl) (by intros; rfl) (by intros; rfl) (by intros; rfl)
        (by intro cs h; simpa [AV.free] using h) (by intro cs h; simpa [AV.free] using h) (by intro f cs h; simpa [AV.free] using h) rfl rfl rfl (by intro c cs h1 h2; simp [freeAll, h1, h2]) cs
  intro vs
  exact this.2 cs

/-! ### What is parsed out of cells -/
/-- Memory in which the objects of f are frozen. -/
def Mem.freeze (M : Mem) (f : List Nat) : Mem := ⟨fun b => match M.own b with | some o => if f.contains o then none else some o | none => none, M.ρ, M.w⟩
theorem Mem.freeze_stays (f : List Nat) : Stays (fun o => o ∈ f) M (M.freeze f) := by
  refine ⟨Nat.le_refl _, fun b _ hn => ⟨by simp [Mem.freeze, hn], rfl⟩, fun b o' ho hs => ⟨?_, rfl⟩, rfl, rfl, rfl⟩
  simp only [Mem.freeze, ho]
  rw [if_neg (by simpa using hs)]
theorem Mem.freeze_bound (f : List Nat) (hb : ∀ b o, M.own b = some o → b < M.w.heap.size) : ∀ b o, (M.freeze f).own b = some o → b < (M.freeze f).w.heap.size := by
  intro b o' h
  simp only [Mem.freeze] at h ⊢
  split at h
  · rename_i x hx
    exact hb b x hx
  · cases h
theorem Mem.freeze_none {f : List Nat} {b : Nat} (h : M.own b = none) : (M.freeze f).own b = none := by simp [Mem.freeze, h]
theorem Mem.freeze_in {f : List Nat} {b o' : Nat} (h : M.own b = some o') (hf : o' ∈ f) : (M.freeze f).own b = none := by simp [Mem.freeze, h, hf]
theorem Fz.freeze {B : Rg} {p : Bool} {f : List Nat} {b : Nat} (h : Fz B M p b) : Fz B (M.freeze f) p b := ⟨Mem.freeze_none h.1, h.2⟩
theorem Fz.freeze' {B : Rg} {p : Bool} {f g : List Nat} (hfg : ∀ o, o ∈ f → o ∈ g) {b : Nat} (h : Fz B (M.freeze f) p b) : Fz B (M.freeze g) p b := by
  refine ⟨?_, h.2⟩
  have h1 := h.1
  simp only [Mem.freeze] at h1 ⊢
  split at h1
  · rename_i x hx
    split at h1
    · rename_i hc
      rw [if_pos (by simpa using hfg x (by simpa using hc))]
    · cases h1
  · rfl

theorem Stays.trans {S : Nat → Prop} {M1 M2 : Mem} (h : Stays S M M1) (h' : Stays S M1 M2) : Stays S M M2 where
  size := Nat.le_trans h.size h'.size
  fro := fun b hb hn => by
    obtain ⟨h1, h2⟩ := h.fro b hb hn
    obtain ⟨h3, h4⟩ := h'.fro b (Nat.lt_of_lt_of_le hb h.size) h1
    exact ⟨h3, h4.trans h2⟩
  obs := fun b o' ho hs => by
    obtain ⟨h1, h2⟩ := h.obs b o' ho hs
    obtain ⟨h3, h4⟩ := h'.obs b o' h1 hs
    exact ⟨h3, h4.trans h2⟩
  os := h'.os.trans h.os
  tape := h'.tape.trans h.tape
  output := h'.output.trans h.output
theorem Stays.weak {S S' : Nat → Prop} {M1 : Mem} (h : Stays S M M1) (hs : ∀ o, S o → S' o) : Stays S' M M1 :=
  ⟨h.size, h.fro, fun b o' ho hn => h.obs b o' ho fun h => hn (hs _ h), h.os, h.tape, h.output⟩

theorem castL_spec {t t' : Ty} {l : List t.T} {l' : List t'.T} (h : t.castL? t' l = some l') : ∃ e : t = t', e ▸ l = l' := by
  unfold Ty.castL? at h
  split at h
  · rename_i e
    exact ⟨e, by simpa using h⟩
  · cases h

/-- The state of a row: what its value reads as, once it is frozen or not. -/
theorem row_reads {A : Nat → Prop} {B : Rg} {o' : Nat} {q p : Bool} {e : TypeId} {t : Ty} {l : List t.T} (h : OR B M o' (.row q p e t l)) (hA : ∀ b, Fz B M p b → A b) (hA' : ∀ b, (M.ρ o').ownBlock = some b → M.own b = some o' → A b) :
    RdC A M.w (.slice e t) [M.ρ o'] l := by
  obtain ⟨xs, h1, h2, _, h3⟩ := h
  simp only [RdC]
  have hx := h3.len
  rcases h1.2 with ⟨hn, h0⟩ | ⟨g, cap, cur, he, hb, hh, hnc, hcm, hcs, htake⟩
  · have : l = [] := List.eq_nil_of_length_eq_zero h0
    subst this
    exact ⟨none, 0, by rw [hn]; rfl, ⟨Nat.zero_le _, Nat.zero_le _⟩, fun h => absurd rfl h⟩
  · refine ⟨_, cap, by rw [he], ⟨Nat.le_trans hnc hcm, hnc⟩, fun _ => ⟨_, rfl, hA' g (by rw [he]; rfl) (h2 g (by rw [he]; rfl)), fun j hj => ?_⟩⟩
    obtain ⟨us, h4, h5⟩ := h3.at j hj
    refine ⟨us, h4.mono fun b hb _ => ⟨hA b hb, rfl⟩, fun i u hi => ?_⟩
    have hadd : (⟨g, 0, none⟩ : Addr).add (j * t.sz + i) = ⟨g, j * t.sz + i, none⟩ := by unfold Addr.add; split <;> simp_all
    rw [hadd]
    exact own_cells h1 he _ _ (h5 i u hi)

theorem row_slice {B : Rg} {o' : Nat} {v : Value} (h : VR B M (.row o') v) : v = M.ρ o' := by
  cases h with | row h => exact h.symm
theorem VRs.one_ {B : Rg} {c : AV} {vs : List Value} (h : VRs B M [c] vs) : ∃ v, vs = [v] ∧ VR B M c v := by
  cases h with | cons h1 h2 => cases h2; exact ⟨_, rfl, h1⟩

theorem parse_spec {B : Rg} {lob : Nat → Option Ob} (hO : ∀ o ob, lob o = some ob → OR B M o ob) (hin : ∀ b o, M.own b = some o → B.B ≤ b ∨ B.old b) : ∀ {t : Ty} {cs : List AV} {vs : List Value} {x : t.T} {p : Bool} {f : List Nat},
    parse lob t cs = some (x, p, f) → VRs B M cs vs → RdC (Fz B (M.freeze f) p) M.w t vs x := by
  intro t
  induction t with
  | int k =>
    intro cs vs x p f h hv
    simp only [parse] at h
    split at h
    · split at h
      · rename_i hk
        simp only [Option.some.injEq, Prod.mk.injEq] at h
        obtain ⟨rfl, rfl, rfl⟩ := h
        obtain ⟨v, rfl, hv1⟩ := hv.one_
        cases hv1; subst hk; simp only [RdC]
      · cases h
    · cases h
  | byte =>
    intro cs vs x p f h hv
    simp only [parse] at h
    split at h
    · simp only [Option.some.injEq, Prod.mk.injEq] at h
      obtain ⟨rfl, rfl, rfl⟩ := h
      obtain ⟨v, rfl, hv1⟩ := hv.one_
      cases hv1; simp only [RdC]
    · cases h
  | bool =>
    intro cs vs x p f h hv
    simp only [parse] at h
    split at h
    · simp only [Option.some.injEq, Prod.mk.injEq] at h
      obtain ⟨rfl, rfl, rfl⟩ := h
      obtain ⟨v, rfl, hv1⟩ := hv.one_
      cases hv1; simp only [RdC]
    · cases h
  | str =>
    intro cs vs x p f h hv
    simp only [parse] at h
    split at h
    · simp only [Option.some.injEq, Prod.mk.injEq] at h
      obtain ⟨rfl, rfl, rfl⟩ := h
      obtain ⟨v, rfl, hv1⟩ := hv.one_
      cases hv1; simp only [RdC]
    · cases h
  | slice e t _ =>
    intro cs vs x p f h hv
    simp only [parse] at h
    split at h
    · rename_i p' e' t' l
      split at h
      · rename_i he
        subst he
        split at h
        · rename_i l' hl
          simp only [Option.some.injEq, Prod.mk.injEq] at h
          obtain ⟨rfl, rfl, rfl⟩ := h
          obtain ⟨rfl, rfl⟩ := castL_spec hl
          obtain ⟨v, rfl, hv1⟩ := hv.one_
          cases hv1 with
          | ro hv2 => exact hv2.mono fun b hb _ => ⟨hb.freeze, rfl⟩
        · cases h
      · cases h
    · simp only [Option.some.injEq, Prod.mk.injEq] at h
      obtain ⟨rfl, rfl, rfl⟩ := h
      obtain ⟨v, rfl, hv1⟩ := hv.one_
      cases hv1
      simp only [RdC]
      exact ⟨none, 0, rfl, ⟨Nat.zero_le _, Nat.zero_le _⟩, fun h => absurd rfl h⟩
    · rename_i o'
      split at h
      · rename_i q p' e' t' l hob
        split at h
        · rename_i he
          subst he
          split at h
          · rename_i l' hl
            simp only [Option.some.injEq, Prod.mk.injEq] at h
            obtain ⟨rfl, rfl, rfl⟩ := h
            obtain ⟨rfl, rfl⟩ := castL_spec hl
            obtain ⟨v, rfl, hv1⟩ := hv.one_
            have hv' := row_slice hv1
            subst hv'
            have ho := hO _ _ hob
            refine row_reads ho (fun b hb => ?_) (fun b hg hb => ?_)
            · have := hb.freeze (f := [o'])
              exact this.or
            · refine ⟨Mem.freeze_in hb (by simp), ?_⟩
              obtain ⟨xs, h1, h2, hqq, h3⟩ := ho
              by_cases hq : q = true
              · exact (hin b o' hb).imp id fun h => ⟨by simp [hq], h⟩
              · refine .inl ?_
                have hq' : q = false := by simpa using hq
                exact hqq hq' b hb
          · cases h
        · cases h
      · cases h
    · cases h
  | pair a b iha ihb =>
    intro cs vs x p f h hv
    simp only [parse] at h
    split at h
    · rename_i x1 p1 f1 y1 q1 g1 h1 h2
      simp only [Option.some.injEq, Prod.mk.injEq] at h
      obtain ⟨rfl, rfl, rfl⟩ := h
      have hv1 := hv.take a.sz
      have hv2 := hv.drop a.sz
      refine ⟨vs.take a.sz, vs.drop a.sz, (List.take_append_drop _ _).symm, ?_, ?_⟩
      · exact (iha h1 hv1).mono fun b hb _ => ⟨(hb.freeze' (g := f1 ++ g1) fun o ho => by simp [ho]).or, rfl⟩
      · exact (ihb h2 hv2).mono fun b hb _ => ⟨(hb.freeze' (g := f1 ++ g1) fun o ho => by simp [ho]).or', rfl⟩
    · cases h


theorem parse_len {lob : Nat → Option Ob} {t : Ty} {cs : List AV} {vs : List Value} {x : t.T} {p : Bool} {f : List Nat} {B : Rg} (hO : ∀ o ob, lob o = some ob → OR B M o ob) (hin : ∀ b o, M.own b = some o → B.B ≤ b ∨ B.old b)
    (h : parse lob t cs = some (x, p, f)) (hv : VRs B M cs vs) : vs.length = t.sz := (parse_spec hO hin h hv).len

theorem upd_spec {B : Rg} {lob : Nat → Option Ob} (hO : ∀ o ob, lob o = some ob → OR B M o ob) (hin : ∀ b o, M.own b = some o → B.B ≤ b ∨ B.old b) {p0 : Bool} : ∀ {t : Ty} {off n : Nat} {cs : List AV} {vs us : List Value} {x y : t.T} {p : Bool} {f : List Nat},
    upd lob t off n cs x = some (y, p, f) → VRs B M cs vs → RdC (Fz B M p0) M.w t us x →
    vs.length = n ∧ off + n ≤ t.sz ∧ RdC (Fz B (M.freeze f) (p0 || p)) M.w t (us.take off ++ vs ++ us.drop (off + n)) y := by
  have leaf : ∀ {t : Ty} {off n : Nat} {cs : List AV} {vs us : List Value} {x y : t.T} {p : Bool} {f : List Nat}, t.sz = n → off = 0 → parse lob t cs = some (y, p, f) → VRs B M cs vs → RdC (Fz B M p0) M.w t us x →
      vs.length = n ∧ off + n ≤ t.sz ∧ RdC (Fz B (M.freeze f) (p0 || p)) M.w t (us.take off ++ vs ++ us.drop (off + n)) y := by
    intro t off n cs vs us x y p f hsz ho hp hv hu
    subst ho
    have h1 := parse_spec hO hin hp hv
    have h2 := hu.len
    have h3 := h1.len
    refine ⟨h3.trans hsz, by omega, ?_⟩
    have e : us.drop (0 + n) = [] := List.drop_eq_nil_of_le (by omega)
    rw [e]
    simp only [List.take_zero, List.nil_append, List.append_nil]
    exact h1.mono fun b hb _ => ⟨hb.or', rfl⟩
  intro t
  induction t with
  | pair a b iha ihb =>
    intro off n cs vs us x y p f h hv hu
    simp only [upd] at h
    split at h
    · rename_i hc
      exact leaf (by simp [Ty.sz, hc.2]) hc.1 h hv hu
    · split at h
      · rename_i hle
        split at h
        · rename_i y1 p1 f1 h1
          simp only [Option.some.injEq, Prod.mk.injEq] at h
          obtain ⟨rfl, rfl, rfl⟩ := h
          simp only [RdC] at hu
          obtain ⟨u1, u2, rfl, hu1, hu2⟩ := hu
          obtain ⟨g1, g2, g3⟩ := iha h1 hv hu1
          refine ⟨g1, by simp only [Ty.sz]; omega, ?_⟩
          have hl := hu1.len
          refine ⟨u1.take off ++ vs ++ u1.drop (off + n), u2, ?_, g3, hu2.mono fun b hb _ => ⟨hb.freeze.or, rfl⟩⟩
          rw [List.take_append_of_le_length (by omega), List.drop_append_of_le_length (by omega)]
          simp
        · cases h
      · split at h
        · rename_i hle
          split at h
          · rename_i y1 p1 f1 h1
            simp only [Option.some.injEq, Prod.mk.injEq] at h
            obtain ⟨rfl, rfl, rfl⟩ := h
            simp only [RdC] at hu
            obtain ⟨u1, u2, rfl, hu1, hu2⟩ := hu
            obtain ⟨g1, g2, g3⟩ := ihb h1 hv hu2
            refine ⟨g1, by simp only [Ty.sz]; omega, ?_⟩
            have hl := hu1.len
            refine ⟨u1, u2.take (off - a.sz) ++ vs ++ u2.drop (off - a.sz + n), ?_, hu1.mono fun b hb _ => ⟨hb.freeze.or, rfl⟩, g3⟩
            rw [List.take_append, List.drop_append, List.take_of_length_le (by omega), List.drop_eq_nil_of_le (by omega), hl]
            rw [show off + n - a.sz = off - a.sz + n by omega]
            simp
          · cases h
        · cases h
  | int k =>
    intro off n cs vs us x y p f h hv hu
    simp only [upd] at h
    split at h
    · rename_i hc; exact leaf (by simp [Ty.sz, hc.2]) hc.1 h hv hu
    · cases h
  | byte =>
    intro off n cs vs us x y p f h hv hu
    simp only [upd] at h
    split at h
    · rename_i hc; exact leaf (by simp [Ty.sz, hc.2]) hc.1 h hv hu
    · cases h
  | bool =>
    intro off n cs vs us x y p f h hv hu
    simp only [upd] at h
    split at h
    · rename_i hc; exact leaf (by simp [Ty.sz, hc.2]) hc.1 h hv hu
    · cases h
  | str =>
    intro off n cs vs us x y p f h hv hu
    simp only [upd] at h
    split at h
    · rename_i hc; exact leaf (by simp [Ty.sz, hc.2]) hc.1 h hv hu
    · cases h
  | slice e t _ =>
    intro off n cs vs us x y p f h hv hu
    simp only [upd] at h
    split at h
    · rename_i hc; exact leaf (by simp [Ty.sz, hc.2]) hc.1 h hv hu
    · cases h

/-- One element set anew. -/
theorem RdL.set {A : Nat → Prop} {w : World} {t : Ty} : ∀ {xs : List Value} {l : List t.T} (i : Nat) {us : List Value} {y : t.T}, RdL A w t xs l → i < l.length → RdC A w t us y →
    RdL A w t (xs.take (i * t.sz) ++ us ++ xs.drop (i * t.sz + t.sz)) (l.set i y)
  | _, [], i, _, _, _, hi, _ => by simp at hi
  | _, x :: l, i, us, y, h, hi, hu => by
    obtain ⟨u1, rest, rfl, h1, h2⟩ := h
    have hl := h1.len
    cases i with
    | zero =>
      refine ⟨us, rest, ?_, hu, h2⟩
      simp [hl]
    | succ i =>
      refine ⟨u1, rest.take (i * t.sz) ++ us ++ rest.drop (i * t.sz + t.sz), ?_, h1, RdL.set i h2 (by simpa using hi) hu⟩
      have e1 : (i + 1) * t.sz = u1.length + i * t.sz := by rw [Nat.add_mul]; omega
      rw [e1, List.take_append, List.drop_append, List.take_of_length_le (by omega), List.drop_eq_nil_of_le (by omega)]
      simp [Nat.add_assoc]

end
end Go.V

/- The by-value machine, part 7: stores, indexes. -/
namespace Go.V
open Go

section
variable {P : Program} {tab : Tab} {E : Env} {st : VS} {a : Act} {M : Mem} {o : Oper} {id : Nat}

theorem add0 (b k m : Nat) : (⟨b, k, none⟩ : Addr).add m = ⟨b, k + m, none⟩ := by unfold Addr.add; split <;> simp_all

theorem run_storeVar (hT : TabOk P tab) {T : TypeId} {te : TE} (hte : tab.te.lookup T = some te) {g off : Nat} {U : TypeId} {v : Value} {cur : Array Value} {w : World} (hg : w.heap[g]? = some (.cells cur U (0, 0)))
    (hsz : v.cells.toList.length = te.size) (hfit : off + te.size ≤ cur.size) (h1 : ∀ u ∈ v.cells.toList, u.oneCell' = true) :
    (storeVar T ⟨g, off, none⟩ v).run P w = .ok () (w.setRow g (cur.toList.take off ++ v.cells.toList ++ cur.toList.drop (off + te.size)).toArray) := by
  have hr := run_storeCells_at P g off U v.cells.toList 0 cur w hg (by rw [hsz]; simpa using hfit) h1
  simp only [Nat.add_zero, hsz] at hr
  have hs : v.cells.size = te.size := by simpa using hsz
  simp [storeVar, run_size hT hte, hs, hr]

theorem seg_store {α : Type} (A us C D v : List α) (off n : Nat) (hk : off + n ≤ us.length) (hv : v.length = n) :
    ((A ++ us ++ C ++ D).take (A.length + off) ++ v ++ (A ++ us ++ C ++ D).drop (A.length + off + n)).take (A.length + us.length + C.length) = A ++ (us.take off ++ v ++ us.drop (off + n)) ++ C := by
  have e1 : (A ++ us ++ C ++ D).take (A.length + off) = A ++ us.take off := by
    rw [List.append_assoc, List.append_assoc, List.take_append, List.take_of_length_le (by omega), List.take_append_of_le_length (by omega)]
    congr 2; omega
  have e2 : (A ++ us ++ C ++ D).drop (A.length + off + n) = us.drop (off + n) ++ C ++ D := by
    rw [List.append_assoc, List.append_assoc, List.drop_append, List.drop_eq_nil_of_le (by omega), List.nil_append, List.drop_append_of_le_length (by omega), List.append_assoc]
    congr 2; omega
  rw [e1, e2]
  have e3 : A ++ List.take off us ++ v ++ (List.drop (off + n) us ++ C ++ D) = (A ++ (us.take off ++ v ++ us.drop (off + n)) ++ C) ++ D := by simp
  rw [e3, List.take_left']
  simp; omega
theorem seg_split {α : Type} (xs us : List α) (k n : Nat) (hu : us.length = n) (hle : k + n ≤ xs.length) (h : ∀ i u, us[i]? = some u → xs[k + i]? = some u) : xs = xs.take k ++ us ++ xs.drop (k + n) := by
  have e : us = (xs.drop k).take n := by
    apply List.ext_getElem?
    intro i
    by_cases hi : i < n
    · rw [List.getElem?_take_of_lt hi, List.getElem?_drop, h i us[i] (List.getElem?_eq_getElem (by omega)), List.getElem?_eq_getElem (by omega)]
    · rw [List.getElem?_eq_none (by omega), List.getElem?_eq_none (by simp; omega)]
  rw [e, ← List.drop_drop, List.append_assoc, List.take_append_drop, List.take_append_drop]

theorem Mem.freeze_own {f : List Nat} {b x : Nat} (h : (M.freeze f).own b = some x) : M.own b = some x := by
  simp only [Mem.freeze] at h
  split at h
  · rename_i y hy
    split at h
    · cases h
    · rw [hy]; exact h
  · cases h
theorem Mem.freeze_own' {f : List Nat} {b x : Nat} (h : (M.freeze f).own b = some x) : M.own b = some x ∧ x ∉ f := by
  refine ⟨Mem.freeze_own h, fun hx => ?_⟩
  rw [Mem.freeze_in (Mem.freeze_own h) hx] at h
  cases h
theorem SRm.obs' (hS : SRm E st a M) : ∀ o ob, st.ob' o = some ob → OR E.B M o ob := hS.obs
theorem SRm.inO' (hS : SRm E st a M) : ∀ b o, M.own b = some o → E.B.B ≤ b ∨ E.B.old b := hS.fr.inO

theorem g_store (hT : TabOk P tab) (hS : SRm E st a M) {T : TypeId} {te : TE} {x y : Operand} {c d : AV} {e : Eff} (ho : o.op = .store T x y) (hte : tab.te.lookup T = some te) (hx : evalO st.sl' x = some c) (hy : evalO st.sl' y = some d)
    (he : storeE te st.ob' c d = some e) (hp : e.obl) : Goes P E a M o e := by
  have h1 := hS.eval hx
  have hd := hS.eval hy
  generalize hv : a.eval x = vx at h1
  generalize hu : a.eval y = vy at hd
  unfold storeE at he
  split at he
  · rename_i hc
    obtain ⟨hsz, hone⟩ := hc
    have hcs := hd.cells (one_known hone)
    have hlen := hcs.len
    have hoc := hcs.one hone
    split at he
    · rename_i o' off
      split at he
      · rename_i q T' cells hob
        split at he
        · rename_i hle
          simp only [Option.some.injEq] at he
          subst he
          cases h1 with
          | box _ hb =>
            rename_i b
            obtain ⟨b', cs, h2, h3, hq, h4, h5⟩ := hS.obs o' _ hob
            rw [hb] at h2
            simp only [Value.pointer.injEq, Option.some.injEq, Addr.mk.injEq, and_true] at h2
            subst h2
            have hl5 := h5.len
            have hr := run_storeVar (P := P) (off := off) (v := vy) hT hte h4 (by omega) (by simp at hl5; omega) hoc
            have hs := Mem.setRow_stays (M := M) (S := fun x => x = o') (cs.toList.take off ++ vy.cells.toList ++ cs.toList.drop (off + te.size)).toArray h3 rfl
            refine goes_skip (M' := M.setRow b _) (by simp [execOp, ho, hv, hu, Instr.storeAt, Instr.sureAddr, hr]; rfl)
              ⟨hs.weak fun x hx => by subst hx; simp, fun _ _ => rfl, .undef _, ?_, (fun b' x hx => ⟨Mem.setRow_bound _ hS.fr.bound b' x hx, hS.fr.inO b' x hx⟩), fun b' x hx => .inr ⟨hx, by simp⟩⟩
            intro x ob hm
            simp only [List.mem_singleton, Prod.mk.injEq] at hm
            obtain ⟨rfl, rfl⟩ := hm
            refine ⟨b, _, hb, h3, hq, setRow_heap _ _ _ _ _ _ h4, ?_⟩
            have e1 := setVals_eq vy.cells.toList cs.toList off (by simp at hl5 ⊢; simp at hlen; omega)
            rw [show off + vy.cells.toList.length = off + te.size by omega] at e1
            have := VRs.setCells off h5 hcs
            rw [e1] at this
            simpa using this.stays' hs rfl
        · cases he
      · cases he
    · rename_i o' sz i off
      split at he
      · rename_i x p e' t l hob
        split at he
        · rename_i hsz'
          subst hsz'
          split at he
          · rename_i y1 q1 f hup
            split at he
            · cases he
            · rename_i hnf
              simp only [Option.some.injEq] at he
              subst he
              simp only at hp
              cases h1 with
              | elt _ _ _ hb =>
                rename_i b n c'
                have hor := hS.obs o' _ hob
                obtain ⟨xs, h2, h3, hqq, h4⟩ := hor
                obtain ⟨us, h5, h6⟩ := h4.at i hp
                rw [getD_lt l i t.dflt hp] at hup
                obtain ⟨g1, g2, g3⟩ := upd_spec (hS.obs') hS.inO' hup hcs h5
                have hown := h3 b (by rw [hb]; rfl)
                obtain ⟨hxl, hrow⟩ := h2
                rcases hrow with ⟨hn, _⟩ | ⟨g, cap, cur, hg, _, hh, hnc, hcm, hcs', htake⟩
                · rw [hb] at hn; simp at hn
                rw [hb] at hg
                simp only [Value.slice.injEq, Option.some.injEq, Addr.mk.injEq, and_true] at hg
                obtain ⟨hg1, rfl, rfl⟩ := hg
                have hg1' : b = g := hg1
                subst hg1'
                have hxs := h4.len
                have hul := h5.len
                have hle2 : i * t.sz + t.sz ≤ l.length * t.sz := by
                  have : (i + 1) * t.sz ≤ l.length * t.sz := Nat.mul_le_mul_right _ hp
                  rw [Nat.add_mul] at this; omega
                have hle : i * t.sz + (off + te.size) ≤ l.length * t.sz := by omega
                have hvs : vy.cells.size = te.size := by simpa using g1
                have hcap : l.length * t.sz ≤ c' * t.sz := Nat.mul_le_mul_right _ hnc
                have hr := run_storeVar (P := P) (off := i * t.sz + off) (v := vy) hT hte hh (by omega) (by rw [hcs']; omega) hoc
                have hfree : o' ∉ f := by simpa using hnf
                have hown1 : (M.freeze f).own b = some o' := by
                  simp only [Mem.freeze, hown]
                  rw [if_neg (by simpa using hfree)]
                have hs1 := Mem.freeze_stays (M := M) f
                have hs2 := Mem.setRow_stays (M := M.freeze f) (S := fun x => x ∈ f ∨ x = o') (cur.toList.take (i * t.sz + off) ++ vy.cells.toList ++ cur.toList.drop (i * t.sz + off + te.size)).toArray hown1 (.inr rfl)
                have hs : Stays (fun x => x ∈ f ∨ x = o') M _ := (hs1.weak fun _ h => .inl h).trans hs2
                refine goes_skip (M' := (M.freeze f).setRow b _) (by simp [execOp, ho, hv, hu, Instr.storeAt, Instr.sureAddr, hr]; rfl)
                  ⟨hs.weak fun x hx => by rcases hx with h | h <;> simp [h], fun _ _ => rfl, .undef _, ?_, fun b' x hx => ?_, fun b' x hx => .inr (Mem.freeze_own' hx)⟩
                · intro x2 ob hm
                  simp only [List.mem_singleton, Prod.mk.injEq] at hm
                  obtain ⟨rfl, rfl⟩ := hm
                  have hset := (RdL.set i (h4.mono (A' := Fz E.B (M.freeze f) (p || q1)) fun b hb _ => ⟨hb.freeze.or, rfl⟩) hp g3).nrm
                  refine ⟨_, ⟨?_, .inr ⟨b, c', _, by rw [List.length_set]; exact hb, Nat.zero_le _, setRow_heap _ _ _ _ _ _ hh, by simpa using hnc, hcm, ?_, ?_⟩⟩, fun g hg => ?_, fun h b' hb' => hqq h b' (Mem.freeze_own hb'), hset.mono (Fz.stays hs2)⟩
                  · have := hset.len; simpa using this
                  · simp only [List.size_toArray, List.length_append, List.length_take, List.length_drop, Array.length_toList]
                    rw [hcs', hvs, Nat.min_eq_left (by omega)]
                    omega
                  · have hsp := seg_split xs us (i * t.sz) t.sz hul (by omega) h6
                    have hcd : cur.toList = xs ++ cur.toList.drop (l.length * t.sz) := by rw [← htake, List.take_append_drop]
                    have hA : (xs.take (i * t.sz)).length = i * t.sz := by simp; omega
                    have hC : (xs.drop (i * t.sz + t.sz)).length = l.length * t.sz - (i * t.sz + t.sz) := by simp; omega
                    have := seg_store (xs.take (i * t.sz)) us (xs.drop (i * t.sz + t.sz)) (cur.toList.drop (l.length * t.sz)) vy.cells.toList off te.size (by omega) g1
                    rw [← hsp, ← hcd, hA, hul, hC] at this
                    simp only [List.length_set]
                    rw [← this]
                    congr 1
                    omega
                  · change (M.ρ x2).ownBlock = some g at hg
                    rw [hb] at hg
                    simp only [Value.ownBlock, Option.some.injEq] at hg
                    subst hg
                    exact hown1
                · have hx' := Mem.freeze_own (f := f) hx
                  refine ⟨?_, hS.fr.inO b' _ hx'⟩
                  simp only [Mem.setRow, setRow_size]
                  exact hS.fr.bound b' _ hx'
          · cases he
        · cases he
      · cases he
    · cases he
  · cases he

end
end Go.V

/- The by-value machine, part 8: indexes, lengths, cuts, conversions. -/
namespace Go.V
open Go

section
variable {P : Program} {tab : Tab} {E : Env} {st : VS} {a : Act} {M : Mem} {o : Oper} {id : Nat}

theorem elem_eq {P : Program} {T e : TypeId} (h : P.underlying T = some (.slice e)) : P.underlying T = some (.slice (P.elem T)) ∧ P.elem T = e := by
  have : P.elem T = e := by simp [Program.elem, h]
  exact ⟨by rw [this]; exact h, this⟩

theorem run_indexAddr {T e : TypeId} {te : TE} (hT : TabOk P tab) (hu : P.underlying T = some (.slice e)) (hte : tab.te.lookup e = some te) {ad : Addr} {len cap : Nat} {k : IntKind} {i : Int} (h0 : 0 ≤ i) (h1 : i < len) {w : World} :
    (Instr.indexAt T (.slice (some ad) len cap) (.int k i)).run P w = .ok (.pointer (some (ad.add (i.toNat * te.size)))) w := by
  obtain ⟨h2, h3⟩ := elem_eq hu
  rw [run_indexAt_slice w T ad len cap k i h2, if_pos ⟨h0, h1⟩, h3, run_size hT hte]
  rfl

theorem ro_at {B : Rg} {p : Bool} {e : TypeId} {t : Ty} {l : List t.T} {v : Value} (h : RdC (Fz B M p) M.w (.slice e t) [v] l) {j : Nat} (hj : j < l.length) :
    ∃ ad c us, v = .slice (some ad) l.length c ∧ Fz B M p ad.block ∧ RdC (Fz B M p) M.w t us l[j] ∧ ∀ i u, us[i]? = some u → M.w.cell? (ad.add (j * t.sz + i)) = some u := by
  simp only [RdC, List.cons.injEq, and_true] at h
  obtain ⟨a, c, rfl, _, h⟩ := h
  obtain ⟨ad, rfl, hA, h⟩ := h (by intro h; subst h; simp at hj)
  obtain ⟨us, h1, h2⟩ := h j hj
  exact ⟨ad, c, us, rfl, hA, h1, h2⟩

theorem int_of {B : Rg} {k : IntKind} {n : Int} {v : Value} (h : VR B M (.int k n) v) : v = .int k n := by cases h; rfl

theorem g_indexRow (hT : TabOk P tab) (hS : SRm E st a M) {T e e' : TypeId} {q p : Bool} {t : Ty} {l : List t.T} {x i : Operand} {o' : Nat} {k : IntKind} {n : Int} (ho : o.op = .indexAddr T x i) (hel : elT tab T = some (e, t)) (hx : evalO st.sl' x = some (.row o'))
    (hi : evalO st.sl' i = some (.int k n)) (hob : st.ob' o' = some (.row q p e' t l)) (h0 : 0 ≤ n) (h1 : n < (l.length : Int)) :
    Goes P E a M o { val := .elt o' t.sz n.toNat 0, rd := [o'], obl := 0 ≤ n ∧ n < (l.length : Int) } := by
  have hv := hS.eval hx
  have hn := int_of (hS.eval hi)
  obtain ⟨hu, te, hte, _, hsz, _⟩ := el_spec hT hel
  generalize hvx : a.eval x = vx at hv
  obtain ⟨xs, h2, h3, _, h4⟩ := hS.obs o' _ hob
  cases hv with
  | row hv =>
    rcases h2.2 with ⟨hn0, h00⟩ | ⟨g, cap, cur, he, hb, hh, hnc, hcm, hcs, htake⟩
    · omega
    · rw [hv] at he
      simp only [Value.slice.injEq] at he
      obtain ⟨rfl, rfl, rfl⟩ := he
      have hr := fun cap => run_indexAddr (P := P) (k := k) (ad := ⟨g, 0, none⟩) (cap := cap) hT hu hte h0 h1 (w := M.w)
      simp only [add0, hsz, Nat.zero_add] at hr
      refine goes_rd hS (v := .pointer (some ⟨g, n.toNat * t.sz + 0, none⟩)) ?_ (.elt _ _ 0 hv)
      simp [execOp, ho, hvx, hn, hr]

theorem g_indexRo (hT : TabOk P tab) (hS : SRm E st a M) {T e e' : TypeId} {p : Bool} {t : Ty} {l : List t.T} {x i : Operand} {k : IntKind} {n : Int} (ho : o.op = .indexAddr T x i) (hel : elT tab T = some (e, t)) (hx : evalO st.sl' x = some (.ro p e' t l))
    (hi : evalO st.sl' i = some (.int k n)) (h0 : 0 ≤ n) (h1 : n < (l.length : Int)) :
    Goes P E a M o { val := .rel p t (l.getD n.toNat t.dflt) 0, obl := 0 ≤ n ∧ n < (l.length : Int) } := by
  have hv := hS.eval hx
  have hn := int_of (hS.eval hi)
  obtain ⟨hu, te, hte, _, hsz, _⟩ := el_spec hT hel
  generalize hvx : a.eval x = vx at hv
  cases hv with
  | ro hv =>
    obtain ⟨ad, c, us, h2, h3, h4, h5⟩ := ro_at hv (show n.toNat < l.length by omega)
    simp only [Value.slice.injEq] at h2
    obtain ⟨rfl, rfl, rfl⟩ := h2
    have hr := fun cap => run_indexAddr (P := P) (k := k) (ad := ad) (cap := cap) hT hu hte h0 h1 (w := M.w)
    rw [hsz] at hr
    rw [getD_lt l _ t.dflt (by omega)]
    refine goes_rd hS (v := .pointer (some ((ad.add (n.toNat * t.sz)).add 0))) ?_ (.rel (by rw [add_block]; exact h3) h4 fun i u hi => by rw [add_add]; exact h5 i u hi)
    rw [add_add]
    simp [execOp, ho, hvx, hn, hr]

theorem getElem_mk (s : List UInt8) (i : Nat) : (⟨⟨s⟩⟩ : ByteArray)[i]? = s[i]? := by
  by_cases h : i < s.length
  · rw [List.getElem?_eq_getElem h]
    exact getElem?_pos (⟨⟨s⟩⟩ : ByteArray) i h
  · rw [List.getElem?_eq_none (by omega)]
    exact getElem?_neg (⟨⟨s⟩⟩ : ByteArray) i h

theorem g_index (hT : TabOk P tab) (hS : SRm E st a M) {T : TypeId} {x i : Operand} {s : List UInt8} {k : IntKind} {n : Int} (ho : o.op = .index T x i) (hs : shT tab T = some .str) (hx : evalO st.sl' x = some (.str s))
    (hi : evalO st.sl' i = some (.int k n)) (h0 : 0 ≤ n) (h1 : n < (s.length : Int)) : Goes P E a M o { val := .byte (s.getD n.toNat 0), obl := 0 ≤ n ∧ n < (s.length : Int) } := by
  have hv := hS.eval hx
  have hn := int_of (hS.eval hi)
  obtain ⟨d, hu, hd⟩ := sh_spec hT hs
  have hu' : P.underlying T = some .string := by cases d <;> simp [shOf] at hd; exact hu
  generalize hvx : a.eval x = vx at hv
  cases hv
  have hlt : n.toNat < s.length := by omega
  rw [getD_lt s _ 0 hlt]
  refine goes_rd hS (v := .int .u8 (s[n.toNat].toNat : Int)) ?_ (.byte _)
  simp [execOp, ho, hvx, hn, Instr.index, run_underlying hu', asIntOf, h0, getElem_mk, hlt]

/-! ### Lengths -/
theorem sl_spec {x : AV} {v : Value} {s : SlV} (hS : SRm E st a M) (h : slOf st.ob' x = some s) (hv : VR E.B M x v) : ∃ ad c, v = .slice ad s.l.length c ∧ s.l.length ≤ c ∧ s.l.length ≤ maxLen ∧
    (s.l ≠ [] → ∃ b, ad = some b ∧ ∀ j (hj : j < s.l.length), ∃ us, RdC (Fz E.B M s.p) M.w s.t us s.l[j] ∧ ∀ i u, us[i]? = some u → M.w.cell? (b.add (j * s.t.sz + i)) = some u) := by
  unfold slOf at h
  split at h
  · rename_i p e t l
    simp only [Option.some.injEq] at h
    subst h
    cases hv with
    | ro hv =>
      simp only [RdC, List.cons.injEq, and_true, Value.slice.injEq] at hv
      obtain ⟨a', c', ⟨rfl, rfl, rfl⟩, ⟨h1, h2⟩, h3⟩ := hv
      refine ⟨_, _, rfl, h2, h1, fun hne => ?_⟩
      obtain ⟨b, rfl, _, h4⟩ := h3 hne
      exact ⟨b, rfl, h4⟩
  · rename_i o'
    split at h
    · rename_i q p e t l hob
      simp only [Option.some.injEq] at h
      subst h
      cases hv with
      | row hv =>
        obtain ⟨xs, h2, h3, _, h4⟩ := hS.obs o' _ hob
        rcases h2.2 with ⟨hn0, h00⟩ | ⟨g, cap, cur, he, hb, hh, hnc, hcm, hcs, htake⟩
        · rw [hv] at hn0
          simp only [Value.slice.injEq] at hn0
          obtain ⟨rfl, rfl, rfl⟩ := hn0
          have hl : l = [] := List.eq_nil_of_length_eq_zero h00
          subst hl
          exact ⟨none, 0, rfl, Nat.le_refl _, Nat.zero_le _, fun h => absurd rfl h⟩
        · have hv' := hv
          rw [hv] at he
          simp only [Value.slice.injEq] at he
          obtain ⟨rfl, rfl, rfl⟩ := he
          refine ⟨_, _, rfl, hnc, Nat.le_trans hnc hcm, fun _ => ⟨_, rfl, fun j hj => ?_⟩⟩
          obtain ⟨us, h5, h6⟩ := h4.at j hj
          refine ⟨us, h5, fun i u hi => ?_⟩
          rw [add0, Nat.zero_add]
          exact own_cells h2 hv' _ _ (h6 i u hi)
    · cases h
  · cases h

theorem run_len_slice' {T e : TypeId} (hu : P.underlying T = some (.slice e)) (ty : TypeId) (ad : Option Addr) (n c : Nat) (w : World) : (Builtin.len_ #[T] ty #[.slice ad n c]).run P w = .ok (.int .i64 n) w := by
  simp [Builtin.len_, run_underlying hu, goInt]


theorem g_len (hT : TabOk P tab) (hS : SRm E st a M) {T : TypeId} {x : Operand} {c : AV} {n : Int} {rd : List Nat} (ho : o.op = .call { callee := .builtin .len, args := #[x], argTypes := #[T] }) (hx : evalO st.sl' x = some c)
    (hl : lenAV tab st.ob' T c = some (n, rd)) : Goes P E a M o { val := .int .i64 n, rd := rd } := by
  have hv := hS.eval hx
  generalize hvx : a.eval x = vx at hv
  have key : (Builtin.len_ #[T] o.type #[vx]).run P M.w = .ok (.int .i64 n) M.w → Goes P E a M o { val := .int .i64 n, rd := rd } := fun hr => by
    refine goes_rd hS (v := .int .i64 n) ?_ (.int _ _)
    simp [execOp, ho, resolve, invoke, builtin, hvx, hr]
  apply key
  unfold lenAV at hl
  split at hl
  · rename_i hs
    obtain ⟨d, hu, hd⟩ := sh_spec hT hs
    have hu' : P.underlying T = some .string := by cases d <;> simp [shOf] at hd; exact hu
    split at hl
    · simp only [Option.some.injEq, Prod.mk.injEq] at hl
      obtain ⟨rfl, rfl⟩ := hl
      cases hv
      simp [Builtin.len_, run_underlying hu', goInt]
      rfl
    · cases hl
  · rename_i e hs
    obtain ⟨d, hu, hd⟩ := sh_spec hT hs
    have hu' : P.underlying T = some (.slice e) := by
      cases d <;> simp [shOf] at hd
      subst hd; exact hu
    split at hl
    · simp only [Option.some.injEq, Prod.mk.injEq] at hl
      obtain ⟨rfl, rfl⟩ := hl
      cases hv
      exact run_len_slice' hu' _ _ _ _ _
    · split at hl
      · rename_i s hsl
        simp only [Option.some.injEq, Prod.mk.injEq] at hl
        obtain ⟨rfl, rfl⟩ := hl
        obtain ⟨ad, c', rfl, _⟩ := sl_spec hS hsl hv
        exact run_len_slice' hu' _ _ _ _ _
      · cases hl
  · cases hl

/-! ### Cuts -/
def optOk : Option Int → Option Value → Prop
  | none, none => True
  | some n, some v => v = .int .i64 n
  | _, _ => False
theorem optInt_spec (hS : SRm E st a M) {x : Option Operand} {n : Option Int} (h : optInt st.sl' x = some n) : optOk n (x.map a.eval) := by
  unfold optInt at h
  split at h
  · simp only [Option.some.injEq] at h; subst h; trivial
  · split at h
    · rename_i he
      simp only [Option.some.injEq] at h; subst h
      exact int_of (hS.eval he)
    · cases h

/-- The bounds of a cut, as natural numbers. -/
def loN : Option Int → Nat
  | none => 0
  | some n => n.toNat
def hiN (len : Nat) : Option Int → Nat
  | none => len
  | some n => n.toNat
theorem cutL_eq {α : Type} (l : List α) (lo hi : Option Int) (h : (cutL l lo hi).2) : (cutL l lo hi).1 = (l.take (hiN l.length hi)).drop (loN lo) ∧ loN lo ≤ hiN l.length hi ∧ hiN l.length hi ≤ l.length := by
  cases lo <;> cases hi <;> simp only [cutL, loN, hiN] at h ⊢
  · simp
  · exact ⟨by simp, by omega, by omega⟩
  · exact ⟨by simp, by omega, by omega⟩
  · exact ⟨trivial, by omega, by omega⟩

theorem run_bounds {len cap : Nat} {isSlice : Bool} {lo hi : Option Int} {vlo vhi : Option Value} (h1 : optOk lo vlo) (h2 : optOk hi vhi) (hle : len ≤ cap) {α : Type} (l : List α) (hl : l.length = len) (h : (cutL l lo hi).2) {w : World} :
    (Instr.sliceBounds isSlice len cap vlo vhi none).run P w = .ok (loN lo, hiN len hi, cap) w := by
  have e := fun (i : Int) (y : Nat) (code : BoundsCode) (g0 : 0 ≤ i) (g1 : i ≤ y) => run_sliceBound (P := P) w .i64 i y code g0 g1
  cases lo <;> cases vlo <;> simp only [optOk] at h1 <;> cases hi <;> cases vhi <;> simp only [optOk] at h2 <;> simp only [cutL, hl] at h
  · simp [Instr.sliceBounds, loN, hiN]
  · subst h2
    rename_i n
    simp [Instr.sliceBounds, loN, hiN, e n cap _ h.1 (by omega)]
  · subst h1
    rename_i n
    simp [Instr.sliceBounds, loN, hiN, e n len _ h.1 h.2]
  · subst h1 h2
    rename_i n m
    simp [Instr.sliceBounds, loN, hiN, e m cap _ (by omega) (by omega), e n m.toNat _ h.1 (by omega)]

end
end Go.V

/- The by-value machine, part 9: cuts, conversions. -/
namespace Go.V
open Go

section
variable {P : Program} {tab : Tab} {E : Env} {st : VS} {a : Act} {M : Mem} {o : Oper} {id : Nat}

theorem RdL.take {A : Nat → Prop} {w : World} {t : Ty} : ∀ {xs : List Value} {l : List t.T} (k : Nat), RdL A w t xs l → RdL A w t (xs.take (k * t.sz)) (l.take k)
  | _, _, 0, _ => by simp [RdL]
  | _, [], k + 1, h => by simp only [RdL] at h; subst h; simp [RdL]
  | _, x :: l, k + 1, h => by
    obtain ⟨us, rest, rfl, h1, h2⟩ := h
    have hl := h1.len
    refine ⟨us, rest.take (k * t.sz), ?_, h1, RdL.take k h2⟩
    rw [show (k + 1) * t.sz = us.length + k * t.sz by rw [Nat.add_mul]; omega, List.take_append, List.take_of_length_le (by omega)]
    congr 2; omega

/-- An object under a new number, with a new value. -/
def Mem.name (M : Mem) (o' id : Nat) (v : Value) : Mem := ⟨fun b => if M.own b = some o' then some id else M.own b, fun x => if x = id then v else M.ρ x, M.w⟩
theorem Mem.name_stays (o' id : Nat) (v : Value) : Stays (fun x => x = o') M (M.name o' id v) := by
  refine ⟨Nat.le_refl _, fun b _ hn => ⟨by simp [Mem.name, hn], rfl⟩, fun b x hx hs => ⟨?_, rfl⟩, rfl, rfl, rfl⟩
  simp only [Mem.name, hx]
  rw [if_neg (by simpa using hs)]
theorem Mem.name_ρ (o' id : Nat) (v : Value) : ∀ x, x ∉ [id] → (M.name o' id v).ρ x = M.ρ x := by
  intro x hx
  simp only [List.mem_singleton] at hx
  simp [Mem.name, hx]
theorem Mem.name_ok (hS : SRm E st a M) {o' id : Nat} {v : Value} : ∀ b x, (M.name o' id v).own b = some x → b < (M.name o' id v).w.heap.size ∧ (E.w0.heap.size ≤ b ∨ E.old b) := by
  intro b x h
  simp only [Mem.name] at h ⊢
  split at h
  · rename_i ho; exact ⟨hS.fr.bound b _ ho, hS.fr.inO b _ ho⟩
  · exact ⟨hS.fr.bound b _ h, hS.fr.inO b _ h⟩
theorem Mem.name_in (hS : SRm E st a M) {o' id : Nat} {v : Value} {ob ob' : Ob} (hob : st.ob' o' = some ob) {rd : List Nat} {c : AV} {pr : Prop} : ∀ b x, (M.name o' id v).own b = some x →
    x ∈ (({ val := c, del := [o'], new := [id], put := [(id, ob')], rd := rd, obl := pr } : Eff).put).map (·.1) ∨ (M.own b = some x ∧ x ∉ ({ val := c, del := [o'], new := [id], put := [(id, ob')], rd := rd, obl := pr } : Eff).del) := by
  intro b x h
  simp only [Mem.name] at h
  split at h
  · simp only [Option.some.injEq] at h; subst h; exact .inl (by simp)
  · rename_i hne
    refine .inr ⟨h, ?_⟩
    simp only [List.mem_singleton]
    rintro rfl
    exact hne h
theorem Mem.name_new (hS : SRm E st a M) (hid : st.ob' id = none) {o' : Nat} {v : Value} {b : Nat} (h : (M.name o' id v).own b = some id) : M.own b = some o' := by
  simp only [Mem.name] at h
  split at h
  · assumption
  · exact absurd h (hS.fresh hid b)
theorem Fz.name {B : Rg} {p : Bool} {o' id : Nat} {v : Value} {b : Nat} (h : Fz B M p b) : Fz B (M.name o' id v) p b := ⟨by simp [Mem.name, h.1], h.2⟩

/-- A cut of what is read. -/
theorem ro_cut {A : Nat → Prop} {w : World} {e : TypeId} {t : Ty} {l : List t.T} {ad : Option Addr} {n c lo hi : Nat} (h : RdC A w (.slice e t) [.slice ad n c] l) (h1 : lo ≤ hi) (h2 : hi ≤ l.length) :
    RdC A w (.slice e t) [sliced ad lo hi c t.sz] ((l.take hi).drop lo) := by
  simp only [RdC, List.cons.injEq, and_true, Value.slice.injEq] at h ⊢
  obtain ⟨a', c', ⟨rfl, rfl, rfl⟩, ⟨h3, h4⟩, h5⟩ := h
  have hlen : ((l.take hi).drop lo).length = hi - lo := by simp; omega
  refine ⟨if c = lo then ad else ad.map (·.add (lo * t.sz)), c - lo, by rw [hlen]; rfl, ⟨by omega, by omega⟩, fun hne => ?_⟩
  have hlt : lo < hi := by
    rcases Nat.lt_or_ge lo hi with h | h
    · exact h
    · exact absurd (List.eq_nil_of_length_eq_zero (by omega)) hne
  obtain ⟨b, rfl, hA, h6⟩ := h5 (by intro h; subst h; simp at h2; omega)
  rw [if_neg (by omega)]
  refine ⟨b.add (lo * t.sz), rfl, by rw [add_block]; exact hA, fun j hj => ?_⟩
  obtain ⟨us, h7, h8⟩ := h6 (lo + j) (by omega)
  refine ⟨us, ?_, fun i u hi' => ?_⟩
  · have : ((l.take hi).drop lo)[j] = l[lo + j] := by simp
    rw [this]; exact h7
  · rw [add_add, ← Nat.add_assoc, ← Nat.add_mul]; exact h8 i u hi'

theorem run_sliceOp (hT : TabOk P tab) {T e : TypeId} {te : TE} (hu : P.underlying T = some (.slice e)) (hte : tab.te.lookup e = some te) {ad : Option Addr} {len cap : Nat} {lo hi : Option Int} {vlo vhi : Option Value}
    (h1 : optOk lo vlo) (h2 : optOk hi vhi) (hle : len ≤ cap) {α : Type} (l : List α) (hl : l.length = len) (h : (cutL l lo hi).2) {w : World} :
    (Instr.sliceAt T (.slice ad len cap) vlo vhi none).run P w = .ok (sliced ad (loN lo) (hiN len hi) cap te.size) w := by
  obtain ⟨h3, h4⟩ := elem_eq hu
  rw [run_sliceAt_slice w T _ _ _ _ h3, run_slice_any w T ad len cap h3, run_bounds h1 h2 hle l hl h]
  simp only [Result.andThen_ok, h4, run_size hT hte]

theorem g_sliceStr (hT : TabOk P tab) (hS : SRm E st a M) {T : TypeId} {x : Operand} {lo hi : Option Operand} {s : List UInt8} {l h : Option Int} (ho : o.op = .slice T x lo hi none) (hx : evalO st.sl' x = some (.str s))
    (hlo : optInt st.sl' lo = some l) (hhi : optInt st.sl' hi = some h) (hs : shT tab T = some .str) (hp : (cutL s l h).2) : Goes P E a M o { val := .str (cutL s l h).1, obl := (cutL s l h).2 } := by
  have hv := hS.eval hx
  have h1 := optInt_spec hS hlo
  have h2 := optInt_spec hS hhi
  obtain ⟨d, hu, hd⟩ := sh_spec hT hs
  have hu' : P.underlying T = some .string := by cases d <;> simp [shOf] at hd; exact hu
  generalize hvx : a.eval x = vx at hv
  cases hv
  obtain ⟨e1, e3, e4⟩ := cutL_eq s l h hp
  have hb := run_bounds (P := P) (isSlice := false) (w := M.w) h1 h2 (Nat.le_refl s.length) s rfl hp
  refine goes_rd hS (v := .string ⟨⟨(s.take (hiN s.length h)).drop (loN l)⟩⟩) ?_ (by rw [e1]; exact .str _)
  have hr : (Instr.sliceAt T (.string ⟨⟨s⟩⟩) (lo.map a.eval) (hi.map a.eval) none).run P M.w = .ok (.string ⟨⟨(s.take (hiN s.length h)).drop (loN l)⟩⟩) M.w := by
    rw [run_sliceAt_string _ _ _ _ _ _ hu']
    have hsz : (⟨⟨s⟩⟩ : ByteArray).size = s.length := rfl
    simp only [Instr.slice, Sem.run_bind, run_underlying hu', Result.andThen_ok, hsz, hb, Option.isSome_none, Bool.false_eq_true, if_false, Sem.run_pure]
    congr 2
    apply ByteArray.ext
    simp [ByteArray.data_extract, List.drop_take]
  simp [execOp, ho, hvx, hr]

theorem g_slice (hT : TabOk P tab) (hS : SRm E st a M) {e : Eff} (hid : id ∈ e.new → st.ob' id = none) {T e' : TypeId} {t' : Ty} {x : Operand} {lo hi : Option Operand} {c : AV} {l h : Option Int} (ho : o.op = .slice T x lo hi none) (hx : evalO st.sl' x = some c)
    (hlo : optInt st.sl' lo = some l) (hhi : optInt st.sl' hi = some h) (hel : elT tab T = some (e', t')) (hc : ∀ s, c ≠ .str s) (hsz : ∀ s, slOf st.ob' c = some s → s.t.sz = t'.sz) (he : sliceAV st.ob' id c l h = some e) (hp : e.obl) : Goes P E a M o e := by
  have hv := hS.eval hx
  have h1 := optInt_spec hS hlo
  have h2 := optInt_spec hS hhi
  obtain ⟨hu, te, hte, _, hsz', _⟩ := el_spec hT hel
  generalize hvx : a.eval x = vx at hv
  have run1 : ∀ {ad : Option Addr} {len cap : Nat} {α : Type} (L : List α), vx = .slice ad len cap → len ≤ cap → L.length = len → (cutL L l h).2 →
      (execOp a.eval o).run P M.w = .ok (.value (sliced ad (loN l) (hiN len h) cap te.size)) M.w := by
    intro ad len cap α L hvv hle hL hcut
    have hr := run_sliceOp hT hu hte (ad := ad) h1 h2 hle L hL hcut (w := M.w)
    subst hvv
    simp [execOp, ho, hvx, hr]
  unfold sliceAV at he
  split at he
  · rename_i s; exact absurd rfl (hc s)
  · rename_i p e2 t l2
    simp only [Option.some.injEq] at he
    subst he
    simp only at hp
    have hs := hsz ⟨p, e2, t, l2, []⟩ rfl
    simp only at hs
    cases hv with
    | ro hv =>
      have hv' := hv
      simp only [RdC, List.cons.injEq, and_true, Value.slice.injEq] at hv'
      obtain ⟨a', c', ⟨rfl, rfl, rfl⟩, ⟨h3, h4⟩, _⟩ := hv'
      obtain ⟨e1, e3, e4⟩ := cutL_eq l2 l h hp
      have hr := run1 l2 rfl h4 rfl hp
      refine goes_rd hS hr ?_
      rw [e1, hsz', ← hs]
      exact .ro (ro_cut hv e3 e4)
  · rename_i o'
    split at he
    · rename_i q p e2 t l2 hob
      have hs := hsz ⟨p, e2, t, l2, [o']⟩ (by simp [slOf, hob])
      simp only at hs
      have hor := hS.obs o' _ hob
      have hin := hS.inO'
      obtain ⟨xs, g1, g2, hqq, g3⟩ := hor
      have hvr := row_slice hv
      cases hv with
      | row hv =>
      rename_i n1 c1 ad1
      split at he
      · simp only [Option.some.injEq] at he
        subst he
        simp only at hp
        obtain ⟨e1, e3, e4⟩ := cutL_eq l2 none h hp
        have hL := g3.len
        rcases g1.2 with ⟨hn0, h00⟩ | ⟨g, cap, cur, he, hb, hh, hnc, hcm, hcs, htake⟩
        · have hl2 : l2 = [] := List.eq_nil_of_length_eq_zero h00
          subst hl2
          rw [← hvr] at hn0
          simp only [Value.slice.injEq] at hn0
          obtain ⟨rfl, rfl, rfl⟩ := hn0
          have hh0 : hiN 0 h = 0 := by simp at e4; exact e4
          have hr := run1 ([] : List t.T) rfl (Nat.le_refl _) rfl hp
          have hsl : sliced none 0 (hiN 0 h) 0 te.size = .slice none 0 0 := by simp [sliced, hh0]
          simp only [loN] at hr
          rw [hsl] at hr
          refine goes_value (M' := M.name o' id (.slice none 0 0)) hr ⟨(Mem.name_stays o' id _).weak fun x hx => by simp [hx], Mem.name_ρ o' id _, .row (by simp [Mem.name]), ?_, Mem.name_ok hS, Mem.name_in hS hob⟩
          intro x ob hm
          simp only [List.mem_singleton, Prod.mk.injEq] at hm
          obtain ⟨rfl, rfl⟩ := hm
          rw [e1]
          refine ⟨[], ⟨by simp, .inl ⟨by simp [Mem.name], by simp⟩⟩, fun g hg => by simp [Mem.name, Value.ownBlock] at hg, fun h b hb => hqq h b (Mem.name_new hS (hid (by simp)) hb), by simp [RdL]⟩
        · have he' := he
          rw [← hvr] at he'
          simp only [Value.slice.injEq] at he'
          obtain ⟨rfl, rfl, hcc⟩ := he'
          subst hcc
          have hr := run1 l2 rfl hnc rfl hp
          have hsl : sliced (some ⟨g, 0, none⟩) 0 (hiN l2.length h) c1 te.size = .slice (some ⟨g, 0, none⟩) (hiN l2.length h) c1 := by
            simp only [sliced, Option.map_some, Nat.zero_mul, add0, Nat.zero_add, Nat.sub_zero]
            split <;> rfl
          simp only [loN] at hr
          rw [hsl] at hr
          have hog := g2 g (by rw [he]; rfl)
          refine goes_value (M' := M.name o' id (.slice (some ⟨g, 0, none⟩) (hiN l2.length h) c1)) hr ⟨(Mem.name_stays o' id _).weak fun x hx => by simp [hx], Mem.name_ρ o' id _, .row (by simp [Mem.name]), ?_, Mem.name_ok hS, Mem.name_in hS hob⟩
          intro x ob hm
          simp only [List.mem_singleton, Prod.mk.injEq] at hm
          obtain ⟨rfl, rfl⟩ := hm
          rw [e1]
          simp only [loN, List.drop_zero]
          refine ⟨xs.take (hiN l2.length h * t.sz), ⟨?_, .inr ⟨g, c1, cur, ?_, Nat.zero_le _, hh, ?_, hcm, hcs, ?_⟩⟩, fun g' hg' => ?_, fun h b hb => hqq h b (Mem.name_new hS (hid (by simp)) hb), (g3.take _).mono fun b hb _ => ⟨hb.name, rfl⟩⟩
          · simp only [List.length_take, hL]
            rw [Nat.min_eq_left (Nat.mul_le_mul_right _ e4), Nat.min_eq_left e4]
          · simp [Mem.name, Nat.min_eq_left e4]
          · simp only [List.length_take]; omega
          · rw [← htake, List.take_take, List.length_take, Nat.min_eq_left e4, Nat.min_eq_left (Nat.mul_le_mul_right _ e4)]
          · simp only [Mem.name, if_true, Value.ownBlock, Option.some.injEq] at hg'
            subst hg'
            simp [Mem.name, hog]
      · simp only [Option.some.injEq] at he
        subst he
        simp only at hp
        rename_i lo1
        obtain ⟨e1, e3, e4⟩ := cutL_eq l2 (some lo1) h hp
        have hrr := row_reads (A := Fz E.B (M.freeze [o']) (p || q)) ⟨xs, g1, g2, hqq, g3⟩ (fun b hb => hb.freeze.or) (fun b hg hb => ⟨Mem.freeze_in hb (by simp), by
          by_cases hq : q = true
          · exact (hin b o' hb).imp (fun h => h) fun h => ⟨by simp [hq], h⟩
          · exact .inl (hqq (by simpa using hq) b hb)⟩)
        rw [← hvr] at hrr
        have hrr' := hrr
        simp only [RdC, List.cons.injEq, and_true, Value.slice.injEq] at hrr'
        obtain ⟨a', c', ⟨rfl, rfl, rfl⟩, ⟨h3, h4⟩, _⟩ := hrr'
        have hr := run1 l2 rfl h4 rfl hp
        refine goes_value (M' := M.freeze [o']) hr ⟨(Mem.freeze_stays [o']).weak fun x hx => by simpa using hx, fun _ _ => rfl, ?_, (fun _ _ hm => by cases hm), fun b x hx => ?_, fun b x hx => .inr (by have := Mem.freeze_own' hx; simpa using this)⟩
        · rw [e1, hsz', ← hs]
          exact .ro (ro_cut hrr e3 e4)
        · have hx' := Mem.freeze_own hx
          exact ⟨hS.fr.bound b _ hx', hS.fr.inO b _ hx'⟩
    · cases he
  · cases he

end
end Go.V

/- The by-value machine, part 10: conversions, new rows, structs. -/
namespace Go.V
open Go

section
variable {P : Program} {tab : Tab} {E : Env} {st : VS} {a : Act} {M : Mem} {o : Oper} {id : Nat}

theorem g_min (hS : SRm E st a M) {T U : TypeId} {x y : Operand} {m n : Int} (ho : o.op = .call { callee := .builtin .min, args := #[x, y], argTypes := #[T, U] })
    (hx : evalO st.sl' x = some (.int .i64 m)) (hy : evalO st.sl' y = some (.int .i64 n)) : Goes P E a M o { val := .int .i64 (if n < m then n else m) } := by
  have h1 := int_of (hS.eval hx)
  have h2 := int_of (hS.eval hy)
  refine goes_rd hS (rd := []) (p := True) (v := .int .i64 (if n < m then n else m)) ?_ (.int _ _)
  have hr := run_min_int2 (P := P) M.w #[T, U] o.type .i64 .i64 m n
  simp [execOp, ho, resolve, invoke, builtin, h1, h2, hr]

theorem evalAll_spec (hS : SRm E st a M) : ∀ {xs : List Operand} {cs : List AV}, evalAll st.sl' xs = some cs → VRs E.B M cs (xs.map a.eval)
  | [], cs, h => by simp only [evalAll, Option.some.injEq] at h; subst h; exact .nil
  | x :: xs, cs, h => by
    simp only [evalAll] at h
    split at h
    · rename_i v l h1 h2
      simp only [Option.some.injEq] at h
      subst h
      exact .cons (hS.eval h1) (evalAll_spec hS h2)
    · cases h

theorem g_makeFunc (hS : SRm E st a M) {f : FuncId} {caps : Array Operand} {cs : List AV} (ho : o.op = .makeFunc (.func f) #[] caps) (h : evalAll st.sl' caps.toList = some cs) : Goes P E a M o { val := .clo f cs } := by
  have h1 := evalAll_spec hS h
  refine goes_rd hS (rd := []) (p := True) (v := .func (.func f) #[] (caps.toList.map a.eval).toArray) ?_ (.clo f h1)
  simp [execOp, ho, Instr.makeFunc]
  apply Array.ext'
  simp

/-! ### Conversions -/
theorem sh_int (hT : TabOk P tab) {T : TypeId} {k : IntKind} (h : shT tab T = some (.int k)) : P.underlying T = some (.int k) := by
  obtain ⟨d, hu, hd⟩ := sh_spec hT h
  cases d <;> simp [shOf] at hd; subst hd; exact hu
theorem sh_str (hT : TabOk P tab) {T : TypeId} (h : shT tab T = some .str) : P.underlying T = some .string := by
  obtain ⟨d, hu, hd⟩ := sh_spec hT h
  cases d <;> simp [shOf] at hd; exact hu
theorem sh_slice (hT : TabOk P tab) {T e : TypeId} (h : shT tab T = some (.slice e)) : P.underlying T = some (.slice e) := by
  obtain ⟨d, hu, hd⟩ := sh_spec hT h
  cases d <;> simp [shOf] at hd; subst hd; exact hu
theorem bytes_spec (hT : TabOk P tab) {T : TypeId} (h : bytesT tab T = true) : ∃ e, P.underlying T = some (.slice e) ∧ P.underlying e = some (.int .u8) := by
  unfold bytesT at h
  split at h
  · rename_i e hel
    split at h
    · rename_i hs
      obtain ⟨hu, _⟩ := el_spec hT hel
      exact ⟨e, hu, sh_int hT hs⟩
    · cases h
  · cases h

theorem bytes_cells {A : Nat → Prop} {w : World} {us : List Value} {x : UInt8} (h : RdC A w .byte us x) : us = [.int .u8 (x.toNat : Int)] := by simpa only [RdC] using h

theorem g_conv (hT : TabOk P tab) (hS : SRm E st a M) {S D : TypeId} {x : Operand} {c : AV} {e : Eff} (ho : o.op = .convert S D x) (hx : evalO st.sl' x = some c) (he : convAV tab st.ob' S D c = some e) (hp : e.obl) : Goes P E a M o e := by
  have hv := hS.eval hx
  generalize hvx : a.eval x = vx at hv
  have step : ∀ {v : Value} {c' : AV} {rd : List Nat}, (convert S D vx).run P M.w = .ok v M.w → VR E.B M c' v → Goes P E a M o { val := c', rd := rd } := by
    intro v c' rd hr hv'
    refine goes_rd hS (v := v) ?_ hv'
    simp [execOp, ho, hvx, hr]
  unfold convAV at he
  split at he
  · rename_i k hs1 hs
    have huS := sh_int hT hs1
    have hu' := sh_int hT hs
    split at he
    · rename_i k' n hi
      simp only [Option.some.injEq] at he
      subst he
      obtain ⟨rfl, _⟩ := iv_of hv hi
      exact step (v := .int k (k.wrap n)) (by simp [convert, run_underlying huS, run_underlying hu', Conv.intToInt]) (VR.mkInt fun e => by subst e; exact wrap_u8 _)
    · cases he
  · rename_i hs1 hs
    have hu' := sh_str hT hs
    split at he
    · rename_i hb
      obtain ⟨e', huS, hue⟩ := bytes_spec hT hb
      split at he
      · simp only [Option.some.injEq] at he
        subst he
        cases hv
        exact step (run_convert_bytes_nil M.w S e' huS hue 0 0 D hu') (.str [])
      · split at he
        · rename_i p2 e2 l rd hsl
          simp only [Option.some.injEq] at he
          subst he
          obtain ⟨ad, c', rfl, h1, h2, h3⟩ := sl_spec hS hsl hv
          simp only at h1 h2 h3
          cases l with
          | nil =>
            cases ad with
            | none => exact step (run_convert_bytes_nil M.w S e' huS hue _ _ D hu') (.str [])
            | some b =>
              refine step (v := .string ⟨⟨[]⟩⟩) ?_ (.str [])
              exact run_convert_bytes_back M.w S D e' b c' [] huS hue hu' (fun j hj => by simp at hj)
          | cons y l =>
            obtain ⟨b, rfl, h4⟩ := h3 (by simp)
            refine step (v := .string ⟨⟨y :: l⟩⟩) ?_ (.str _)
            refine run_convert_bytes_back M.w S D e' b c' (y :: l) huS hue hu' (fun j hj => ?_)
            obtain ⟨us, h5, h6⟩ := h4 j hj
            have h7 := bytes_cells h5
            subst h7
            simpa [Ty.sz] using h6 0 _ rfl
        · cases he
    · cases he
  · rename_i e1 hs1 hs
    have huS := sh_str hT hs1
    have hu' := sh_slice hT hs
    split at he
    · rename_i hb
      obtain ⟨e', huD, hue⟩ := bytes_spec hT hb
      rw [hu'] at huD
      simp only [Option.some.injEq, TypeDesc.slice.injEq] at huD
      subst huD
      split at he
      · rename_i s
        simp only [Option.some.injEq] at he
        subst he
        cases hv
        have hr := run_bytes_of_string (P := P) M.w S D e1 ⟨⟨s⟩⟩ huS hu' hue
        generalize hcap : grownCap M.w (⟨⟨s⟩⟩ : ByteArray).size 0 e1 = cap at hr
        have hcap' : s.length ≤ cap := by rw [← hcap]; exact grownCap_ge _ _ _ _
        have hmax : s.length ≤ maxLen := by simp only [LIM] at hp; simp only [maxLen]; omega
        let w' : World := M.w.drew.alloc (.cells (bytesRow ⟨⟨s⟩⟩ cap) e1 ((bytesRow ⟨⟨s⟩⟩ cap).size, (bytesRow ⟨⟨s⟩⟩ cap).size + 1))
        have hsz : w'.heap.size = M.w.heap.size + 1 := by show (M.w.heap.push _).size = _; simp
        have hnew : w'.heap[M.w.heap.size]? = some (.cells (bytesRow ⟨⟨s⟩⟩ cap) e1 ((bytesRow ⟨⟨s⟩⟩ cap).size, (bytesRow ⟨⟨s⟩⟩ cap).size + 1)) := heap_alloc_new M.w.drew _
        have hold : ∀ b, b < M.w.heap.size → w'.heap[b]? = M.w.heap[b]? := fun b hb => heap_alloc_old M.w.drew _ b hb
        refine goes_value (M' := ⟨M.own, M.ρ, w'⟩) (v := .slice (some ⟨M.w.heap.size, 0, none⟩) s.length cap) (by simp [execOp, ho, hvx, hr]; exact ⟨rfl, rfl⟩)
          ⟨⟨by show M.w.heap.size ≤ w'.heap.size; omega, fun b hb hn => ⟨hn, hold b hb⟩, fun b x hx _ => ⟨hx, hold b (hS.fr.bound b x hx)⟩, rfl, rfl, rfl⟩, fun _ _ => rfl, ?_, (fun _ _ hm => by cases hm), fun b x hx => ⟨?_, hS.fr.inO b x hx⟩, fun b x hx => .inr ⟨hx, by simp⟩⟩
        · refine .ro ?_
          simp only [RdC, List.cons.injEq, and_true, Value.slice.injEq]
          refine ⟨_, _, ⟨rfl, trivial, rfl⟩, ⟨hmax, hcap'⟩, fun _ => ⟨_, rfl, ⟨?_, .inl hS.fr.size⟩, fun j hj => ⟨_, rfl, fun i u hi => ?_⟩⟩⟩
          · show M.own M.w.heap.size = none
            cases h : M.own M.w.heap.size with
            | none => rfl
            | some x => have := hS.fr.bound _ _ h; omega
          · have hi0 : i = 0 := by
              have := (List.getElem?_eq_some_iff.1 hi).1
              simpa using this
            subst hi0
            simp only [List.getElem?_cons_zero, Option.some.injEq] at hi
            subst hi
            rw [add0]
            show w'.cell? _ = _
            simp only [World.cell?, hnew]
            simp only [Ty.sz, Nat.mul_one, Nat.zero_add, Nat.add_zero, Option.isSome_none, Bool.false_eq_true, if_false]
            rw [bytesRow, Array.getElem?_append_left (by simpa using hj)]
            simp [hj]
        · show b < w'.heap.size
          have := hS.fr.bound b x hx
          omega
      · cases he
    · cases he
  · cases he

end
end Go.V

/- The by-value machine, part 11: new rows, structs. -/
namespace Go.V
open Go

section
variable {P : Program} {tab : Tab} {E : Env} {st : VS} {a : Act} {M : Mem} {o : Oper} {id : Nat}

theorem alloc_ok' (hS : SRm E st a M) {f : List Nat} {id : Nat} {v : Value} {cs : Array Value} {T : TypeId} :
    ∀ b o, ((M.freeze f).alloc id v cs T).own b = some o → b < ((M.freeze f).alloc id v cs T).w.heap.size ∧ (E.w0.heap.size ≤ b ∨ E.old b) := by
  intro b o h
  refine ⟨Mem.alloc_bound (M := M.freeze f) (fun b x hx => hS.fr.bound b x (Mem.freeze_own hx)) id v cs T b o h, ?_⟩
  simp only [Mem.alloc] at h
  split at h
  · rename_i hb; subst hb; exact .inl hS.fr.size
  · exact hS.fr.inO b o (Mem.freeze_own h)

/-- A new row, made out of what may be frozen by it. -/
theorem done_row (hS : SRm E st a M) (hid : st.ob' id = none) {f : List Nat} {cs : Array Value} {e : TypeId} {t : Ty} {l : List t.T} {p : Bool} {n : Nat} (hn : l.length = n) (hm : n ≤ maxLen) (hsz : cs.size = n * t.sz) (h : RdL (Fz E.B (M.freeze f) p) M.w t cs.toList l) {rd : List Nat} {q : Prop} :
    Done E M ((M.freeze f).alloc id (.slice (some ⟨M.w.heap.size, 0, none⟩) n n) cs e) { val := .row id, del := f, new := [id], put := [(id, .row false (p && !t.flat) e t l)], rd := rd, obl := q } (.slice (some ⟨M.w.heap.size, 0, none⟩) n n) := by
  have hb : ∀ b o, (M.freeze f).own b = some o → b < (M.freeze f).w.heap.size := fun b x hx => hS.fr.bound b x (Mem.freeze_own hx)
  have hs := fun S => Mem.alloc_stays (M := M.freeze f) S hb id (.slice (some ⟨M.w.heap.size, 0, none⟩) n n) cs e
  have hρ := Mem.alloc_ρ (M := M.freeze f) id (.slice (some ⟨M.w.heap.size, 0, none⟩) n n) cs e
  have hr : ((M.freeze f).alloc id (.slice (some ⟨M.w.heap.size, 0, none⟩) n n) cs e).ρ id = .slice (some ⟨M.w.heap.size, 0, none⟩) n n := by simp [Mem.alloc]
  refine ⟨((Mem.freeze_stays f).weak fun x hx => .inl hx).trans (hs _), hρ, .row hr, ?_, alloc_ok' hS, fun b x hx => ?_⟩
  rotate_left
  · simp only [Mem.alloc] at hx
    split at hx
    · simp only [Option.some.injEq] at hx; subst hx; exact .inl (by simp)
    · exact .inr (Mem.freeze_own' hx)
  intro o' ob' hm'
  simp only [List.mem_singleton, Prod.mk.injEq] at hm'
  obtain ⟨rfl, rfl⟩ := hm'
  refine ⟨cs.toList, ?_, fun g hg => ?_, fun _ b hb' => ?_, (h.nrm (M := M.freeze f)).mono (Fz.stays (hs fun _ => False))⟩
  · rw [hr, hn]
    exact World.ownsRow_lit (M.freeze f).w cs n (Nat.zero_le _) hm hsz
  · rw [hr] at hg
    simp only [Value.ownBlock, Option.some.injEq] at hg
    subst hg
    simp [Mem.alloc, Mem.freeze]
  · simp only [Mem.alloc] at hb'
    split at hb'
    · rename_i he; subst he; exact hS.fr.size
    · exact absurd (Mem.freeze_own hb') (hS.fresh hid b)

theorem freeze_nil : M.freeze [] = M := by
  obtain ⟨own, ρ, w⟩ := M
  simp only [Mem.freeze, Mem.mk.injEq, and_true]
  funext b
  cases own b <;> simp

theorem zero_row {A : Nat → Prop} {w : World} (t : Ty) (z : Array Value) (hz : z.toList = zcells t) (n : Nat) : RdL A w t (madeCells z (n * t.sz)).toList (List.replicate n t.dflt) := by
  have hzl : z.size = t.sz := by
    have := (RdC.zero (A := A) (w := w) t).len
    rw [← hz] at this; simpa using this
  refine RdL.of (by simp [size_madeCells]) fun j hj => ⟨zcells t, ?_, fun i u hi => ?_⟩
  · have : (List.replicate n t.dflt)[j] = t.dflt := by simp
    rw [this]; exact RdC.zero t
  · have hi' : i < t.sz := by
      have := (List.getElem?_eq_some_iff.1 hi).1
      have h2 := (RdC.zero (A := A) (w := w) t).len
      omega
    have hjn : j < n := by simpa using hj
    have hlt : j * t.sz + i < n * t.sz := by
      have : (j + 1) * t.sz ≤ n * t.sz := Nat.mul_le_mul_right _ hjn
      rw [Nat.add_mul] at this; omega
    have hmod : (j * t.sz + i) % t.sz = i := by rw [Nat.mul_comm, Nat.mul_add_mod]; exact Nat.mod_eq_of_lt hi'
    rw [← hz] at hi
    have hzi : z[i]? = some u := by simpa using hi
    simp only [madeCells, Array.toList_map, List.getElem?_map, Array.toList_range]
    rw [List.getElem?_range hlt]
    simp only [Option.map_some, hzl, hmod, Option.some.injEq]
    rw [getElem!_def, hzi]

theorem bytes_two (hT : TabOk P tab) {T : TypeId} {te : TE} (h : tab.te.lookup T = some te) : 0 < te.bytes ∧ te.bytes ≤ 512 := by
  have key : ∀ l : List (Nat × TE), l.all (fun x => decide (0 < x.2.bytes ∧ x.2.bytes ≤ 512)) = true → l.lookup T = some te → 0 < te.bytes ∧ te.bytes ≤ 512 := by
    intro l
    induction l with
    | nil => intro _ h; simp at h
    | cons x l ih =>
      obtain ⟨x1, x2⟩ := x
      intro hl h
      simp only [List.all_cons, Bool.and_eq_true, decide_eq_true_eq] at hl
      simp only [List.lookup_cons] at h
      split at h
      · simp only [Option.some.injEq] at h; subst h; exact hl.1
      · exact ih hl.2 h
  exact key _ hT.bytes h
theorem bytes_le (hT : TabOk P tab) {T : TypeId} {te : TE} (h : tab.te.lookup T = some te) : te.bytes ≤ 512 := (bytes_two hT h).2
theorem bytes_pos (hT : TabOk P tab) {T : TypeId} {te : TE} (h : tab.te.lookup T = some te) : 0 < te.bytes := (bytes_two hT h).1

theorem g_make (hT : TabOk P tab) (hS : SRm E st a M) (hid : st.ob' id = none) {T e : TypeId} {t : Ty} {x y : Operand} {n m : Int} (ho : o.op = .makeSlice T x y) (hel : elT tab T = some (e, t)) (hx : evalO st.sl' x = some (.int .i64 n)) (hy : evalO st.sl' y = some (.int .i64 m))
    (hp : n = m ∧ 0 ≤ n ∧ n ≤ (LIM : Int)) :
    Goes P E a M o { val := .row id, new := [id], put := [(id, .row false false e t (List.replicate n.toNat t.dflt))], obl := n = m ∧ 0 ≤ n ∧ n ≤ (LIM : Int) } := by
  have h1 := int_of (hS.eval hx)
  have h2 := int_of (hS.eval hy)
  obtain ⟨rfl, h0, hlim⟩ := hp
  obtain ⟨hu, te, hte, _, hsz, hz⟩ := el_spec hT hel
  have hby := bytes_le hT hte
  obtain ⟨d, i, z, g1, g2, g3, rfl⟩ := teOf_spec (hT.at_ hte)
  simp only at hby hsz hz
  simp only [LIM] at hlim
  have hn : ((n.toNat : Nat) : Int) = n := Int.toNat_of_nonneg h0
  have hmul : i.bytes * n.toNat ≤ 281474976710656 := by
    have : i.bytes * n.toNat ≤ 512 * 274877906944 := Nat.mul_le_mul hby (by omega)
    omega
  have hmul' : (i.bytes : Int) * n ≤ 281474976710656 := by
    have h3 : ((i.bytes * n.toNat : Nat) : Int) ≤ 281474976710656 := by omega
    rwa [Int.natCast_mul, hn] at h3
  have hr := run_make (P := P) M.w T e i z hu g2 g3 .i64 .i64 n n h0 (Int.le_refl _) hmul' (by omega)
  rw [hsz] at hr
  have hd := done_row (id := id) (f := []) (p := false) (rd := []) (q := n = n ∧ 0 ≤ n ∧ n ≤ (LIM : Int)) hS hid (e := e) (n := n.toNat) (l := List.replicate n.toNat t.dflt) (cs := madeCells z.cells (n.toNat * t.sz)) (by simp) (by simp only [maxLen]; omega) (size_madeCells _ _) (zero_row t z.cells hz n.toNat)
  rw [freeze_nil] at hd
  refine goes_value ?_ hd
  simp [execOp, ho, h1, h2, hr, Mem.alloc]

/-! ### Cells that are filled -/
theorem foldl_zip (off : Nat) : ∀ (vs : List Value) (k : Nat) (cs : Array Value), ((vs.zipIdx k).foldl (fun (cs : Array Value) x => cs.setIfInBounds (off + x.2) x.1) cs).toList = setVals cs.toList (off + k) vs
  | [], _, _ => rfl
  | v :: vs, k, cs => by
    simp only [List.zipIdx_cons, List.foldl_cons]
    rw [foldl_zip off vs (k + 1)]
    simp [setVals, Nat.add_assoc]
theorem fill_step (v : Value) (off : Nat) (cs : Array Value) : (v.cells.zipIdx.foldl (fun cs (c, j) => cs.setIfInBounds (off + j) c) cs).toList = setVals cs.toList off v.cells.toList := by
  have := foldl_zip off v.cells.toList 0 cs
  rw [← Array.foldl_toList]
  simpa [Array.toList_zipIdx] using this

theorem evalParts_spec (hS : SRm E st a M) : ∀ {ps : List (Nat × Operand)} {cs : List (Nat × AV)}, evalParts st.sl' ps = some cs → cs.map (·.1) = ps.map (·.1) ∧ VRs E.B M (cs.map (·.2)) (ps.map fun x => a.eval x.2)
  | [], cs, h => by simp only [evalParts, Option.some.injEq] at h; subst h; exact ⟨rfl, .nil⟩
  | (i, x) :: ps, cs, h => by
    simp only [evalParts] at h
    split at h
    · rename_i v l h1 h2
      simp only [Option.some.injEq] at h
      subst h
      obtain ⟨h3, h4⟩ := evalParts_spec hS h2
      exact ⟨by simp [h3], .cons (hS.eval h1) h4⟩
    · cases h

theorem setVals_len : ∀ (vs cs : List Value) (i : Nat), (setVals cs i vs).length = cs.length
  | [], _, _ => rfl
  | v :: vs, cs, i => by simp [setVals, setVals_len vs]

theorem fillAV_spec {B : Rg} {pl : List (Nat × Nat)} {place : Nat → Option (Nat × Nat)} (hpl : ∀ (i : Nat), place i = pl[i]?) : ∀ {ps : List (Nat × AV)} {vs : List (Nat × Value)} {cells r : List AV} {cs : Array Value},
    fillAV pl cells ps = some r → vs.map (·.1) = ps.map (·.1) → VRs B M (ps.map (·.2)) (vs.map (·.2)) → VRs B M cells cs.toList → ∃ cs', Instr.fill place cs vs = some cs' ∧ VRs B M r cs'.toList
  | [], vs, cells, r, cs, h, he, _, hc => by
    simp only [fillAV, Option.some.injEq] at h
    subst h
    cases vs with
    | nil => exact ⟨cs, rfl, hc⟩
    | cons => simp at he
  | (i, c) :: ps, [], cells, r, cs, h, he, _, hc => by simp at he
  | (i, c) :: ps, (i', v) :: vs, cells, r, cs, h, he, hv, hc => by
    simp only [List.map_cons, List.cons.injEq] at he
    obtain ⟨rfl, he⟩ := he
    cases hv with
    | cons hv1 hv2 =>
    simp only [fillAV] at h
    split at h
    · rename_i off size hp
      split at h
      · rename_i hcond
        obtain ⟨h1, h2, h3⟩ := hcond
        have hvc := hv1.cells h3
        have hl1 := hvc.len
        have hl2 := hc.len
        have hsz : v.cells.size = size := by simpa [h1] using hl1.symm
        have hcs : cells.length = cs.size := by simpa using hl2
        have hset := VRs.setCells off hc hvc
        rw [← fill_step] at hset
        obtain ⟨cs', h4, h5⟩ := fillAV_spec hpl h he hv2 hset
        refine ⟨cs', ?_, h5⟩
        simp only [Instr.fill, hpl, hp]
        have hno : ¬ (v.cells.size ≠ size || decide (off + v.cells.size > cs.size)) = true := by simp [hsz]; omega
        rw [if_neg (by simpa using hno)]
        exact h4
      · cases h
    · cases h

theorem places_spec (hT : TabOk P tab) : ∀ {fs : List Field} {pl : List (Nat × Nat)} (w : World), placesOf tab (fs.map fun f => (f.type, f.offset)) = some pl →
    (fs.mapM fun f => Prod.mk f.offset <$> sizeOf f.type).run P w = .ok pl w
  | [], pl, w, h => by simp only [List.map_nil, placesOf, Option.some.injEq] at h; subst h; simp
  | f :: fs, pl, w, h => by
    simp only [List.map_cons, placesOf] at h
    split at h
    · rename_i te l h1 h2
      simp only [Option.some.injEq] at h
      subst h
      have := places_spec hT w h2
      simp [List.mapM_cons, run_size hT h1, this]
    · cases h

theorem g_build (hT : TabOk P tab) (hS : SRm E st a M) {T : TypeId} {te : TE} {fs : List (TypeId × Nat)} {parts : Array (Nat × Operand)} {ps : List (Nat × AV)} {pl : List (Nat × Nat)} {cells : List AV} (ho : o.op = .build T parts)
    (hte : tab.te.lookup T = some te) (hs : shT tab T = some (.struct fs)) (hps : evalParts st.sl' parts.toList = some ps) (hpl : placesOf tab fs = some pl) (hf : fillAV pl (te.zero.map constAV) ps = some cells) :
    Goes P E a M o { val := .agg cells } := by
  obtain ⟨d, hu, hd⟩ := sh_spec hT hs
  cases d <;> simp [shOf] at hd
  rename_i fields
  subst hd
  obtain ⟨d, i, z, h1, h2, h3, rfl⟩ := teOf_spec (hT.at_ hte)
  obtain ⟨h4, h5⟩ := evalParts_spec hS hps
  have hpr := places_spec hT M.w hpl
  obtain ⟨cs', h6, h7⟩ := fillAV_spec (place := fun (x : Nat) => pl[x]?) (fun i => rfl) (cs := z.cells) (vs := parts.toList.map fun x => (x.1, a.eval x.2)) hf (by rw [List.map_map]; exact h4.symm) (by rw [List.map_map]; exact h5) (VRs.const _ _ _)
  refine goes_rd hS (rd := []) (p := True) (v := .agg cs') ?_ (by have := VR.agg h7; simpa using this)
  simp [execOp, ho, Instr.build, zeroValue, typeInfo, h2, h3, run_underlying hu, Array.mapM_eq_mapM_toList, hpr, h6]

end
end Go.V

/- The by-value machine, part 12: slice literals, append. -/
namespace Go.V
open Go

section
variable {P : Program} {tab : Tab} {E : Env} {st : VS} {a : Act} {M : Mem} {o : Oper} {id : Nat}

theorem parse_known {lob : Nat → Option Ob} : ∀ {t : Ty} {c : AV} {r : t.T × Bool × List Nat}, parse lob t c.cells = some r → c.known = true := by
  intro t c r h
  cases c <;> try rfl
  case tup vs =>
    exfalso
    have key : ∀ (t : Ty) (cs : List AV) (r : t.T × Bool × List Nat), parse lob t cs = some r → cs ≠ [AV.tup vs] := by
      intro t
      induction t with
      | pair a b iha ihb =>
        intro cs r h e
        subst e
        simp only [parse] at h
        split at h
        · rename_i h1 h2
          have := a.sz_pos
          exact iha _ _ h1 (by rw [List.take_of_length_le (by show 1 ≤ a.sz; exact this)])
        · cases h
      | _ =>
        intro cs r h e
        subst e
        simp [parse] at h
    exact key t _ r h rfl
  case undef =>
    exfalso
    have key : ∀ (t : Ty) (cs : List AV) (r : t.T × Bool × List Nat), parse lob t cs = some r → cs ≠ [AV.undef] := by
      intro t
      induction t with
      | pair a b iha ihb =>
        intro cs r h e
        subst e
        simp only [parse] at h
        split at h
        · rename_i h1 h2
          have := a.sz_pos
          exact iha _ _ h1 (by rw [List.take_of_length_le (by show 1 ≤ a.sz; exact this)])
        · cases h
      | _ =>
        intro cs r h e
        subst e
        simp [parse] at h
    exact key t _ r h rfl

theorem parts_fill {B : Rg} {lob : Nat → Option Ob} (hO : ∀ o ob, lob o = some ob → OR B M o ob) (hin : ∀ b o, M.own b = some o → B.B ≤ b ∨ B.old b) {t : Ty} : ∀ {ps : List (Nat × AV)} {vs : List (Nat × Value)} {i : Nat} {l : List t.T} {p : Bool} {f : List Nat} {cs : Array Value},
    parseParts lob t i ps = some (l, p, f) → vs.map (·.1) = ps.map (·.1) → VRs B M (ps.map (·.2)) (vs.map (·.2)) → (i + l.length) * t.sz ≤ cs.size →
    ∃ cs', Instr.fill (fun i => some (i * t.sz, t.sz)) cs vs = some cs' ∧ cs'.size = cs.size ∧ cs'.toList.take (i * t.sz) = cs.toList.take (i * t.sz) ∧
      RdL (Fz B (M.freeze f) p) M.w t ((cs'.toList.drop (i * t.sz)).take (l.length * t.sz)) l
  | [], vs, i, l, p, f, cs, h, he, _, _ => by
    simp only [parseParts, Option.some.injEq, Prod.mk.injEq] at h
    obtain ⟨rfl, rfl, rfl⟩ := h
    cases vs with
    | nil => exact ⟨cs, rfl, rfl, rfl, by simp [RdL]⟩
    | cons => simp at he
  | (j, c) :: ps, [], i, l, p, f, cs, h, he, _, _ => by simp at he
  | (j, c) :: ps, (j', v) :: vs, i, l, p, f, cs, h, he, hv, hle => by
    simp only [List.map_cons, List.cons.injEq] at he
    obtain ⟨rfl, he⟩ := he
    cases hv with
    | cons hv1 hv2 =>
    simp only [parseParts] at h
    split at h
    · rename_i hij
      subst hij
      split at h
      · rename_i x1 p1 f1 l2 q1 g1 h1 h2
        simp only [Option.some.injEq, Prod.mk.injEq] at h
        obtain ⟨rfl, rfl, rfl⟩ := h
        have hvc := hv1.cells (parse_known h1)
        have hrd := parse_spec hO hin h1 hvc
        have hlen := hrd.len
        simp only [List.length_cons] at hle
        have e1 : (i + (l2.length + 1)) * t.sz = i * t.sz + t.sz + l2.length * t.sz := by simp [Nat.add_mul]; omega
        have hset := setVals_eq v.cells.toList cs.toList (i * t.sz) (by rw [hlen]; simp; omega)
        have hcs1 : ∀ cs1 : Array Value, cs1.toList = setVals cs.toList (i * t.sz) v.cells.toList → cs1.size = cs.size := fun cs1 h => by
          have := congrArg List.length h
          rw [setVals_len] at this
          simpa using this
        have hst := fill_step v (i * t.sz) cs
        generalize hc1 : (v.cells.zipIdx.foldl (fun cs (x : Value × Nat) => match x with | (c, j) => cs.setIfInBounds (i * t.sz + j) c) cs) = cs1 at hst
        have hz1 := hcs1 cs1 hst
        obtain ⟨cs', h3, h4, h5, h6⟩ := parts_fill hO hin (i := i + 1) (cs := cs1) h2 he hv2 (by rw [hz1, show i + 1 + l2.length = i + (l2.length + 1) by omega]; exact hle)
        have hsz : v.cells.size = t.sz := by simpa using hlen
        refine ⟨cs', ?_, h4.trans hz1, ?_, v.cells.toList, (cs'.toList.drop ((i + 1) * t.sz)).take (l2.length * t.sz), ?_, ?_, ?_⟩
        · simp only [Instr.fill]
          have hno : ¬ (v.cells.size ≠ t.sz || decide (i * t.sz + v.cells.size > cs.size)) = true := by simp [hsz]; omega
          rw [if_neg (by simpa using hno), hc1]
          exact h3
        · have h7 := congrArg (List.take (i * t.sz)) h5
          rw [List.take_take, List.take_take, Nat.min_eq_left (Nat.mul_le_mul_right _ (by omega))] at h7
          rw [h7, hst, hset, List.append_assoc, List.take_append_of_le_length (by simp; omega), List.take_take, Nat.min_self]
        · have h7 : (cs'.toList.drop (i * t.sz)).take t.sz = v.cells.toList := by
            have h8 := congrArg (List.drop (i * t.sz)) h5
            rw [List.drop_take, List.drop_take, show (i + 1) * t.sz - i * t.sz = t.sz by rw [Nat.add_mul]; omega] at h8
            rw [h8, hst, hset, List.append_assoc, List.drop_append, List.drop_eq_nil_of_le (by simp; omega), List.nil_append]
            have : i * t.sz - (List.take (i * t.sz) cs.toList).length = 0 := by simp; omega
            rw [this, List.drop_zero, ← hlen, List.take_left]
          have h9 : (List.drop (i * t.sz) cs'.toList) = v.cells.toList ++ cs'.toList.drop ((i + 1) * t.sz) := by
            conv => lhs; rw [← List.take_append_drop t.sz (List.drop (i * t.sz) cs'.toList)]
            rw [h7, List.drop_drop]
            congr 2
            rw [Nat.add_mul]; omega
          rw [h9, List.length_cons, show (l2.length + 1) * t.sz = v.cells.toList.length + l2.length * t.sz by rw [hlen, Nat.add_mul]; omega, List.take_append, List.take_of_length_le (by omega)]
          congr 2; omega
        · exact hrd.mono fun b hb _ => ⟨(hb.freeze' (g := f1 ++ g1) fun o ho => by simp [ho]).or, rfl⟩
        · exact h6.mono fun b hb _ => ⟨(hb.freeze' (g := f1 ++ g1) fun o ho => by simp [ho]).or', rfl⟩
      · cases h
    · cases h

theorem g_buildSlice (hT : TabOk P tab) (hS : SRm E st a M) (hid : st.ob' id = none) {T e : TypeId} {t : Ty} {n : Nat} {parts : Array (Nat × Operand)} {ps : List (Nat × AV)} {l : List t.T} {p : Bool} {f : List Nat} (ho : o.op = .buildSlice T n parts)
    (hel : elT tab T = some (e, t)) (hps : evalParts st.sl' parts.toList = some ps) (hpp : parseParts st.ob' t 0 ps = some (l, p, f)) (hn : l.length = n) (hle : n * t.sz ≤ 1000) :
    Goes P E a M o { val := .row id, del := f, new := [id], put := [(id, .row false (p && !t.flat) e t l)], rd := f } := by
  obtain ⟨hu, te, hte, _, hsz, hz⟩ := el_spec hT hel
  obtain ⟨d, i, z, g1, g2, g3, rfl⟩ := teOf_spec (hT.at_ hte)
  simp only at hsz hz
  obtain ⟨h4, h5⟩ := evalParts_spec hS hps
  have hpos := t.sz_pos
  let zero : Array Value := if n * t.sz = 0 then #[] else z.cells
  obtain ⟨cs', h6, h7, _, h8⟩ := parts_fill hS.obs' hS.inO' (i := 0) (cs := (Array.range (n * t.sz)).map (zero[· % zero.size]!)) (vs := parts.toList.map fun x => (x.1, a.eval x.2)) hpp (by rw [List.map_map]; exact h4.symm) (by rw [List.map_map]; exact h5) (by simp [hn])
  have h7' : cs'.size = n * t.sz := by simpa using h7
  have h9 : RdL (Fz E.B (M.freeze f) p) M.w t cs'.toList l := by
    simp only [Nat.zero_mul, List.drop_zero] at h8
    rwa [List.take_of_length_le (by simp [h7', hn])] at h8
  have hnm : n ≤ maxLen := by
    have : n * 1 ≤ n * t.sz := Nat.mul_le_mul_left _ hpos
    simp only [maxLen]; omega
  have hd := done_row (id := id) (rd := f) (q := True) hS hid (e := e) hn hnm h7' h9
  refine goes_value ?_ hd
  have hres : ¬ (n * i.size > 2 ^ 24) := by rw [hsz]; omega
  have hrun : (Instr.buildSlice T n (parts.map fun (x : Nat × Operand) => (x.1, a.eval x.2))).run P M.w = .ok (.slice (some ⟨M.w.heap.size, 0, none⟩) n n) (M.w.alloc (.cells cs' e)) := by
    have hpl : (parts.map fun (x : Nat × Operand) => (x.1, a.eval x.2)).toList = parts.toList.map fun x => (x.1, a.eval x.2) := by simp
    by_cases hz0 : n * t.sz = 0
    · have hzero : zero = #[] := by simp [zero, hz0]
      rw [hzero] at h6
      simp only [Instr.buildSlice, Sem.run_bind, run_underlying hu, Result.andThen_ok, sizeOf, typeInfo, run_program, g2, Sem.run_pure, hsz, hz0, hpl]
      rw [hz0] at h6
      have hr0 : Array.range 0 = #[] := rfl
      simp only [hr0, Array.map_empty] at h6
      simp [hr0, h6, newRow]
    · have hzero : zero = z.cells := by simp [zero, hz0]
      rw [hzero] at h6
      have hng : ¬ (16777216 < n * t.sz) := by omega
      simp [Instr.buildSlice, run_underlying hu, sizeOf, typeInfo, zeroValue, g2, g3, hsz, hz0, hng, h6, newRow]
  simp [execOp, ho, hrun, Mem.alloc, Mem.freeze]

end
end Go.V

/- The by-value machine, part 13: append. -/
namespace Go.V
open Go

section
variable {P : Program} {w : World}

theorem ownsRow_base {base : Nat} {e : TypeId} {size : Nat} {v : Value} {n : Nat} {xs : List Value} (h : w.ownsRow base e size v n xs) : w.ownsRow 0 e size v n xs := by
  refine ⟨h.1, ?_⟩
  rcases h.2 with h | ⟨g, cap, cur, h1, _, h2⟩
  · exact .inl h
  · exact .inr ⟨g, cap, cur, h1, Nat.zero_le _, h2⟩

/-- Append to an own row: in its place, or in a new block. -/
theorem append_cases (t ty e : TypeId) (i : TypeInfo) (z : Value) (size bytes : Nat) (ht : P.underlying t = some (.slice e)) (hi : P.info? e = some i) (hz : i.zero = some z)
    (hsize : i.size = size) (hby : i.bytes = bytes) (hzs : z.cells.size = size) (hsz : 0 < size)
    (v : Value) (n : Nat) (xs : List Value) (hown : w.ownsRow 0 e size v n xs)
    (ad : Addr) (m c : Nat) (news : List Value) (hl : news.length = m * size) (hnews : ∀ j u, news[j]? = some u → w.cell? (ad.add j) = some u) (h1 : ∀ u ∈ news, u.oneCell' = true)
    (h63 : n + m ≤ maxLen) (hbytes : (n + m) * bytes ≤ 140737488355328) :
    ∃ v' w', (Builtin.append_ #[t, t] ty #[v, .slice (some ad) m c]).run P w = .ok v' w' ∧ w'.ownsRow 0 e size v' (n + m) (xs ++ news) ∧ w.grownBy w' v.ownBlock ∧
      (∀ g, v'.ownBlock = some g → v.ownBlock = some g ∨ w.heap.size ≤ g) := by
  rcases hown.2 with ⟨rfl, rfl⟩ | ⟨g, cap, cur, rfl, hbg, hg, hnc, hcm, hcs, htake⟩
  · have hown' : w.ownsRow w.heap.size e size (.slice none 0 0) 0 xs := ⟨hown.1, .inl ⟨rfl, rfl⟩⟩
    obtain ⟨v', w', g1, g2, g3, _⟩ := run_append_own (P := P) w w.heap.size t ty e i z size bytes ht hi hz hsize hby hzs hsz _ 0 xs hown' ad m c news hl hnews h1 h63 hbytes (Nat.le_refl _)
    exact ⟨v', w', g1, ownsRow_base g2, g3, fun g hg => .inr (g2.lt g hg).1⟩
  · subst hsize
    subst hby
    have hlen : (xs ++ news).length = (n + m) * i.size := by rw [List.length_append, hown.1, hl, Nat.add_mul]
    by_cases hroom : n + m ≤ cap
    · have hfit : n * i.size + news.length ≤ cur.size := by rw [hl, hcs, ← Nat.add_mul]; exact Nat.mul_le_mul_right _ hroom
      have hr := run_append_room (P := P) w t ty e i ht hi g n cap cur hg ad m c news hl hnews h1 hroom hfit
      refine ⟨_, _, hr, ⟨hlen, .inr ⟨g, cap, _, rfl, hbg, setRow_heap w g cur _ e _ hg, hroom, hcm, ?_, ?_⟩⟩, ⟨rfl, rfl, rfl, by simp, fun k _ hk => setRow_other w g k _ (fun e => hk (by simp [Value.ownBlock, e]))⟩, fun g' hg' => .inl (by simpa [Value.ownBlock] using hg')⟩
      · simp only [List.size_toArray, List.length_append, List.length_take, List.length_drop, Array.length_toList]
        omega
      · rw [htake, ← hlen]
        exact List.take_left
    · have holds : ∀ j u, xs[j]? = some u → w.cell? ((⟨g, 0, none⟩ : Addr).add j) = some u := hown.cells (g := g) rfl
      have hr := run_append_grow (P := P) w t ty e i z ht hi hz ⟨g, 0, none⟩ n cap xs hown.1 holds ad m c news hl hnews (by omega) (by simp only [maxLen] at h63; omega) (growslice_fits (by omega) hbytes)
      have hge := grownCap_ge w (n + m) cap e
      have hcm' : grownCap w (n + m) cap e ≤ maxLen := grownCap_le_maxLen w (n + m) cap e h63
      refine ⟨_, _, hr, ⟨hlen, .inr ⟨w.heap.size, _, _, rfl, Nat.zero_le _, heap_alloc_new w.drew _, hge, hcm', ?_, ?_⟩⟩, ⟨rfl, rfl, rfl, by simp, fun k hk _ => heap_alloc_old w.drew _ k hk⟩, fun g' hg' => .inr (by simp [Value.ownBlock] at hg'; omega)⟩
      · simp only [Array.size_append, List.size_toArray, size_zeroCells, hzs, hown.1, hl, ← Nat.add_mul]
        congr 1
        omega
      · simp only [Array.toList_append, List.append_assoc]
        rw [← List.append_assoc, ← hlen]
        exact List.take_left

/-- .. of the bytes of a text. -/
theorem append_cases_str (t u ty e : TypeId) (i : TypeInfo) (z : Value) (ht : P.underlying t = some (.slice e)) (hu : P.underlying u = some .string) (hi : P.info? e = some i) (hz : i.zero = some z) (hzs : z.cells.size = 1)
    (hsize : i.size = 1) (bytes : Nat) (hby : i.bytes = bytes)
    (v : Value) (n : Nat) (xs : List Value) (hown : w.ownsRow 0 e 1 v n xs) (s : ByteArray)
    (h63 : n + s.size ≤ maxLen) (hbytes : (n + s.size) * bytes ≤ 140737488355328) :
    ∃ v' w', (Builtin.append_ #[t, u] ty #[v, .string s]).run P w = .ok v' w' ∧ w'.ownsRow 0 e 1 v' (n + s.size) (xs ++ Lib.strCells s) ∧ w.grownBy w' v.ownBlock ∧
      (∀ g, v'.ownBlock = some g → v.ownBlock = some g ∨ w.heap.size ≤ g) := by
  subst hby
  have hlen : (xs ++ Lib.strCells s).length = (n + s.size) * 1 := by rw [List.length_append, hown.1, Lib.strCells_length]; omega
  rcases hown.2 with ⟨rfl, rfl⟩ | ⟨g, cap, cur, rfl, hbg, hg, hnc, hcm, hcs, htake⟩
  · have hx : xs = [] := List.eq_nil_of_length_eq_zero (by simpa using hown.1)
    subst hx
    by_cases hm : s.size = 0
    · refine ⟨.slice none 0 0, w, ?_, ⟨by simpa using hlen, .inl ⟨rfl, by omega⟩⟩, ⟨rfl, rfl, rfl, Nat.le_refl _, fun _ _ _ => rfl⟩, fun g hg => by simp [Value.ownBlock] at hg⟩
      have hf := Lib.run_firstCells_string (P := P) w 1 s
      have hsc : (Lib.strCells s) = [] := List.eq_nil_of_length_eq_zero (by rw [Lib.strCells_length]; exact hm)
      rw [hsc] at hf
      simp [Builtin.append_, run_underlying ht, run_underlying hu, sizeOf, typeInfo, hi, hsize, Builtin.lenOf, hm] at hf ⊢
      simp [hf]
    · have hr := run_append_nil_string (P := P) w t u ty e i z ht hu hi hz s (by omega) (by simp only [maxLen] at h63; omega) (by simp only [Nat.zero_add] at hbytes; omega)
      have hge := grownCap_ge w s.size 0 e
      have hcm' : grownCap w s.size 0 e ≤ maxLen := grownCap_le_maxLen w s.size 0 e (by omega)
      have hds : s.data.size = s.size := rfl
      have htl : (s.data.map (fun b => Value.int .u8 (b.toNat : Int))).toList = Lib.strCells s := by simp [Lib.strCells]
      simp only [Nat.zero_add, List.nil_append] at hlen ⊢
      refine ⟨_, _, hr, ⟨hlen, .inr ⟨w.heap.size, _, _, rfl, Nat.zero_le _, heap_alloc_new w.drew _, hge, hcm', ?_, ?_⟩⟩, ⟨rfl, rfl, rfl, by simp, fun k hk _ => heap_alloc_old w.drew _ k hk⟩, fun g' hg' => .inr (by simp [Value.ownBlock] at hg'; omega)⟩
      · simp only [Array.size_append, Array.size_map, size_zeroCells, hzs, hds]
        omega
      · rw [Array.toList_append, htl, ← hlen]
        exact List.take_left
  · have hroomcs : cur.size = cap := by simpa using hcs
    by_cases hroom : n + s.size ≤ cap
    · have hr := Lib.run_append_room_string (P := P) w t u ty e i ht hu hi hsize g n cap cur hg s hroom (by omega)
      refine ⟨_, _, hr, ⟨hlen, .inr ⟨g, cap, _, rfl, hbg, setRow_heap w g cur _ e _ hg, hroom, hcm, ?_, ?_⟩⟩, ⟨rfl, rfl, rfl, by simp, fun k _ hk => setRow_other w g k _ (fun e => hk (by simp [Value.ownBlock, e]))⟩, fun g' hg' => .inl (by simpa [Value.ownBlock] using hg')⟩
      · simp only [List.size_toArray, List.length_append, List.length_take, List.length_drop, Array.length_toList, Lib.strCells_length]
        omega
      · rw [Nat.mul_one] at htake
        rw [htake, ← hlen]
        exact List.take_left
    · have holds : ∀ j u, xs[j]? = some u → w.cell? ((⟨g, 0, none⟩ : Addr).add j) = some u := hown.cells (g := g) rfl
      have hr := Lib.run_append_grow_string (P := P) w t u ty e i z ht hu hi hz ⟨g, 0, none⟩ n cap xs (by rw [hsize]; exact hown.1) holds s (by omega) (by simp only [maxLen] at h63; omega) (growslice_fits (by omega) hbytes)
      have hge := grownCap_ge w (n + s.size) cap e
      have hcm' : grownCap w (n + s.size) cap e ≤ maxLen := grownCap_le_maxLen w (n + s.size) cap e h63
      refine ⟨_, _, hr, ⟨hlen, .inr ⟨w.heap.size, _, _, rfl, Nat.zero_le _, heap_alloc_new w.drew _, hge, hcm', ?_, ?_⟩⟩, ⟨rfl, rfl, rfl, by simp, fun k hk _ => heap_alloc_old w.drew _ k hk⟩, fun g' hg' => .inr (by simp [Value.ownBlock] at hg'; omega)⟩
      · simp only [Array.size_append, List.size_toArray, size_zeroCells, hzs, hown.1, Lib.strCells_length]
        omega
      · simp only [Array.toList_append, List.append_assoc]
        rw [← List.append_assoc, ← hlen]
        exact List.take_left
end

section
variable {P : Program} {tab : Tab} {E : Env} {st : VS} {a : Act} {M : Mem} {o : Oper} {id : Nat}

/-- A row (of the object oo, or of none) goes on as v', under the number id. -/
def Mem.app (M : Mem) (oo : Option Nat) (id : Nat) (v' : Value) (w' : World) : Mem :=
  ⟨fun b => if (M.own b).isSome = true ∧ M.own b = oo ∨ v'.ownBlock = some b then some id else M.own b, fun x => if x = id then v' else M.ρ x, w'⟩

theorem app_done (hS : SRm E st a M) (hid : st.ob' id = none) {oo : Option Nat} {v v' : Value} {w' : World} {x p q : Bool} {e : TypeId} {t : Ty} {l m : List t.T} {xs news : List Value}
    (hv : ∀ g, v.ownBlock = some g → ∃ o', oo = some o' ∧ M.own g = some o') (hq : ∀ o', oo = some o' → x = false → ∀ b, M.own b = some o' → E.B.B ≤ b) (hgr : M.w.grownBy w' v.ownBlock) (hnew : ∀ g, v'.ownBlock = some g → v.ownBlock = some g ∨ M.w.heap.size ≤ g)
    (hown : w'.ownsRow 0 e t.sz v' (l ++ m).length (xs ++ news)) (hl : RdL (Fz E.B M p) M.w t xs l) (hm : RdL (Fz E.B M q) M.w t news m) {rd del : List Nat} {pr : Prop} (hdel : ∀ o', o' ∈ del ↔ oo = some o') :
    Done E M (M.app oo id v' w') { val := .row id, del := del, new := [id], put := [(id, .row x ((p || q) && !t.flat) e t (l ++ m))], rd := rd, obl := pr } v' := by
  have hs : Stays (fun y => y ∈ del) M (M.app oo id v' w') := by
    refine ⟨hgr.size, fun b hb hn => ⟨?_, ?_⟩, fun b y hy hs => ⟨?_, ?_⟩, hgr.os, hgr.tape, hgr.output⟩
    · simp only [Mem.app]
      rw [if_neg]
      · exact hn
      · rintro (⟨h1, _⟩ | h)
        · simp [hn] at h1
        · rcases hnew b h with h | h
          · obtain ⟨o', _, h2⟩ := hv b h
            rw [hn] at h2; cases h2
          · omega
    · refine hgr.block b hb ?_
      intro h
      obtain ⟨o', _, h2⟩ := hv b h.symm
      rw [hn] at h2; cases h2
    · simp only [Mem.app]
      rw [if_neg]
      · exact hy
      · rintro (⟨_, h1⟩ | h)
        · exact hs ((hdel y).2 (by rw [← h1, hy]))
        · rcases hnew b h with h | h
          · obtain ⟨o', h1, h2⟩ := hv b h
            rw [hy] at h2; cases h2
            exact hs ((hdel y).2 h1)
          · have := hS.fr.bound b y hy; omega
    · refine hgr.block b (hS.fr.bound b y hy) ?_
      intro h
      obtain ⟨o', h1, h2⟩ := hv b h.symm
      rw [hy] at h2; cases h2
      exact hs ((hdel y).2 h1)
  have hr : (M.app oo id v' w').ρ id = v' := by simp [Mem.app]
  have hform : ∃ ad n c, v' = .slice ad n c := by
    rcases hown.2 with ⟨rfl, _⟩ | ⟨g, cap, cur, rfl, _⟩
    · exact ⟨_, _, _, rfl⟩
    · exact ⟨_, _, _, rfl⟩
  obtain ⟨ad, n, c, hform⟩ := hform
  refine ⟨hs.weak fun y hy => .inl hy, fun y hy => ?_, ?_, ?_, fun b y hy => ?_, fun b y hy => ?_⟩
  · simp only [List.mem_singleton] at hy
    simp [Mem.app, hy]
  · have := VR.row (B := E.B) (M := M.app oo id v' w') (o := id) (hr.trans hform)
    rw [← hform] at this
    exact this
  · intro o' ob hmm
    simp only [List.mem_singleton, Prod.mk.injEq] at hmm
    obtain ⟨rfl, rfl⟩ := hmm
    refine ⟨xs ++ news, by rw [hr]; exact hown, fun g hg => ?_, fun hx b hb => ?_, ?_⟩
    · rw [hr] at hg
      simp [Mem.app, hg]
    · simp only [Mem.app] at hb
      split at hb
      · rename_i hc
        rcases hc with ⟨h1, h2⟩ | h
        · obtain ⟨z, hz⟩ := Option.isSome_iff_exists.1 h1
          exact hq z (by rw [← h2, hz]) hx b hz
        · rcases hnew b h with h | h
          · obtain ⟨o2, h3, h4⟩ := hv b h
            exact hq o2 h3 hx b h4
          · exact Nat.le_trans hS.fr.size h
      · exact absurd hb (hS.fresh hid b)
    · exact (RdL.append (hl.mono fun b hb _ => ⟨hb.or, rfl⟩) (hm.mono fun b hb _ => ⟨hb.or', rfl⟩)).nrm.mono (Fz.stays hs)
  · simp only [Mem.app] at hy ⊢
    split at hy
    · rename_i hc
      rcases hc with ⟨h1, _⟩ | h
      · obtain ⟨z, hz⟩ := Option.isSome_iff_exists.1 h1
        exact ⟨Nat.lt_of_lt_of_le (hS.fr.bound b z hz) hgr.size, hS.fr.inO b z hz⟩
      · refine ⟨(hown.lt b h).2, ?_⟩
        rcases hnew b h with h | h
        · obtain ⟨o', _, h2⟩ := hv b h
          exact hS.fr.inO b o' h2
        · exact .inl (Nat.le_trans hS.fr.size h)
    · exact ⟨Nat.lt_of_lt_of_le (hS.fr.bound b y hy) hgr.size, hS.fr.inO b y hy⟩
  · simp only [Mem.app] at hy
    split at hy
    · simp only [Option.some.injEq] at hy; subst hy; exact .inl (by simp)
    · rename_i hc
      refine .inr ⟨hy, fun hd => hc (.inl ⟨by simp [hy], ?_⟩)⟩
      rw [hy]; exact ((hdel y).1 hd).symm

end
end Go.V

/- The by-value machine, part 14: append, the operation. -/
namespace Go.V
open Go

section
variable {P : Program} {tab : Tab} {E : Env} {st : VS} {a : Act} {M : Mem} {o : Oper} {id : Nat}

theorem flat_src {A : Nat → Prop} {w : World} {t : Ty} : ∀ {l : List t.T} {b : Addr}, (∀ j (hj : j < l.length), ∃ us, RdC A w t us l[j] ∧ ∀ i u, us[i]? = some u → w.cell? (b.add (j * t.sz + i)) = some u) →
    ∃ news, RdL A w t news l ∧ ∀ j u, news[j]? = some u → w.cell? (b.add j) = some u
  | [], b, _ => ⟨[], by simp [RdL], fun j u h => by simp at h⟩
  | x :: l, b, h => by
    obtain ⟨us, h1, h2⟩ := h 0 (by simp)
    obtain ⟨news, h3, h4⟩ := flat_src (l := l) (b := b.add t.sz) (fun j hj => by
      obtain ⟨vs, h5, h6⟩ := h (j + 1) (by simpa using hj)
      refine ⟨vs, by simpa using h5, fun i u hi => ?_⟩
      rw [add_add]
      have := h6 i u hi
      rwa [show (j + 1) * t.sz + i = t.sz + (j * t.sz + i) by rw [Nat.add_mul]; omega] at this)
    have hl := h1.len
    refine ⟨us ++ news, ⟨us, news, rfl, by simpa using h1, h3⟩, fun j u hj => ?_⟩
    rw [List.getElem?_append] at hj
    split at hj
    · simpa using h2 j u hj
    · have := h4 _ u hj
      rw [add_add] at this
      rwa [show t.sz + (j - us.length) = j by omega] at this

theorem run_append_none (t ty e : TypeId) (i : TypeInfo) (size : Nat) (ht : P.underlying t = some (.slice e)) (hi : P.info? e = some i) {w : World}
    (v : Value) (n c : Nat) (xs : List Value) (hown : w.ownsRow 0 e size v n xs) : (Builtin.append_ #[t, t] ty #[v, .slice none 0 c]).run P w = .ok v w := by
  rcases hown.2 with ⟨rfl, rfl⟩ | ⟨g, cap, cur, rfl, _, _, hnc, _⟩
  · simp [Builtin.append_, run_underlying ht, sizeOf, typeInfo, hi, Builtin.lenOf, Builtin.firstCells]
  · simp [Builtin.append_, run_underlying ht, sizeOf, typeInfo, hi, Builtin.lenOf, Builtin.firstCells, hnc, storeCells]

theorem strCells_read {A : Nat → Prop} {w : World} : ∀ s : List UInt8, RdL A w .byte (Lib.strCells ⟨⟨s⟩⟩) s
  | [] => by simp [RdL, Lib.strCells]
  | x :: s => by
    have := strCells_read (A := A) (w := w) s
    exact ⟨[.int .u8 (x.toNat : Int)], Lib.strCells ⟨⟨s⟩⟩, by simp [Lib.strCells], by simp only [RdC], this⟩

/-- Append, whatever is appended. -/
theorem append_run (hT : TabOk P tab) (hS : SRm E st a M) {T U e : TypeId} {t : Ty} {y : AV} {vy v : Value} {q : Bool} {m l : List t.T} {rd : List Nat} {xs : List Value} (ty : TypeId) (hel : elT tab T = some (e, t)) (hv : VR E.B M y vy)
    (hsrc : srcOf tab st.ob' T U t y = some (q, m, rd)) (hown : M.w.ownsRow 0 e t.sz v l.length xs) (hlim : l.length + m.length ≤ LIM) :
    ∃ v' w' news, (Builtin.append_ #[T, U] ty #[v, vy]).run P M.w = .ok v' w' ∧ w'.ownsRow 0 e t.sz v' (l ++ m).length (xs ++ news) ∧ M.w.grownBy w' v.ownBlock ∧
      (∀ g, v'.ownBlock = some g → v.ownBlock = some g ∨ M.w.heap.size ≤ g) ∧ RdL (Fz E.B M q) M.w t news m := by
  obtain ⟨hu, te, hte, hty, hsz, hz⟩ := el_spec hT hel
  have hby := bytes_le hT hte
  obtain ⟨d, i, z, g1, g2, g3, rfl⟩ := teOf_spec (hT.at_ hte)
  simp only at hby hsz hz
  have hpos := t.sz_pos
  have hzs : z.cells.size = t.sz := by
    have := (RdC.zero (A := fun _ => True) (w := M.w) t).len
    rw [← hz] at this; simpa using this
  have h63 : l.length + m.length ≤ maxLen := by simp only [LIM] at hlim; simp only [maxLen]; omega
  have hbytes : (l.length + m.length) * i.bytes ≤ 140737488355328 := by
    simp only [LIM] at hlim
    have : (l.length + m.length) * i.bytes ≤ 274877906944 * 512 := Nat.mul_le_mul hlim hby
    omega
  -- nothing that is there
  have none_ : ∀ c : Nat, T = U → vy = .slice none 0 c → m = [] → ∃ v' w' news, (Builtin.append_ #[T, U] ty #[v, vy]).run P M.w = .ok v' w' ∧ w'.ownsRow 0 e t.sz v' (l ++ m).length (xs ++ news) ∧ M.w.grownBy w' v.ownBlock ∧
      (∀ g, v'.ownBlock = some g → v.ownBlock = some g ∨ M.w.heap.size ≤ g) ∧ RdL (Fz E.B M q) M.w t news m := by
    intro c hTU hvy hm
    subst hTU hvy hm
    exact ⟨v, M.w, [], run_append_none T ty e i t.sz hu g2 v _ c xs hown, by simpa using hown, ⟨rfl, rfl, rfl, Nat.le_refl _, fun _ _ _ => rfl⟩, fun g hg => .inl hg, by simp [RdL]⟩
  -- a slice's elements
  have some_ : ∀ (s : SlV) (m' : List t.T), T = U → slOf st.ob' y = some s → s.t.castL? t s.l = some m' → m = m' → q = s.p → ∃ v' w' news, (Builtin.append_ #[T, U] ty #[v, vy]).run P M.w = .ok v' w' ∧ w'.ownsRow 0 e t.sz v' (l ++ m).length (xs ++ news) ∧ M.w.grownBy w' v.ownBlock ∧
      (∀ g, v'.ownBlock = some g → v.ownBlock = some g ∨ M.w.heap.size ≤ g) ∧ RdL (Fz E.B M q) M.w t news m := by
    intro s m' hTU hs hc hm hq
    subst hTU hm hq
    obtain ⟨p2, e2, t2, l2, rd2⟩ := s
    simp only at hc
    obtain ⟨rfl, rfl⟩ := castL_spec hc
    obtain ⟨ad, c, rfl, h1, h2, h3⟩ := sl_spec hS hs hv
    simp only at h1 h2 h3 ⊢
    cases ad with
    | none =>
      have hl2 : l2 = [] := by
        cases l2 with
        | nil => rfl
        | cons x r => obtain ⟨b, hb, _⟩ := h3 (by simp); cases hb
      exact none_ c rfl (by rw [hl2]; rfl) hl2
    | some b =>
      obtain ⟨news, h4, h5⟩ : ∃ news, RdL (Fz E.B M p2) M.w t2 news l2 ∧ ∀ j u, news[j]? = some u → M.w.cell? (b.add j) = some u := by
        cases l2 with
        | nil => exact ⟨[], by simp [RdL], fun j u h => by simp at h⟩
        | cons x r =>
          obtain ⟨b', hb, h6⟩ := h3 (by simp)
          simp only [Option.some.injEq] at hb
          subst hb
          exact flat_src h6
      obtain ⟨v', w', h6, h7, h8, h9⟩ := append_cases (P := P) T ty e i z t2.sz i.bytes hu g2 g3 hsz rfl hzs hpos v l.length xs hown b l2.length c news h4.len h5 h4.one h63 hbytes
      exact ⟨v', w', news, h6, by rw [List.length_append]; exact h7, h8, h9, h4⟩
  unfold srcOf at hsrc
  split at hsrc
  · split at hsrc
    · rename_i hTU
      simp only [Option.some.injEq, Prod.mk.injEq] at hsrc
      obtain ⟨_, rfl, _⟩ := hsrc
      cases hv
      exact none_ 0 hTU rfl rfl
    · cases hsrc
  · rename_i s
    split at hsrc
    · rename_i hsh
      split at hsrc
      · rename_i l' hc
        simp only [Option.some.injEq, Prod.mk.injEq] at hsrc
        obtain ⟨_, rfl, _⟩ := hsrc
        obtain ⟨rfl, rfl⟩ := castL_spec hc
        cases hv
        have hstr := sh_str hT hsh
        obtain ⟨v', w', h6, h7, h8, h9⟩ := append_cases_str (P := P) T U ty e i z hu hstr g2 g3 hzs hsz i.bytes rfl v l.length xs hown ⟨⟨s⟩⟩ h63 hbytes
        exact ⟨v', w', Lib.strCells ⟨⟨s⟩⟩, h6, by rw [List.length_append]; exact h7, h8, h9, strCells_read s⟩
      · cases hsrc
    · cases hsrc
  · split at hsrc
    · rename_i hTU
      split at hsrc
      · rename_i s hs
        split at hsrc
        · rename_i l' hc
          simp only [Option.some.injEq, Prod.mk.injEq] at hsrc
          obtain ⟨hq, hm, _⟩ := hsrc
          exact some_ s l' hTU hs hc hm.symm hq.symm
        · cases hsrc
      · cases hsrc
    · cases hsrc

theorem g_append (hT : TabOk P tab) (hS : SRm E st a M) {e : Eff} (hid : id ∈ e.new → st.ob' id = none) {T U : TypeId} {x y : Operand} {c d : AV} (ho : o.op = .call { callee := .builtin .append, args := #[x, y], argTypes := #[T, U] })
    (hx : evalO st.sl' x = some c) (hy : evalO st.sl' y = some d) (he : appendAV tab st.ob' id T U c d = some e) (hp : e.obl) : Goes P E a M o e := by
  have hvx := hS.eval hx
  have hvy := hS.eval hy
  generalize hax : a.eval x = vx at hvx
  generalize hay : a.eval y = vy at hvy
  have step : ∀ {v' : Value} {M' : Mem}, (Builtin.append_ #[T, U] o.type #[vx, vy]).run P M.w = .ok v' M'.w → Done E M M' e v' → Goes P E a M o e := by
    intro v' M' hr hd
    refine goes_value ?_ hd
    simp [execOp, ho, resolve, invoke, builtin, hax, hay, hr]
  unfold appendAV at he
  split at he
  · cases he
  · rename_i e' t hel
    split at he
    · cases he
    · rename_i q m rd hsrc
      split at he
      · simp only [Option.some.injEq] at he
        subst he
        simp only at hp
        cases hvx
        obtain ⟨v', w', news, h1, h2, h3, h4, h5⟩ := append_run (l := []) (xs := []) hT hS o.type hel hvy hsrc ⟨by simp, .inl ⟨rfl, rfl⟩⟩ (by simpa using hp)
        have hd := app_done (id := id) (oo := none) (x := false) (p := false) (l := ([] : List t.T)) (del := []) (rd := rd) (pr := m.length ≤ LIM) hS (hid (by simp)) (fun g hg => by simp [Value.ownBlock] at hg) (fun _ h => by cases h) h3 h4 h2 (by simp [RdL]) h5 (fun _ => by simp)
        exact step (M' := M.app none id v' w') h1 hd
      · rename_i o'
        split at he
        · rename_i x' p e2 t' l hob
          split at he
          · rename_i hee
            subst hee
            split at he
            · rename_i l' hc
              simp only [Option.some.injEq] at he
              subst he
              simp only at hp
              obtain ⟨rfl, rfl⟩ := castL_spec hc
              obtain ⟨xs, g1, g2, hqq, g3⟩ := hS.obs o' _ hob
              have hvr := row_slice hvx
              subst hvr
              obtain ⟨v', w', news, h1, h2, h3, h4, h5⟩ := append_run (l := l) hT hS o.type hel hvy hsrc g1 hp
              have hd := app_done (id := id) (oo := some o') (x := x') (p := p) (l := l) (del := [o']) (rd := o' :: rd) (pr := l.length + m.length ≤ LIM) hS (hid (by simp)) (fun g hg => ⟨o', rfl, g2 g hg⟩) (fun _ h => by cases h; exact hqq) h3 h4 h2 g3 h5 (fun _ => by simp; exact eq_comm)
              exact step (M' := M.app (some o') id v' w') h1 hd
            · cases he
          · cases he
        · cases he
      · cases he

end
end Go.V

/- The by-value machine, part 15: calls. -/
namespace Go.V
open Go

section
variable {P : Program} {tab : Tab} {E : Env} {st : VS} {a : Act} {M : Mem} {o : Oper} {id : Nat}

/-! ### Numbers there and here -/
theorem nodup_of : ∀ {l : List Nat}, nodupB l = true → l.Nodup
  | [], _ => .nil
  | x :: l, h => by
    simp only [nodupB, Bool.and_eq_true, Bool.not_eq_true', List.contains_eq_mem, decide_eq_false_iff_not] at h
    exact List.nodup_cons.2 ⟨h.1, nodup_of h.2⟩
theorem lookup_mem : ∀ {α : Type} {l : List (Nat × α)} {x : Nat} {y : α}, l.lookup x = some y → (x, y) ∈ l
  | _, [], _, _, h => by simp at h
  | _, (a, b) :: l, x, y, h => by
    simp only [List.lookup_cons] at h
    split at h
    · rename_i he
      simp only [Option.some.injEq] at h
      have : x = a := by simpa using he
      subst this; subst h; simp
    · exact List.mem_cons_of_mem _ (lookup_mem h)
theorem mem_lookup : ∀ {α : Type} {l : List (Nat × α)} {x : Nat} {y : α}, (l.map (·.1)).Nodup → (x, y) ∈ l → l.lookup x = some y
  | _, [], _, _, _, h => by simp at h
  | _, (a, b) :: l, x, y, hn, h => by
    simp only [List.map_cons, List.nodup_cons] at hn
    simp only [List.mem_cons, Prod.mk.injEq] at h
    simp only [List.lookup_cons]
    rcases h with ⟨rfl, rfl⟩ | h
    · simp
    · have hne : x ≠ a := by
        rintro rfl
        exact hn.1 (List.mem_map.2 ⟨_, h, rfl⟩)
      have : (x == a) = false := by simpa using hne
      rw [this]
      exact mem_lookup hn.2 h
theorem emb_mem : ∀ {l : List (Nat × Nat)} {o' x : Nat}, embOf l x = some o' → (o', x) ∈ l
  | [], _, _, h => by simp [embOf] at h
  | (a, b) :: l, o', x, h => by
    simp only [embOf] at h
    split at h
    · rename_i he
      simp only [Option.some.injEq] at h
      subst h; subst he; simp
    · exact List.mem_cons_of_mem _ (emb_mem h)
theorem mem_emb : ∀ {l : List (Nat × Nat)} {o' x : Nat}, (l.map (·.2)).Nodup → (o', x) ∈ l → embOf l x = some o'
  | [], _, _, _, h => by simp at h
  | (a, b) :: l, o', x, hn, h => by
    simp only [List.map_cons, List.nodup_cons] at hn
    simp only [List.mem_cons, Prod.mk.injEq] at h
    simp only [embOf]
    rcases h with ⟨rfl, rfl⟩ | h
    · simp
    · have hne : b ≠ x := by
        rintro rfl
        exact hn.1 (List.mem_map.2 ⟨_, h, rfl⟩)
      rw [if_neg hne]
      exact mem_emb hn.2 h

/-! ### The callee's view -/
/-- Which old blocks the callee may look into. -/
def oldC (E : Env) (M : Mem) (lend : List (Nat × Nat)) (ok od : Bool) (b : Nat) : Prop :=
  (E.w0.heap.size ≤ b ∨ (od = true ∧ E.old b)) ∧ (ok = true → M.own b = none ∨ ∃ x y, M.own b = some x ∧ embOf lend x = some y)
def Rc (E : Env) (M : Mem) (lend : List (Nat × Nat)) (ok od : Bool) : Rg := ⟨M.w.heap.size, oldC E M lend ok od⟩
def Mc (M : Mem) (lend : List (Nat × Nat)) : Mem :=
  ⟨fun b => match M.own b with | some x => embOf lend x | none => none, fun o' => match lend.lookup o' with | some x => M.ρ x | none => .nilFunc, M.w⟩

variable {lend : List (Nat × Nat)} {ok od : Bool}

theorem Mc_ρ (h1 : (lend.map (·.1)).Nodup) {o' x : Nat} (h : embOf lend x = some o') : (Mc M lend).ρ o' = M.ρ x := by
  simp [Mc, mem_lookup h1 (emb_mem h)]
theorem Fz_c {p : Bool} (hod : p = true → od = true) {b : Nat} (h : Fz E.B M p b) : Fz (Rc E M lend ok od) (Mc M lend) true b := by
  refine ⟨by simp [Mc, h.1], .inr ⟨rfl, ?_, fun _ => .inl h.1⟩⟩
  rcases h.2 with h | ⟨hp, h⟩
  · exact .inl h
  · exact .inr ⟨hod hp, h⟩
theorem own_c (hS : SRm E st a M) (hok : ok = false) {x : Nat} (hx : embOf lend x = none) {q p : Bool} {e : TypeId} {t : Ty} {l : List t.T} (hor : OR E.B M x (.row q p e t l)) (hod : (q || p) = true → od = true) {b : Nat} (hb : M.own b = some x) :
    Fz (Rc E M lend ok od) (Mc M lend) true b := by
  refine ⟨by simp [Mc, hb, hx], .inr ⟨rfl, ?_, fun h => by rw [hok] at h; cases h⟩⟩
  obtain ⟨_, _, _, hq, _⟩ := hor
  by_cases hq1 : q = true
  · rcases hS.fr.inO b x hb with h | h
    · exact .inl h
    · exact .inr ⟨hod (by simp [hq1]), h⟩
  · exact .inl (hq (by simpa using hq1) b hb)

mutual
theorem to_callee (hS : SRm E st a M) (h1 : (lend.map (·.1)).Nodup) : ∀ {c c' : AV} {v : Value}, VR E.B M c v → toCallee st.ob' lend c = some c' → (c.oldV st.ob' = true → od = true) → (c.roV lend = true → ok = false) → VR (Rc E M lend ok od) (Mc M lend) c' v
  | .row x, c', _, .row (n := n) (c := cc) (ad := ad) hv, h, ho, hr => by
    simp only [toCallee] at h
    split at h
    · rename_i o' he
      simp only [Option.some.injEq] at h
      subst h
      exact .row ((Mc_ρ h1 he).trans hv)
    · rename_i he
      split at h
      · rename_i q p e t l hob
        simp only [Option.some.injEq] at h
        subst h
        have hor := hS.obs' x _ hob
        have hod : (q || p) = true → od = true := by simpa [AV.oldV, hob] using ho
        have hok : ok = false := hr (by simp [AV.roV, he])
        have := row_reads (A := Fz (Rc E M lend ok od) (Mc M lend) true) hor (fun b hb => Fz_c (fun hp => hod (by simp [hp])) hb) (fun b _ hb => own_c hS hok he hor hod hb)
        rw [hv] at this
        exact .ro this
      · cases h
  | .box x off, c', _, .box _ hv, h, _, _ => by
    simp only [toCallee, Option.map_eq_some_iff] at h
    obtain ⟨o', he, rfl⟩ := h
    exact .box _ ((Mc_ρ h1 he).trans hv)
  | .elt _ _ _ _, c', _, _, h, _, _ => by simp [toCallee] at h
  | .ro p e t l, c', _, .ro hv, h, ho, _ => by
    simp only [toCallee, Option.some.injEq] at h
    subst h
    exact .ro (hv.mono fun b hb _ => ⟨Fz_c (by simpa [AV.oldV] using ho) hb, rfl⟩)
  | .rel p t x off, c', _, .rel h2 h3 h4, h, ho, _ => by
    simp only [toCallee, Option.some.injEq] at h
    subst h
    have hp : p = true → od = true := by simpa [AV.oldV] using ho
    exact .rel (Fz_c hp h2) (h3.mono fun b hb _ => ⟨Fz_c hp hb, rfl⟩) h4
  | .agg cs, c', _, .agg hv, h, ho, hr => by
    simp only [toCallee, Option.map_eq_some_iff] at h
    obtain ⟨ds, h, rfl⟩ := h
    exact .agg (to_callees hS h1 hv h (by simpa [AV.oldV] using ho) (by simpa [AV.roV] using hr))
  | .tup cs, c', _, .tup hv, h, ho, hr => by
    simp only [toCallee, Option.map_eq_some_iff] at h
    obtain ⟨ds, h, rfl⟩ := h
    exact .tup (to_callees hS h1 hv h (by simpa [AV.oldV] using ho) (by simpa [AV.roV] using hr))
  | .clo f cs, c', _, .clo _ hv, h, ho, hr => by
    simp only [toCallee, Option.map_eq_some_iff] at h
    obtain ⟨ds, h, rfl⟩ := h
    exact .clo _ (to_callees hS h1 hv h (by simpa [AV.oldV] using ho) (by simpa [AV.roV] using hr))
  | .int k n, c', _, .int _ _, h, _, _ => by simp only [toCallee, Option.some.injEq] at h; subst h; exact .int _ _
  | .byte x, c', _, .byte _, h, _, _ => by simp only [toCallee, Option.some.injEq] at h; subst h; exact .byte _
  | .bool b, c', _, .bool _, h, _, _ => by simp only [toCallee, Option.some.injEq] at h; subst h; exact .bool _
  | .str s, c', _, .str _, h, _, _ => by simp only [toCallee, Option.some.injEq] at h; subst h; exact .str _
  | .nil, c', _, .nil, h, _, _ => by simp only [toCallee, Option.some.injEq] at h; subst h; exact .nil
  | .nilp, c', _, .nilp, h, _, _ => by simp only [toCallee, Option.some.injEq] at h; subst h; exact .nilp
  | .undef, c', _, .undef _, h, _, _ => by simp only [toCallee, Option.some.injEq] at h; subst h; exact .undef _
theorem to_callees (hS : SRm E st a M) (h1 : (lend.map (·.1)).Nodup) : ∀ {cs cs' : List AV} {vs : List Value}, VRs E.B M cs vs → toCallees st.ob' lend cs = some cs' → (oldAll st.ob' cs = true → od = true) → (roAll lend cs = true → ok = false) → VRs (Rc E M lend ok od) (Mc M lend) cs' vs
  | [], cs', _, .nil, h, _, _ => by simp only [toCallees, Option.some.injEq] at h; subst h; exact .nil
  | c :: cs, cs', _, .cons h2 h3, h, ho, hr => by
    simp only [toCallees] at h
    split at h
    · rename_i d ds h4 h5
      simp only [Option.some.injEq] at h
      subst h
      simp only [oldAll, Bool.or_eq_true] at ho
      simp only [roAll, Bool.or_eq_true] at hr
      exact .cons (to_callee hS h1 h2 h4 (fun h => ho (.inl h)) (fun h => hr (.inl h))) (to_callees hS h1 h3 h5 (fun h => ho (.inr h)) (fun h => hr (.inr h)))
    · cases h
end

theorem args_to (hS : SRm E st a M) (h1 : (lend.map (·.1)).Nodup) : ∀ {Ts : List TypeId} {cs cs' : List AV} {vs : List Value}, VRs E.B M cs vs → argsTo tab st.ob' lend Ts cs = some cs' → (oldAll st.ob' cs = true → od = true) → (roAll lend cs = true → ok = false) →
    VRs (Rc E M lend ok od) (Mc M lend) cs' vs
  | [], [], cs', _, .nil, h, _, _ => by simp only [argsTo, Option.some.injEq] at h; subst h; exact .nil
  | [], _ :: _, _, _, _, h, _, _ => by simp [argsTo] at h
  | _ :: _, [], _, _, _, h, _, _ => by simp [argsTo] at h
  | T :: Ts, c :: cs, cs', _, .cons h2 h3, h, ho, hr => by
    simp only [argsTo] at h
    split at h
    · rename_i d ds h4 h5
      simp only [Option.some.injEq] at h
      subst h
      simp only [oldAll, Bool.or_eq_true] at ho
      simp only [roAll, Bool.or_eq_true] at hr
      refine .cons ?_ (args_to hS h1 h3 h5 (fun h => ho (.inr h)) (fun h => hr (.inr h)))
      unfold argTo at h4
      split at h4
      · split at h4
        · simp only [Option.some.injEq] at h4
          subst h4
          cases h2
          refine .ro ?_
          simp only [RdC]
          exact ⟨none, 0, rfl, ⟨Nat.zero_le _, Nat.zero_le _⟩, fun h => absurd rfl h⟩
        · cases h4
      · exact to_callee hS h1 h2 h4 (fun h => ho (.inl h)) (fun h => hr (.inl h))
    · cases h

theorem obj_to (hS : SRm E st a M) (h1 : (lend.map (·.1)).Nodup) {o' x : Nat} {ob ob' : Ob} (he : embOf lend x = some o') (hob : st.ob' x = some ob) (h : objTo st.ob' lend ob = some ob')
    (ho : (match ob with | .box q _ cs => q || oldAll st.ob' cs | .row q p _ _ _ => q || p) = true → od = true) (hr : (match ob with | .box _ _ cs => roAll lend cs | _ => false) = true → ok = false) :
    OR (Rc E M lend ok od) (Mc M lend) o' ob' := by
  have hor := hS.obs' x _ hob
  have hown : ∀ b, M.own b = some x → (Mc M lend).own b = some o' := fun b hb => by simp [Mc, hb, he]
  cases ob with
  | box q T cs =>
    simp only [objTo, Option.map_eq_some_iff] at h
    obtain ⟨ds, h9, rfl⟩ := h
    obtain ⟨b, vs, g1, g2, g3, g4, g5⟩ := hor
    simp only [Bool.or_eq_true] at ho
    exact ⟨b, vs, (Mc_ρ h1 he).trans g1, hown b g2, (fun h => by cases h), g4, to_callees hS h1 g5 h9 (fun h => ho (.inr h)) hr⟩
  | row q p e t l =>
    simp only [objTo, Option.some.injEq] at h
    subst h
    obtain ⟨xs, g1, g2, g3, g4⟩ := hor
    have hρ := Mc_ρ (M := M) h1 he
    refine ⟨xs, by rw [hρ]; exact g1, fun g hg => hown g (g2 g (by rw [← hρ]; exact hg)), (fun h => by cases h), ?_⟩
    by_cases hf : t.flat = true
    · exact RdL.flat hf g4
    · have : (!t.flat) = true := by simpa using hf
      rw [this]
      simp only [Bool.or_eq_true] at ho
      exact g4.mono fun b hb _ => ⟨Fz_c (fun hp => ho (.inr hp)) hb, rfl⟩

end
end Go.V

/- The by-value machine, part 16: what comes back from a call. -/
namespace Go.V
open Go

section
variable {P : Program} {tab : Tab} {E : Env} {st : VS} {a : Act} {M : Mem} {o : Oper} {id : Nat}
variable {lend : List (Nat × Nat)} {ok od : Bool} {ci : CI} {M1 : Mem} {I : Nat}

/-- The callee's frame. -/
def Ec (E : Env) (M : Mem) (ci : CI) (ok od : Bool) (I : Nat) : Env :=
  ⟨M.w, (Mc M ci.lend).own, (Mc M ci.lend).ρ, I, 0, oldC E M ci.lend ok od⟩

def ownR (M M1 : Mem) (ci : CI) (b : Nat) : Option Nat :=
  match M.own b with
  | some x => if embOf ci.lend x = none then some x else (M1.own b).bind fun x => ci.back.lookup x
  | none => (M1.own b).bind fun x => ci.back.lookup x
def ρR (M M1 : Mem) (ci : CI) (y : Nat) : Value :=
  match embOf ci.back y with
  | some o' => M1.ρ o'
  | none => M.ρ y
/-- Memory after the call, as the caller has it. -/
def MR (M M1 : Mem) (ci : CI) : Mem := ⟨ownR M M1 ci, ρR M M1 ci, M1.w⟩

structure CiOk (id : Nat) (ci : CI) : Prop where
  l1 : (ci.lend.map (·.1)).Nodup
  l2 : (ci.lend.map (·.2)).Nodup
  b1 : (ci.back.map (·.1)).Nodup
  b2 : (ci.back.map (·.2)).Nodup
  lb : ∀ o' x y, (o', x) ∈ ci.lend → ci.back.lookup o' = some y → y = x
  lt : ∀ x ∈ ci.lend, x.2 < id
  ge : ∀ x ∈ newOf ci, id ≤ x
  ro : (ci.robs.map (·.1)).Nodup

theorem ciOk_spec (h : ciOk id ci = true) : CiOk id ci := by
  simp only [ciOk, Bool.and_eq_true, List.all_eq_true, decide_eq_true_eq] at h
  obtain ⟨⟨⟨⟨⟨⟨⟨h1, h2⟩, h3⟩, h4⟩, h5⟩, h6⟩, h7⟩, h8⟩ := h
  refine ⟨nodup_of h1, nodup_of h2, nodup_of h3, nodup_of h4, fun o' x y hm hl => ?_, fun x hx => h6 x hx, fun x hx => h7 x hx, nodup_of h8⟩
  have := h5 _ hm
  simp only [hl] at this
  simpa using this

theorem back_cases {o' y : Nat} (h : (o', y) ∈ ci.back) : (o', y) ∈ ci.lend ∨ y ∈ newOf ci := by
  by_cases hl : (o', y) ∈ ci.lend
  · exact .inl hl
  · refine .inr (List.mem_map.2 ⟨(o', y), List.mem_filter.2 ⟨h, ?_⟩, rfl⟩)
    simpa using hl

theorem emb_none {l : List (Nat × Nat)} {x : Nat} : embOf l x = none ↔ x ∉ l.map (·.2) := by
  induction l with
  | nil => simp [embOf]
  | cons y l ih =>
    obtain ⟨a, b⟩ := y
    simp only [embOf, List.map_cons, List.mem_cons, not_or]
    split
    · rename_i h; subst h; simp
    · rename_i h
      rw [ih]
      exact ⟨fun g => ⟨fun h' => h h'.symm, g⟩, fun g => g.2⟩

/-- What the call gave. -/
structure Back (E : Env) (st : VS) (a : Act) (M M1 : Mem) (ci : CI) (ok od : Bool) (I : Nat) (id : Nat) : Prop where
  sr : SRm E st a M
  hc : CiOk id ci
  fr : Fr (Ec E M ci ok od I) M1
  lt : ∀ x ∈ ci.lend, x.1 < I
  fresh : ∀ y, y ∈ newOf ci → st.ob' y = none

theorem Back.unlent (h : Back E st a M M1 ci ok od I id) {b x : Nat} (hb : M.own b = some x) (he : embOf ci.lend x = none) : M1.own b = none ∧ M1.w.heap[b]? = M.w.heap[b]? :=
  h.fr.old b (h.sr.fr.bound b x hb) (by simp [Ec, Mc, hb, he])
theorem Back.frozen (h : Back E st a M M1 ci ok od I id) {b : Nat} (hlt : b < M.w.heap.size) (hb : M.own b = none) : M1.own b = none ∧ M1.w.heap[b]? = M.w.heap[b]? :=
  h.fr.old b hlt (by simp [Ec, Mc, hb])
theorem Back.off (h : Back E st a M M1 ci ok od I id) {b : Nat} (h1 : M1.own b = none) (h2 : M.own b = none ∨ ∃ x y, M.own b = some x ∧ embOf ci.lend x = some y) : (MR M M1 ci).own b = none := by
  show ownR M M1 ci b = none
  unfold ownR
  rcases h2 with h2 | ⟨x, y, h2, h3⟩
  · rw [h2]; simp [h1]
  · rw [h2]; simp [h1, h3]
theorem Back.own (h : Back E st a M M1 ci ok od I id) {b o' y : Nat} (h1 : M1.own b = some o') (h2 : ci.back.lookup o' = some y) : (MR M M1 ci).own b = some y := by
  show ownR M M1 ci b = some y
  unfold ownR
  cases hb : M.own b with
  | none => simp [h1, h2]
  | some x =>
    simp only
    split
    · rename_i he
      rw [(h.unlent hb he).1] at h1; cases h1
    · simp [h1, h2]
theorem Back.own' (h : Back E st a M M1 ci ok od I id) {b y : Nat} (h1 : (MR M M1 ci).own b = some y) : (M.own b = some y ∧ embOf ci.lend y = none) ∨ ∃ o', M1.own b = some o' ∧ ci.back.lookup o' = some y := by
  have h1 : ownR M M1 ci b = some y := h1
  unfold ownR at h1
  split at h1
  · rename_i x hx
    split at h1
    · rename_i he
      simp only [Option.some.injEq] at h1
      subst h1
      exact .inl ⟨hx, he⟩
    · right
      simpa [Option.bind_eq_some_iff] using h1
  · right
    simpa [Option.bind_eq_some_iff] using h1
theorem Back.ρ_back (h : Back E st a M M1 ci ok od I id) {o' y : Nat} (h2 : ci.back.lookup o' = some y) : (MR M M1 ci).ρ y = M1.ρ o' := by
  show ρR M M1 ci y = _
  unfold ρR
  rw [mem_emb h.hc.b2 (lookup_mem h2)]
theorem Back.ρ (h : Back E st a M M1 ci ok od I id) {y : Nat} (hy : y ∉ newOf ci) : (MR M M1 ci).ρ y = M.ρ y := by
  show ρR M M1 ci y = _
  unfold ρR
  split
  · rename_i o' he
    have hm := emb_mem he
    rcases back_cases hm with hl | hn
    · have : M1.ρ o' = (Mc M ci.lend).ρ o' := h.fr.ids o' (h.lt _ hl)
      rw [this]
      exact Mc_ρ h.hc.l1 (mem_emb h.hc.l2 hl)
    · exact absurd hn hy
  · rfl

theorem Back.fz (h : Back E st a M M1 ci ok od I id) {p : Bool} (hok : (p && !ok) = false) {b : Nat} (hf : Fz (Rc E M ci.lend ok od) M1 p b) : Fz E.B (MR M M1 ci) (p && od) b := by
  obtain ⟨h1, h2⟩ := hf
  have hsz := h.sr.fr.size
  rcases h2 with h2 | ⟨hp, h2, h3⟩
  · have h2 : M.w.heap.size ≤ b := h2
    have hb : M.own b = none := by
      cases hb : M.own b with
      | none => rfl
      | some x => have := h.sr.fr.bound b x hb; omega
    exact ⟨h.off h1 (.inl hb), .inl (by simp only [Env.B]; omega)⟩
  · have hok' : ok = true := by simpa [hp] using hok
    refine ⟨h.off h1 (h3 hok'), ?_⟩
    rcases h2 with h2 | ⟨h4, h5⟩
    · exact .inl h2
    · exact .inr ⟨by simp [hp, h4], h5⟩

mutual
theorem of_callee (h : Back E st a M M1 ci ok od I id) : ∀ {c c' : AV} {v : Value}, VR (Rc E M ci.lend ok od) M1 c v → ofCallee ok od ci.back c = some c' → VR E.B (MR M M1 ci) c' v
  | .row x, c', _, .row hv, hh => by
    simp only [ofCallee, Option.map_eq_some_iff] at hh
    obtain ⟨y, h1, rfl⟩ := hh
    exact .row ((h.ρ_back h1).trans hv)
  | .box x off, c', _, .box _ hv, hh => by
    simp only [ofCallee, Option.map_eq_some_iff] at hh
    obtain ⟨y, h1, rfl⟩ := hh
    exact .box _ ((h.ρ_back h1).trans hv)
  | .elt _ _ _ _, c', _, _, hh => by simp [ofCallee] at hh
  | .ro p e t l, c', _, .ro hv, hh => by
    simp only [ofCallee] at hh
    split at hh
    · cases hh
    · rename_i hok
      simp only [Option.some.injEq] at hh
      subst hh
      exact .ro (hv.mono fun b hb _ => ⟨h.fz (by simpa using hok) hb, rfl⟩)
  | .rel p t x off, c', _, .rel h2 h3 h4, hh => by
    simp only [ofCallee] at hh
    split at hh
    · cases hh
    · rename_i hok
      simp only [Option.some.injEq] at hh
      subst hh
      have hok : (p && !ok) = false := by simpa using hok
      exact .rel (h.fz hok h2) (h3.mono fun b hb _ => ⟨h.fz hok hb, rfl⟩) h4
  | .agg cs, c', _, .agg hv, hh => by
    simp only [ofCallee, Option.map_eq_some_iff] at hh
    obtain ⟨ds, h1, rfl⟩ := hh
    exact .agg (of_callees h hv h1)
  | .tup cs, c', _, .tup hv, hh => by
    simp only [ofCallee, Option.map_eq_some_iff] at hh
    obtain ⟨ds, h1, rfl⟩ := hh
    exact .tup (of_callees h hv h1)
  | .clo f cs, c', _, .clo _ hv, hh => by
    simp only [ofCallee, Option.map_eq_some_iff] at hh
    obtain ⟨ds, h1, rfl⟩ := hh
    exact .clo _ (of_callees h hv h1)
  | .int k n, c', _, .int _ _, h => by simp only [ofCallee, Option.some.injEq] at h; subst h; exact .int _ _
  | .byte x, c', _, .byte _, h => by simp only [ofCallee, Option.some.injEq] at h; subst h; exact .byte _
  | .bool b, c', _, .bool _, h => by simp only [ofCallee, Option.some.injEq] at h; subst h; exact .bool _
  | .str s, c', _, .str _, h => by simp only [ofCallee, Option.some.injEq] at h; subst h; exact .str _
  | .nil, c', _, .nil, h => by simp only [ofCallee, Option.some.injEq] at h; subst h; exact .nil
  | .nilp, c', _, .nilp, h => by simp only [ofCallee, Option.some.injEq] at h; subst h; exact .nilp
  | .undef, c', _, .undef _, h => by simp only [ofCallee, Option.some.injEq] at h; subst h; exact .undef _
theorem of_callees (h : Back E st a M M1 ci ok od I id) : ∀ {cs cs' : List AV} {vs : List Value}, VRs (Rc E M ci.lend ok od) M1 cs vs → ofCallees ok od ci.back cs = some cs' → VRs E.B (MR M M1 ci) cs' vs
  | [], cs', _, .nil, hh => by simp only [ofCallees, Option.some.injEq] at hh; subst hh; exact .nil
  | c :: cs, cs', _, .cons h2 h3, hh => by
    simp only [ofCallees] at hh
    split at hh
    · rename_i d ds h4 h5
      simp only [Option.some.injEq] at hh
      subst hh
      exact .cons (of_callee h h2 h4) (of_callees h h3 h5)
    · cases hh
end

theorem obj_of (h : Back E st a M M1 ci ok od I id) {o' y : Nat} {ob ob' : Ob} (hl : ci.back.lookup o' = some y) (hor : OR (Rc E M ci.lend ok od) M1 o' ob) (hh : objOf ok od ci.back ob = some ob') : OR E.B (MR M M1 ci) y ob' := by
  have hq : ∀ {q : Bool}, (q = false → ∀ b, M1.own b = some o' → M.w.heap.size ≤ b) → (q && od) = false → ∀ b, (MR M M1 ci).own b = some y → E.w0.heap.size ≤ b := by
    intro q h1 h2 b hb
    have hsz := h.sr.fr.size
    rcases h.own' hb with ⟨h3, h4⟩ | ⟨o'', h3, h4⟩
    · exfalso
      rcases back_cases (lookup_mem hl) with h5 | h5
      · exact (emb_none.1 h4) (List.mem_map.2 ⟨_, h5, rfl⟩)
      · obtain ⟨ob, h6⟩ := h.sr.own_in b y h3
        have := h.fresh y h5
        rw [this] at h6; cases h6
    · have e1 := mem_emb h.hc.b2 (lookup_mem h4)
      have e2 := mem_emb h.hc.b2 (lookup_mem hl)
      rw [e1] at e2
      simp only [Option.some.injEq] at e2
      subst e2
      cases q with
      | false => have := h1 rfl b h3; omega
      | true =>
        have hod : od = false := by simpa using h2
        rcases h.fr.inO b _ h3 with h6 | h6
        · have h6 : M.w.heap.size ≤ b := h6
          omega
        · rcases h6.1 with h7 | ⟨h7, _⟩
          · exact h7
          · rw [hod] at h7; cases h7
  cases ob with
  | box q T cs =>
    simp only [objOf, Option.map_eq_some_iff] at hh
    obtain ⟨ds, h9, rfl⟩ := hh
    obtain ⟨b, vs, g1, g2, g3, g4, g5⟩ := hor
    exact ⟨b, vs, (h.ρ_back hl).trans g1, h.own g2 hl, hq g3, g4, of_callees h g5 h9⟩
  | row q p e t l =>
    simp only [objOf] at hh
    split at hh
    · cases hh
    · rename_i hok
      simp only [Option.some.injEq] at hh
      subst hh
      obtain ⟨xs, g1, g2, g3, g4⟩ := hor
      have hρ := h.ρ_back hl
      refine ⟨xs, by rw [hρ]; exact g1, fun g hg => h.own (g2 g (by rw [← hρ]; exact hg)) hl, hq g3, ?_⟩
      by_cases hf : t.flat = true
      · exact RdL.flat hf g4
      · have hf : t.flat = false := by simpa using hf
        have hok : (p && !ok) = false := by
          cases h1 : (p && !ok) with
          | false => rfl
          | true => simp [h1, hf] at hok
        rw [hf]
        simp only [Bool.not_false, Bool.and_true]
        exact g4.mono fun b hb _ => ⟨h.fz hok hb, rfl⟩

theorem objsOf_spec : ∀ {l : List (Nat × Ob)} {r : List (Nat × Ob)} {back : List (Nat × Nat)}, objsOf ok od back l = some r → (∀ y ob, (y, ob) ∈ r → ∃ o' ob', (o', ob') ∈ l ∧ back.lookup o' = some y ∧ objOf ok od back ob' = some ob) ∧
    ∀ o' ob', (o', ob') ∈ l → ∃ y, back.lookup o' = some y ∧ y ∈ r.map (·.1)
  | [], r, back, h => by simp only [objsOf, Option.some.injEq] at h; subst h; simp
  | (o, ob) :: l, r, back, h => by
    simp only [objsOf] at h
    split at h
    · rename_i x y z h1 h2 h3
      simp only [Option.some.injEq] at h
      subst h
      obtain ⟨g1, g2⟩ := objsOf_spec h3
      refine ⟨fun y' ob' hm => ?_, fun o' ob' hm => ?_⟩
      · simp only [List.mem_cons, Prod.mk.injEq] at hm
        rcases hm with ⟨rfl, rfl⟩ | hm
        · exact ⟨o, ob, by simp, h1, h2⟩
        · obtain ⟨o', ob', h4, h5⟩ := g1 _ _ hm
          exact ⟨o', ob', List.mem_cons_of_mem _ h4, h5⟩
      · simp only [List.mem_cons, Prod.mk.injEq] at hm
        rcases hm with ⟨rfl, rfl⟩ | hm
        · exact ⟨x, h1, by simp⟩
        · obtain ⟨y', h4, h5⟩ := g2 _ _ hm
          exact ⟨y', h4, by simp only [List.map_cons, List.mem_cons]; exact .inr h5⟩
    · cases h

theorem Back.done (h : Back E st a M M1 ci ok od I id) {r : AV} {ro : List (Nat × Ob)} {v : Value} (hr : ofCallee ok od ci.back ci.res = some r) (hro : objsOf ok od ci.back ci.robs = some ro) (hv : VR (Rc E M ci.lend ok od) M1 ci.res v)
    (hos : ∀ o ob, ci.robs.lookup o = some ob → OR (Rc E M ci.lend ok od) M1 o ob) (hin : ∀ b o, M1.own b = some o → ∃ ob, ci.robs.lookup o = some ob) {rd : List Nat} {p : Prop} :
    Done E M (MR M M1 ci) { val := r, del := ci.lend.map (·.2), new := newOf ci, put := ro, rd := rd, obl := p } v := by
  obtain ⟨g1, g2⟩ := objsOf_spec hro
  have hsz : M.w.heap.size ≤ M1.w.heap.size := h.fr.size
  refine ⟨⟨hsz, fun b hb hn => ?_, fun b x hb hx => ?_, h.fr.os, h.fr.tape, h.fr.output⟩, fun y hy => h.ρ hy, of_callee h hv hr, fun y ob hm => ?_, fun b y hb => ?_, fun b y hb => ?_⟩
  · obtain ⟨h1, h2⟩ := h.frozen hb hn
    exact ⟨h.off h1 (.inl hn), h2⟩
  · have he : embOf ci.lend x = none := emb_none.2 fun hm => hx (.inl hm)
    refine ⟨?_, (h.unlent hb he).2⟩
    show ownR M M1 ci b = _
    unfold ownR
    simp [hb, he]
  · obtain ⟨o', ob', h1, h2, h3⟩ := g1 y ob hm
    exact obj_of h h2 (hos o' ob' (mem_lookup h.hc.ro h1)) h3
  · rcases h.own' hb with ⟨h1, _⟩ | ⟨o', h1, _⟩
    · have := h.sr.fr.bound b y h1
      exact ⟨show b < M1.w.heap.size by omega, h.sr.fr.inO b y h1⟩
    · refine ⟨h.fr.bound b o' h1, ?_⟩
      rcases h.fr.inO b o' h1 with h6 | h6
      · have h6 : M.w.heap.size ≤ b := h6
        have := h.sr.fr.size
        exact .inl (by omega)
      · rcases h6.1 with h7 | ⟨_, h7⟩
        · exact .inl h7
        · exact .inr h7
  · rcases h.own' hb with ⟨h1, h2⟩ | ⟨o', h1, h2⟩
    · exact .inr ⟨h1, emb_none.1 h2⟩
    · obtain ⟨ob, h3⟩ := hin b o' h1
      obtain ⟨y', h4, h5⟩ := g2 o' ob (lookup_mem h3)
      rw [h2] at h4
      simp only [Option.some.injEq] at h4
      subst h4
      exact .inl h5

end
end Go.V

/- The by-value machine, part 17: a call. -/
namespace Go.V
open Go

section
variable {P : Program} {tab : Tab} {E : Env} {st : VS} {a : Act} {M : Mem} {o : Oper} {id : Nat}
variable {lend : List (Nat × Nat)} {ok od : Bool} {ci : CI}

theorem objsTo_spec (hS : SRm E st a M) (h1 : (lend.map (·.1)).Nodup) (h2 : (lend.map (·.2)).Nodup) : ∀ {l : List (Nat × Nat)} {os : List (Nat × Ob)}, (∀ x, x ∈ l → x ∈ lend) → objsTo st.ob' lend l = some os →
    (oldObjs st.ob' l = true → od = true) → (roObjs st.ob' lend l = true → ok = false) →
    (∀ o' ob, os.lookup o' = some ob → (∃ x, (o', x) ∈ l) ∧ OR (Rc E M lend ok od) (Mc M lend) o' ob) ∧ ∀ o' x, (o', x) ∈ l → ∃ ob, os.lookup o' = some ob
  | [], os, _, h, _, _ => by simp only [objsTo, Option.some.injEq] at h; subst h; simp
  | (o', x) :: l, os, hl, h, ho, hr => by
    simp only [objsTo] at h
    split at h
    · rename_i ob hob
      split at h
      · rename_i ob' y h4 h5
        simp only [Option.some.injEq] at h
        subst h
        simp only [oldObjs, hob, Bool.or_eq_true] at ho
        simp only [roObjs, hob, Bool.or_eq_true] at hr
        obtain ⟨g1, g2⟩ := objsTo_spec hS h1 h2 (fun z hz => hl z (List.mem_cons_of_mem _ hz)) h5 (fun h => ho (.inr h)) (fun h => hr (.inr h))
        have hor : OR (Rc E M lend ok od) (Mc M lend) o' ob' := by
          refine obj_to hS h1 (mem_emb h2 (hl _ (by simp))) hob h4 (fun h => ho (.inl ?_)) (fun h => hr (.inl ?_))
          · cases ob <;> first | (simp at h; done) | simpa using h
          · cases ob <;> first | (simp at h; done) | simpa using h
        refine ⟨fun o'' ob'' hh => ?_, fun o'' x' hh => ?_⟩
        · simp only [List.lookup_cons] at hh
          split at hh
          · rename_i he
            have : o'' = o' := by simpa using he
            subst this
            simp only [Option.some.injEq] at hh
            subst hh
            exact ⟨⟨x, by simp⟩, hor⟩
          · obtain ⟨⟨x', h6⟩, h7⟩ := g1 _ _ hh
            exact ⟨⟨x', List.mem_cons_of_mem _ h6⟩, h7⟩
        · simp only [List.lookup_cons]
          split
          · exact ⟨_, rfl⟩
          · rename_i he
            simp only [List.mem_cons, Prod.mk.injEq] at hh
            rcases hh with ⟨rfl, rfl⟩ | hh
            · simp at he
            · exact g2 _ _ hh
      · cases h
    · cases h

theorem old_lent (hS : SRm E st a M) : ∀ {l : List (Nat × Nat)}, oldObjs st.ob' l = false → ∀ o' x b, (o', x) ∈ l → M.own b = some x → E.w0.heap.size ≤ b
  | [], _, _, _, _, h, _ => by cases h
  | (o', x) :: l, ho, o'', x', b, h, hb => by
    simp only [oldObjs, Bool.or_eq_false_iff] at ho
    simp only [List.mem_cons, Prod.mk.injEq] at h
    rcases h with ⟨rfl, rfl⟩ | h
    · obtain ⟨ob, hob⟩ := hS.own_in b _ hb
      have hor := hS.obs _ ob hob
      have ho := ho.1
      simp only [hob] at ho
      cases ob with
      | box q T cs =>
        simp only [Bool.or_eq_false_iff] at ho
        obtain ⟨_, _, _, _, hq, _⟩ := hor
        exact hq ho.1 b hb
      | row q p e t l =>
        simp only [Bool.or_eq_false_iff] at ho
        obtain ⟨_, _, _, hq, _⟩ := hor
        exact hq ho.1 b hb
    · exact old_lent hS ho.2 o'' x' b h hb

theorem lt_top : ∀ {l : List (Nat × Ob)} {o : Nat} {ob : Ob}, l.lookup o = some ob → o < topOf l
  | [], _, _, h => by simp at h
  | (x, _) :: l, o, ob, h => by
    simp only [List.lookup_cons] at h
    simp only [topOf]
    split at h
    · rename_i he
      have : o = x := by simpa using he
      omega
    · have := lt_top h
      omega

theorem run_call {x : Operand} {c : Call} {f : Nat} {caps : List Value} (ho : o.op = .call c) (hc : c.callee = .value x) (hx : a.eval x = .func (.func f) #[] caps.toArray) (hf : FnOk P f) :
    (execOp a.eval o).run P M.w = .ok (.enter f (c.args.toList.map a.eval ++ caps).toArray) M.w := by
  obtain ⟨fn, h1, h2, h3⟩ := hf
  have e : (#[] ++ c.args.map a.eval ++ caps.toArray) = (c.args.toList.map a.eval ++ caps).toArray := by
    apply Array.ext'
    simp
  simp only [execOp, ho, resolve, hc, hx, Deferred.ofValue, invoke, Sem.run_bind, Sem.run_pure, Result.andThen_ok, e, callFunc]
  have h2 : fn.name ≠ "runtime.NumGoroutine" := by simpa using h2
  have h3 : fn.body ≠ none := by
    intro h
    rw [h] at h3; cases h3
  simp [go_sem, h1, h2, h3]

theorem g_call (hS : SRm E st a M) (hlt : ∀ y, y ∈ newOf ci → st.ob' y = none) {x : Operand} {f : Nat} {c : Call} {caps args : List AV} {e : Eff} (ho : o.op = .call c) (hc : c.callee = .value x) (hx : evalO st.sl' x = some (.clo f caps))
    (ha : evalAll st.sl' c.args.toList = some args) (he : callE P tab st.ob' id f c.argTypes.toList args caps ci = some e) (hp : e.obl) : Goes P E a M o e := by
  have hv := hS.eval hx
  have hargs := evalAll_spec hS ha
  generalize hvx : a.eval x = vx at hv
  cases hv with
  | clo _ hcaps =>
    rename_i vcaps
    unfold callE at he
    simp only at he
    split at he
    · rename_i as cs os r ro h1 h2 h3 h4 h5
      split at he
      · rename_i hci
        simp only [Option.some.injEq] at he
        subst he
        have hci := ciOk_spec (Bool.and_eq_true _ _ ▸ hci).1
        obtain ⟨hf, hcall⟩ := hp
        generalize hok : (!(roAll ci.lend (args ++ caps) || roObjs st.ob' ci.lend ci.lend)) = ok at *
        generalize hod : (oldAll st.ob' (args ++ caps) || oldObjs st.ob' ci.lend) = od at *
        have hap : ∀ {l m : List AV}, oldAll st.ob' (l ++ m) = (oldAll st.ob' l || oldAll st.ob' m) := by
          intro l m
          induction l with
          | nil => simp [oldAll]
          | cons y l ih => simp [oldAll, ih, Bool.or_assoc]
        have hrp : ∀ {l m : List AV}, roAll ci.lend (l ++ m) = (roAll ci.lend l || roAll ci.lend m) := by
          intro l m
          induction l with
          | nil => simp [roAll]
          | cons y l ih => simp [roAll, ih, Bool.or_assoc]
        rw [hap] at hod
        rw [hrp] at hok
        have A1 : oldAll st.ob' args = true → od = true := fun h => by rw [← hod, h]; rfl
        have A2 : oldAll st.ob' caps = true → od = true := fun h => by rw [← hod, h]; simp
        have A3 : oldObjs st.ob' ci.lend = true → od = true := fun h => by rw [← hod, h]; simp
        have R1 : roAll ci.lend args = true → ok = false := fun h => by rw [← hok, h]; rfl
        have R2 : roAll ci.lend caps = true → ok = false := fun h => by rw [← hok, h]; simp
        have R3 : roObjs st.ob' ci.lend ci.lend = true → ok = false := fun h => by rw [← hok, h]; simp
        have V1 := args_to (ok := ok) (od := od) hS hci.l1 hargs h1 A1 R1
        have V2 := to_callees (ok := ok) (od := od) hS hci.l1 hcaps h2 A2 R2
        obtain ⟨g1, g2⟩ := objsTo_spec (ok := ok) (od := od) hS hci.l1 hci.l2 (fun _ h => h) h3 A3 R3
        have hI : ∀ z ∈ ci.lend, z.1 < topOf os := fun z hz => by
          obtain ⟨ob, h⟩ := g2 z.1 z.2 hz
          exact lt_top h
        have hB := hcall M.w (Mc M ci.lend).own (Mc M ci.lend).ρ (oldC E M ci.lend ok od) (c.args.toList.map a.eval ++ vcaps) (fun b o' hb => ?_) (fun o' ob hl => ?_) (V1.append V2)
        · intro K Q hk
          unfold Oper.wp
          rw [run_call ho hc hvx hf]
          refine Calls.mono hB ?_
          rintro e' w' ⟨v, res, robs, own', ρ', rfl, ⟨rfl, rfl⟩, hfr, hres, hobs, hin⟩
          have hb : Back E st a M ⟨own', ρ', w'⟩ ci ok od (topOf os) id := ⟨hS, hci, hfr, hI, hlt⟩
          exact hk v _ (hb.done h4 h5 hres hobs hin)
        · simp only [Mc] at hb
          split at hb
          · rename_i y hy
            have hm := emb_mem hb
            refine ⟨hS.fr.bound b y hy, ⟨?_, fun _ => .inr ⟨y, o', hy, hb⟩⟩, g2 _ _ hm⟩
            rcases hS.fr.inO b y hy with h | h
            · exact .inl h
            · by_cases ht : od = true
              · exact .inr ⟨ht, h⟩
              · have : oldObjs st.ob' ci.lend = false := by
                  cases hh : oldObjs st.ob' ci.lend with
                  | false => rfl
                  | true => exact absurd (A3 hh) ht
                exact .inl (old_lent hS this _ _ b hm hy)
          · cases hb
        · exact (g1 o' ob hl).2
      · cases he
    · cases he

end
end Go.V

/- The by-value machine, part 18: each operation that has an effect goes so. -/
namespace Go.V
open Go

theorem free_const (nw : List Nat) (v : Value) : (constAV v).free nw = true := by
  unfold constAV
  split <;> first | rfl | (split <;> rfl)
theorem free_eval {nw : List Nat} {st : VS} (h : ∀ i c, st.sl' i = some c → c.free nw = true) {x : Operand} {c : AV} (hc : evalO st.sl' x = some c) : c.free nw = true := by
  cases x with
  | tmp t => exact h t c hc
  | const v => simp only [evalO, Option.some.injEq] at hc; subst hc; exact free_const _ _
  | global g => simp [evalO] at hc
  | func f => simp only [evalO, Option.some.injEq] at hc; subst hc; rfl
theorem AV.free_cells {nw : List Nat} {c : AV} (h : c.free nw = true) : freeAll nw c.cells = true := by
  cases c <;> first
    | simpa only [AV.cells, AV.free] using h
    | (simp only [AV.cells, freeAll, Bool.and_true]; exact h)

section
variable {P : Program} {tab : Tab} {E : Env} {st : VS} {a : Act} {M : Mem} {o : Oper} {id : Nat} {ci : Option CI}

theorem one_arg {sl : Nat → Option AV} {xs : List Operand} {x : AV} (h : evalAll sl xs = some [x]) : ∃ y, xs = [y] ∧ evalO sl y = some x := by
  match xs, h with
  | [], h => simp [evalAll] at h
  | y :: r, h =>
    simp only [evalAll] at h
    split at h
    · rename_i v l h1 h2
      simp only [Option.some.injEq, List.cons.injEq] at h
      obtain ⟨rfl, rfl⟩ := h
      cases r with
      | nil => exact ⟨y, rfl, h1⟩
      | cons z r =>
        simp only [evalAll] at h2
        split at h2 <;> simp at h2
    · cases h
theorem two_args {sl : Nat → Option AV} {xs : List Operand} {x x' : AV} (h : evalAll sl xs = some [x, x']) : ∃ y y', xs = [y, y'] ∧ evalO sl y = some x ∧ evalO sl y' = some x' := by
  match xs, h with
  | [], h => simp [evalAll] at h
  | y :: r, h =>
    simp only [evalAll] at h
    split at h
    · rename_i v l h1 h2
      simp only [Option.some.injEq, List.cons.injEq] at h
      obtain ⟨rfl, rfl⟩ := h
      obtain ⟨y', rfl, h3⟩ := one_arg h2
      exact ⟨y, y', rfl, h1, h3⟩
    · cases h
theorem list_arr1 {α : Type} {xs : Array α} {x : α} (h : xs.toList = [x]) : xs = #[x] := by
  apply Array.ext'; simpa using h
theorem list_arr2 {α : Type} {xs : Array α} {x y : α} (h : xs.toList = [x, y]) : xs = #[x, y] := by
  apply Array.ext'; simpa using h

theorem eff_goes (hT : TabOk P tab) (hS : SRm E st a M) {e : Eff} (he : eff P tab ci st.sl' st.ob' id o.op = some e) (hn : ∀ y, y ∈ e.new → st.ob' y = none) (hfr : ∀ i c, st.sl' i = some c → c.free e.new = true) (hp : e.obl) : Goes P E a M o e := by
  unfold eff at he
  split at he
  · split at he
    · rename_i ho _ v hx
      simp only [Option.some.injEq] at he
      subst he
      exact g_move hS ho hx
    · cases he
  · split at he
    · rename_i ho _ v hx
      simp only [Option.some.injEq] at he
      subst he
      exact g_assign hS ho hx
    · cases he
  · rename_i ho
    split at he
    · rename_i hc
      split at he
      · rename_i hx
        simp only [Option.some.injEq] at he
        subst he
        exact g_pick hS ho hc (by simpa using hx)
      · cases he
    · rename_i hc
      split at he
      · rename_i hx
        simp only [Option.some.injEq] at he
        subst he
        exact g_pick hS ho hc (by simpa using hx)
      · cases he
    · cases he
  · rename_i ho
    split at he
    · rename_i hx hy
      split at he
      · rename_i h
        simp only [Option.some.injEq] at he
        subst he
        exact g_bin hT hS ho hx hy h hp
      · cases he
    · cases he
  · rename_i ho
    split at he
    · rename_i hx
      split at he
      · rename_i h
        simp only [Option.some.injEq] at he
        subst he
        exact g_un hS ho hx h
      · cases he
    · cases he
  · rename_i ho
    split at he
    · rename_i hx
      exact g_conv hT hS ho hx he hp
    · cases he
  · rename_i ho
    split at he
    · rename_i hx
      simp only [Option.some.injEq] at he
      subst he
      exact g_nil hS ho hx (.inl ⟨_, _, rfl⟩)
    · rename_i hx
      simp only [Option.some.injEq] at he
      subst he
      exact g_nil hS ho hx (.inr (.inl ⟨_, _, _, _, rfl⟩))
    · rename_i hx
      simp only [Option.some.injEq] at he
      subst he
      exact g_nil hS ho hx (.inr (.inr (.inl ⟨_, _, _, _, rfl⟩)))
    · rename_i hx
      simp only [Option.some.injEq] at he
      subst he
      exact g_nil hS ho hx (.inr (.inr (.inr ⟨_, _, rfl⟩)))
    · cases he
  · rename_i ho
    split at he
    · rename_i hx
      simp only [Option.some.injEq] at he
      subst he
      exact g_alloc hT hS (hn id (by simp)) ho hx
    · cases he
  · rename_i ho
    split at he
    · rename_i hx
      split at he
      · rename_i hk
        simp only [Option.some.injEq] at he
        subst he
        exact g_box hS (hn id (by simp)) ho hx hk (AV.free_cells (free_eval hfr hx))
      · cases he
    · cases he
  · rename_i ho
    split at he
    · rename_i h1 h2 h3
      split at he
      · rename_i h4
        split at he
        · rename_i h5
          simp only [Option.some.injEq] at he
          subst he
          exact g_build hT hS ho h1 h2 h3 h4 h5
        · cases he
      · cases he
    · cases he
  · rename_i ho
    split at he
    · rename_i h1 h2
      split at he
      · rename_i h3
        split at he
        · rename_i h4
          simp only [Option.some.injEq] at he
          subst he
          exact g_buildSlice hT hS (hn id (by simp)) ho h1 h2 h3 h4.1 h4.2
        · cases he
      · cases he
    · cases he
  · rename_i ho
    split at he
    · rename_i h1 h2
      exact g_load hT hS ho h1 h2 he hp
    · cases he
  · rename_i ho
    split at he
    · rename_i h1 h2 h3
      exact g_store hT hS ho h1 h2 h3 he hp
    · cases he
  · rename_i ho
    split at he
    · rename_i h1 h2
      split at he
      · rename_i h3
        simp only [Option.some.injEq] at he
        subst he
        exact g_field hT hS ho h1 h2 h3
      · cases he
    · cases he
  · rename_i ho
    split at he
    · rename_i h1 h2 h3
      split at he
      · rename_i h4
        split at he
        · rename_i h5
          simp only [Option.some.injEq] at he
          subst he
          subst h5
          exact g_indexRow hT hS ho h1 h2 h3 h4 hp.1 hp.2
        · cases he
      · cases he
    · rename_i h1 h2 h3
      split at he
      · rename_i h5
        simp only [Option.some.injEq] at he
        subst he
        subst h5
        exact g_indexRo hT hS ho h1 h2 h3 hp.1 hp.2
      · cases he
    · cases he
  · rename_i ho
    split at he
    · rename_i h1 h2 h3
      simp only [Option.some.injEq] at he
      subst he
      exact g_index hT hS ho h1 h2 h3 hp.1 hp.2
    · cases he
  · rename_i ho
    split at he
    · rename_i h1 h2 h3
      simp only [Option.some.injEq] at he
      subst he
      exact g_make hT hS (hn id (by simp)) ho h1 h2 h3 hp
    · cases he
  · rename_i T x lo hi mx ho
    split at he
    · rename_i h1 h2 h3
      split at he
      · rename_i h4
        simp only [sliceAV, Option.some.injEq] at he
        subst he
        exact g_sliceStr hT hS ho h1 h2 h3 h4 hp
      · cases he
    · rename_i v l h hns h1 h2 h3
      split at he
      · rename_i h4 h5
        split at he
        · rename_i h6
          refine g_slice hT hS (hn id) ho h1 h2 h3 h4 (fun s hs => ?_) (fun s hs => ?_) he hp
          · subst hs; simp [slOf] at h5
          · rw [h5] at hs
            simp only [Option.some.injEq] at hs
            subst hs
            exact h6
        · cases he
      · cases he
    · cases he
  · rename_i ho
    split at he
    · rename_i h1
      split at he
      · rename_i h2
        simp only [Option.some.injEq] at he
        subst he
        exact g_extract hS ho h1 h2
      · cases he
    · cases he
  · rename_i ho
    split at he
    · rename_i f hf h1
      simp only [Option.some.injEq] at he
      subst he
      have : ∀ {x : Array Operand}, x.toList = [] → x = #[] := fun h => by simpa using h
      rw [this hf] at ho
      exact g_makeFunc hS ho h1
    · cases he
  · rename_i c ho
    split at he
    · rename_i b args hc ha
      obtain ⟨callee, cargs, cty⟩ := c
      simp only at hc ha
      subst hc
      unfold builtinE at he
      split at he
      · rename_i T x ht
        split at he
        · rename_i h1
          simp only [Option.some.injEq] at he
          subst he
          obtain ⟨y, hy, hy'⟩ := one_arg ha
          obtain rfl := list_arr1 ht
          obtain rfl := list_arr1 hy
          exact g_len hT hS ho hy' h1
        · cases he
      · rename_i T U x y ht
        obtain ⟨u, v, hu, h1, h2⟩ := two_args ha
        obtain rfl := list_arr2 ht
        obtain rfl := list_arr2 hu
        exact g_append hT hS (hn id) ho h1 h2 he hp
      · rename_i T U m n ht
        simp only [Option.some.injEq] at he
        subst he
        obtain ⟨u, v, hu, h1, h2⟩ := two_args ha
        obtain rfl := list_arr2 ht
        obtain rfl := list_arr2 hu
        exact g_min hS ho h1 h2
      · cases he
    · rename_i x args hc ha
      split at he
      · rename_i hx
        refine g_call hS ?_ ho hc hx ha he hp
        have he' := he
        unfold callE at he'
        simp only at he'
        split at he'
        · split at he'
          · simp only [Option.some.injEq] at he'
            subst he'
            exact hn
          · cases he'
        · cases he'
      · cases he
    · cases he
  · cases he

end
end Go.V

/- The by-value machine, part 18a: rows that are frozen ahead of an operation. -/
namespace Go.V
open Go

mutual
def AV.frz (lob : Nat → Option Ob) (fz : List Nat) : AV → AV
  | .row o => if fz.contains o then match lob o with
      | some (.row q p e t l) => .ro (p || q) e t l
      | _ => .undef
    else .row o
  | .agg cs => .agg (frzAll lob fz cs)
  | .tup cs => .tup (frzAll lob fz cs)
  | .clo f cs => .clo f (frzAll lob fz cs)
  | v => v
def frzAll (lob : Nat → Option Ob) (fz : List Nat) : List AV → List AV
  | [] => []
  | c :: cs => c.frz lob fz :: frzAll lob fz cs
end
def Ob.frz (lob : Nat → Option Ob) (fz : List Nat) : Ob → Ob
  | .box q T cs => .box q T (frzAll lob fz cs)
  | ob => ob
def frzSl (lob : Nat → Option Ob) (fz : List Nat) (sl : Nat → Option AV) (i : Nat) : Option AV :=
  match sl i with
  | some c => some (c.frz lob fz)
  | none => none
def frzOb (lob : Nat → Option Ob) (fz : List Nat) (i : Nat) : Option Ob :=
  if fz.contains i then none else match lob i with
    | some ob => some (ob.frz lob fz)
    | none => none
def fzOk (lob : Nat → Option Ob) (fz : List Nat) : Bool :=
  fz.all fun o => match lob o with
    | some (.row _ _ _ _ _) => true
    | _ => false
def effF (P : Program) (tab : Tab) (ci : Option CI) (fz : List Nat) (sl : Nat → Option AV) (lob : Nat → Option Ob) (id : Nat) (op : Op) : Option Eff :=
  match fz with
  | [] => eff P tab ci sl lob id op
  | z :: zs => if fzOk lob (z :: zs) then match eff P tab ci (frzSl lob (z :: zs) sl) (frzOb lob (z :: zs)) id op with
      | some e => some { e with del := (z :: zs) ++ e.del, rd := (z :: zs) ++ e.rd }
      | none => none
    else none

def frzM (M : Mem) (fz : List Nat) : Mem :=
  ⟨fun b => match M.own b with
    | some o => if fz.contains o then none else some o
    | none => none, M.ρ, M.w⟩

section
variable {P : Program} {tab : Tab} {E : Env} {st : VS} {a : Act} {M : Mem} {o : Oper} {id : Nat} {ci : Option CI} {fz : List Nat}

theorem frzM_own {b o : Nat} (h : (frzM M fz).own b = some o) : M.own b = some o ∧ fz.contains o = false := by
  simp only [frzM] at h
  split at h
  · rename_i x hx
    split at h
    · cases h
    · rename_i hn
      simp only [Option.some.injEq] at h
      subst h
      exact ⟨hx, by simpa using hn⟩
  · cases h
theorem frzM_some {b o : Nat} (h : M.own b = some o) (hn : fz.contains o = false) : (frzM M fz).own b = some o := by
  simp only [frzM, h, hn]
  simp
theorem frzM_none {b : Nat} (h : M.own b = none) : (frzM M fz).own b = none := by
  simp only [frzM, h]
theorem Fz_f {B : Rg} {p p' : Bool} (hp : p = true → p' = true) {b : Nat} (h : Fz B M p b) : Fz B (frzM M fz) p' b := by
  refine ⟨frzM_none h.1, ?_⟩
  rcases h.2 with h | ⟨h1, h2⟩
  · exact .inl h
  · exact .inr ⟨hp h1, h2⟩

mutual
theorem frz_v (hS : SRm E st a M) (hf : fzOk st.ob' fz = true) : ∀ {c : AV} {v : Value}, VR E.B M c v → VR E.B (frzM M fz) (c.frz st.ob' fz) v
  | .row x, _, .row hv => by
    simp only [AV.frz]
    split
    · rename_i hx
      split
      · rename_i q p e t l hob
        have hor := hS.obs' x _ hob
        have := row_reads (A := Fz E.B (frzM M fz) (p || q)) hor (fun b hb => Fz_f (fun h => by simp [h]) hb) (fun b _ hb => ⟨by simp only [frzM, hb, hx, if_true], by
          obtain ⟨_, _, _, hq, _⟩ := hor
          by_cases hq1 : q = true
          · rcases hS.inO' b x hb with h | h
            · exact .inl h
            · exact .inr ⟨by simp [hq1], h⟩
          · exact .inl (hq (by simpa using hq1) b hb)⟩)
        rw [hv] at this
        exact .ro this
      · exact .undef _
    · exact .row hv
  | .box x off, _, .box _ hv => .box _ hv
  | .elt x sz i off, _, .elt _ _ _ hv => .elt _ _ _ hv
  | .ro p e t l, _, .ro hv => .ro (hv.mono fun b hb _ => ⟨Fz_f (fun h => h) hb, rfl⟩)
  | .rel p t x off, _, .rel h2 h3 h4 => .rel (Fz_f (fun h => h) h2) (h3.mono fun b hb _ => ⟨Fz_f (fun h => h) hb, rfl⟩) h4
  | .agg cs, _, .agg hv => by simp only [AV.frz]; exact .agg (frz_vs hS hf hv)
  | .tup cs, _, .tup hv => by simp only [AV.frz]; exact .tup (frz_vs hS hf hv)
  | .clo f cs, _, .clo _ hv => by simp only [AV.frz]; exact .clo _ (frz_vs hS hf hv)
  | .int k n, _, .int _ _ => .int _ _
  | .byte x, _, .byte _ => .byte _
  | .bool b, _, .bool _ => .bool _
  | .str s, _, .str _ => .str _
  | .nil, _, .nil => .nil
  | .nilp, _, .nilp => .nilp
  | .undef, _, .undef _ => .undef _
theorem frz_vs (hS : SRm E st a M) (hf : fzOk st.ob' fz = true) : ∀ {cs : List AV} {vs : List Value}, VRs E.B M cs vs → VRs E.B (frzM M fz) (frzAll st.ob' fz cs) vs
  | [], _, .nil => .nil
  | _ :: _, _, .cons h1 h2 => .cons (frz_v hS hf h1) (frz_vs hS hf h2)
end

def VS.frz (st : VS) (fz : List Nat) : VS := ⟨frzSl st.ob' fz st.sl', frzOb st.ob' fz⟩

theorem frz_sr (hS : SRm E st a M) (hf : fzOk st.ob' fz = true) : SRm E (st.frz fz) a (frzM M fz) := by
  refine ⟨⟨hS.fr.size, fun b hb h0 => ?_, hS.fr.ids, fun b o h => hS.fr.bound b o (frzM_own h).1, fun b o h => hS.fr.inO b o (frzM_own h).1, hS.fr.os, hS.fr.tape, hS.fr.output⟩, fun i c hc => ?_, fun o ob ho => ?_, fun b o h => ?_, hS.tmps, hS.defers⟩
  · obtain ⟨h1, h2⟩ := hS.fr.old b hb h0
    exact ⟨frzM_none h1, h2⟩
  · simp only [VS.frz, frzSl] at hc
    split at hc
    · rename_i d hd
      simp only [Option.some.injEq] at hc
      subst hc
      obtain ⟨v, h1, h2⟩ := hS.slots i d hd
      exact ⟨v, h1, frz_v hS hf h2⟩
    · cases hc
  · simp only [VS.frz, frzOb] at ho
    split at ho
    · cases ho
    · rename_i hn
      have hn : fz.contains o = false := by simpa using hn
      split at ho
      · rename_i ob0 hob
        simp only [Option.some.injEq] at ho
        subst ho
        have hor := hS.obs o _ hob
        cases ob0 with
        | box q T cs =>
          obtain ⟨b, vs, g1, g2, g3, g4, g5⟩ := hor
          exact ⟨b, vs, g1, frzM_some g2 hn, fun h b' hb' => g3 h b' (frzM_own hb').1, g4, frz_vs hS hf g5⟩
        | row q p e t l =>
          obtain ⟨xs, g1, g2, g3, g4⟩ := hor
          exact ⟨xs, g1, fun g hg => frzM_some (g2 g hg) hn, fun h b' hb' => g3 h b' (frzM_own hb').1, g4.mono fun b hb _ => ⟨Fz_f (fun h => h) hb, rfl⟩⟩
      · cases ho
  · obtain ⟨h1, h2⟩ := frzM_own h
    obtain ⟨ob, h3⟩ := hS.own_in b o h1
    exact ⟨ob.frz st.ob' fz, by simp only [VS.frz, frzOb, h2, h3]; simp⟩

mutual
theorem AV.free_frz {lob : Nat → Option Ob} {nw : List Nat} : ∀ {c : AV}, c.free nw = true → (c.frz lob fz).free nw = true
  | .row o, h => by
    simp only [AV.frz]
    split
    · split <;> rfl
    · exact h
  | .box _ _, h => h
  | .elt _ _ _ _, h => h
  | .ro _ _ _ _, h => h
  | .rel _ _ _ _, h => h
  | .agg cs, h => by simp only [AV.frz, AV.free] at h ⊢; exact freeAll_frz h
  | .tup cs, h => by simp only [AV.frz, AV.free] at h ⊢; exact freeAll_frz h
  | .clo f cs, h => by simp only [AV.frz, AV.free] at h ⊢; exact freeAll_frz h
  | .int _ _, h => h
  | .byte _, h => h
  | .bool _, h => h
  | .str _, h => h
  | .nil, h => h
  | .nilp, h => h
  | .undef, h => h
theorem freeAll_frz {lob : Nat → Option Ob} {nw : List Nat} : ∀ {cs : List AV}, freeAll nw cs = true → freeAll nw (frzAll lob fz cs) = true
  | [], h => h
  | _ :: _, h => by
    simp only [frzAll, freeAll, Bool.and_eq_true] at h ⊢
    exact ⟨AV.free_frz h.1, freeAll_frz h.2⟩
end

theorem effF_goes (hT : TabOk P tab) (hS : SRm E st a M) {e : Eff} (he : effF P tab ci fz st.sl' st.ob' id o.op = some e) (hn : ∀ y, y ∈ e.new → st.ob' y = none) (hfr : ∀ i c, st.sl' i = some c → c.free e.new = true) (hp : e.obl) : Goes P E a M o e := by
  unfold effF at he
  split at he
  · exact eff_goes hT hS he hn hfr hp
  · rename_i z zs
    split at he
    · rename_i hf
      split at he
      · rename_i e0 he0
        simp only [Option.some.injEq] at he
        subst he
        have hg := eff_goes (st := st.frz (z :: zs)) hT (frz_sr hS hf) he0 (fun y hy => by
          have := hn y hy
          simp only [VS.frz, frzOb, this]
          split <;> rfl) (fun i c hc => by
          simp only [VS.frz, frzSl] at hc
          split at hc
          · rename_i d hd
            simp only [Option.some.injEq] at hc
            subst hc
            exact AV.free_frz (hfr i d hd)
          · cases hc) hp
        intro K Q hk
        refine hg K Q fun v M' hd => hk v M' ⟨⟨hd.stays.size, fun b hb h0 => hd.stays.fro b hb (frzM_none h0), fun b x hb hx => ?_, hd.stays.os, hd.stays.tape, hd.stays.output⟩, hd.ρ, hd.val, hd.put, hd.bound, fun b x hb => ?_⟩
        · have hx1 : (z :: zs).contains x = false := by
            cases h : (z :: zs).contains x with
            | false => rfl
            | true => exact absurd (.inl (List.mem_append_left _ (by simpa using h))) hx
          refine hd.stays.obs b x (frzM_some hb hx1) fun h => hx ?_
          rcases h with h | h
          · exact .inl (List.mem_append_right _ h)
          · exact .inr h
        · rcases hd.own_in b x hb with h | ⟨h1, h2⟩
          · exact .inl h
          · obtain ⟨h3, h4⟩ := frzM_own h1
            refine .inr ⟨h3, fun hm => ?_⟩
            rcases List.mem_append.1 hm with h | h
            · have : (z :: zs).contains x = true := by simpa using h
              rw [h4] at this; cases this
            · exact h2 h
      · cases he
    · cases he
end
end Go.V
