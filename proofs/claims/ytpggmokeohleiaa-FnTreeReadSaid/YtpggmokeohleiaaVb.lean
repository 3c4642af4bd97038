/- The by-value reading of regions, loops and calls. No condition. -/
import Derived.Test.YtpggmokeohleiaaVa
import Derived.LoopN
import Derived.Laws.StructEq
import Derived.Below
set_option linter.unusedVariables false
set_option linter.unusedSimpArgs false
set_option linter.unusedSectionVars false

/- The by-value machine, part 19: steps, and regions in the order of the text. -/
namespace Go.V
open Go

def VS.step (st : VS) (dst : Option Nat) (e : Eff) : VS :=
  ⟨fun i => if dst = some i then some e.val else st.sl' i,
   fun o => match e.put.lookup o with
     | some ob => some ob
     | none => if e.del.contains o then none else st.ob' o⟩

section
variable {P : Program} {tab : Tab} {E : Env} {st : VS} {a : Act} {M M' : Mem} {o : Oper} {e : Eff} {ops : Array Oper} {Q : Exit → Act → World → Prop}

/-- What is new is new. -/
structure Fresh (I0 : Nat) (st : VS) (nw : List Nat) : Prop where
  ge : ∀ y, y ∈ nw → I0 ≤ y
  none : ∀ y, y ∈ nw → st.ob' y = none
  sl : ∀ i c, st.sl' i = some c → c.free nw = true
  ob : ∀ o ob, st.ob' o = some ob → ob.free nw = true

theorem lookup_key {α : Type} {l : List (Nat × α)} {x : Nat} : x ∈ l.map (·.1) ↔ ∃ y, l.lookup x = some y := by
  induction l with
  | nil => simp
  | cons a l ih =>
    obtain ⟨k, v⟩ := a
    simp only [List.map_cons, List.mem_cons, List.lookup_cons]
    split
    · rename_i h
      have : x = k := by simpa using h
      simp [this]
    · rename_i h
      have : x ≠ k := by simpa using h
      simp [this, ih]

theorem step_sr {v : Value} {dst : Option Nat} (hS : SRm E st a M) (hd : Done E M M' e v) (hn : Fresh E.I0 st e.new) (hdst : ∀ d, dst = some d → d < E.nt) : SRm E (st.step dst e) (a.put dst v) M' := by
  obtain ⟨hs, hρ, hval, hput, hbound, hown⟩ := hd
  have hfr := hS.fr
  refine ⟨⟨Nat.le_trans hfr.size hs.size, fun b hb hb0 => ?_, fun i hi => ?_, fun b o' h => (hbound b o' h).1, fun b o' h => (hbound b o' h).2, hs.os.trans hfr.os, hs.tape.trans hfr.tape, hs.output.trans hfr.output⟩, fun i c hc => ?_, fun o' ob ho => ?_, fun b o' hb => ?_, ?_, ?_⟩
  · obtain ⟨h1, h2⟩ := hfr.old b hb hb0
    obtain ⟨h3, h4⟩ := hs.fro b (by have := hfr.size; omega) h1
    exact ⟨h3, h4.trans h2⟩
  · rw [hρ i (fun h => by have := hn.ge i h; omega)]
    exact hfr.ids i hi
  · simp only [VS.step] at hc
    split at hc
    · rename_i hd
      simp only [Option.some.injEq] at hc
      subst hc hd
      have := hdst i rfl
      rw [← hS.tmps] at this
      exact ⟨v, by simp [Act.put, this], hval⟩
    · rename_i hd
      obtain ⟨u, h1, h2⟩ := hS.slots i c hc
      refine ⟨u, ?_, h2.stays hs hρ (hn.sl i c hc)⟩
      cases dst with
      | none => exact h1
      | some d =>
        have hne : d ≠ i := fun h => hd (by rw [h])
        simpa [Act.put, Array.getElem?_setIfInBounds_ne hne] using h1
  · simp only [VS.step] at ho
    split at ho
    · rename_i ob' hl
      simp only [Option.some.injEq] at ho
      subst ho
      exact hput _ _ (lookup_mem hl)
    · rename_i hl
      split at ho
      · cases ho
      · rename_i hdel
        have hk : o' ∉ e.put.map (·.1) := fun h => by
          obtain ⟨y, hy⟩ := lookup_key.1 h
          rw [hl] at hy; cases hy
        refine (hS.obs o' ob ho).stays hs hρ (fun h => by have := hn.none o' h; rw [this] at ho; cases ho) (hn.ob o' ob ho) ?_ fun b hb => ?_
        · rintro (h | h)
          · exact hdel (by simpa using h)
          · exact hk h
        · rcases hown b o' hb with h | h
          · exact absurd h hk
          · exact h.1
  · rcases hown b o' hb with h | ⟨h1, h2⟩
    · obtain ⟨y, hy⟩ := lookup_key.1 h
      exact ⟨y, by simp [VS.step, hy]⟩
    · obtain ⟨ob, h3⟩ := hS.own_in b o' h1
      simp only [VS.step]
      cases hl : e.put.lookup o' with
      | some y => exact ⟨y, rfl⟩
      | none =>
        have : e.del.contains o' = false := by simpa using h2
        exact ⟨ob, by simp only [this]; simpa using h3⟩
  · cases dst <;> simp [Act.put, hS.tmps]
  · cases dst <;> simp [Act.put, hS.defers]

/-! ### Guards -/
/-- What a guard's operation gave: a truth value, or none. -/
def guardOf (ops : Array Oper) (sl : Nat → Option AV) (g : Nat) : Option (Option Bool) :=
  match (ops[g]?).bind (·.dst) with
  | some t => match sl t with
    | some (.bool b) => some (some b)
    | some (.tup _) => some none
    | _ => none
  | none => some none
def wantedA (ops : Array Oper) (sl : Nat → Option AV) (o : Oper) : Option Bool :=
  match o.guard with
  | none => some true
  | some (g, want) => match guardOf ops sl g with
    | some y => some (y == some want)
    | none => none

theorem wantedA_spec (hS : SRm E st a M) {b : Bool} (h : wantedA ops st.sl' o = some b) : Region.wanted o (yielded ops a.tmps) = b := by
  unfold wantedA at h
  unfold Region.wanted
  cases hg : o.guard with
  | none => rw [hg] at h; simpa using h
  | some x =>
    obtain ⟨g, want⟩ := x
    rw [hg] at h
    simp only at h
    split at h
    · rename_i y hy
      simp only [Option.some.injEq] at h
      subst h
      have : yielded ops a.tmps g = y := by
        unfold guardOf at hy
        unfold yielded
        split at hy
        · rename_i t ht
          rw [ht]
          split at hy
          · rename_i b hb
            simp only [Option.some.injEq] at hy
            subst hy
            obtain ⟨v, h1, h2⟩ := hS.slots t _ hb
            cases h2
            simp [h1]
          · rename_i vs hb
            simp only [Option.some.injEq] at hy
            subst hy
            obtain ⟨v, h1, h2⟩ := hS.slots t _ hb
            cases h2
            simp [h1]
          · cases hy
        · rename_i ht
          simp only [Option.some.injEq] at hy
          subst hy
          rw [ht]; rfl
      simp only [this]
    · cases h

/-! ### One operation of a region -/
structure OI where
  id : Nat := 0
  ci : Option CI := none
  kn : Option Bool := none
  fp : List Nat := []
  fz : List Nat := []
  pt : Option (Nat × Nat) := none

/-- A truth value that is known. -/
def knownE (kn : Option Bool) (e : Eff) : Option Eff :=
  match kn with
  | none => some e
  | some b => match e.val with
    | .bool c => some { e with val := .bool b, obl := e.obl ∧ c = b }
    | _ => none

def opEff (P : Program) (tab : Tab) (ops : Array Oper) (oi : OI) (sl : Nat → Option AV) (lob : Nat → Option Ob) (o : Oper) : Option Eff :=
  match wantedA ops sl o with
  | some true => match effF P tab oi.ci oi.fz sl lob oi.id o.op with
    | some e => knownE oi.kn e
    | none => none
  | some false => some { val := .tup [] }
  | none => none

theorem knownE_spec {kn : Option Bool} {e e' : Eff} (h : knownE kn e = some e') (hp : e'.obl) : e.obl ∧ e'.new = e.new ∧ ∀ {M M' : Mem} {v : Value}, Done E M M' e v → Done E M M' e' v := by
  unfold knownE at h
  split at h
  · simp only [Option.some.injEq] at h
    subst h
    exact ⟨hp, rfl, fun h => h⟩
  · split at h
    · rename_i b c hv
      simp only [Option.some.injEq] at h
      subst h
      obtain ⟨h1, rfl⟩ := hp
      refine ⟨h1, rfl, fun hd => ⟨hd.stays, hd.ρ, ?_, hd.put, hd.bound, hd.own_in⟩⟩
      have := hd.val
      rw [hv] at this
      exact this
    · cases h

theorem op_wp {i : Nat} {oi : OI} (hT : TabOk P tab) (hS : SRm E st a M) (ho : ops[i]? = some o) (he : opEff P tab ops oi st.sl' st.ob' o = some e) (hn : Fresh E.I0 st e.new) (hdst : ∀ d, o.dst = some d → d < E.nt) (hp : e.obl)
    {K : Act → World → Prop} (hk : ∀ a' w', SR E (st.step o.dst e) a' w' → K a' w') : wpOp P ops Q i K a M.w := by
  unfold wpOp
  simp only [ho]
  unfold opEff at he
  split at he
  · rename_i hw
    rw [wantedA_spec hS hw]
    split at he
    · rename_i e' he'
      obtain ⟨h1, h2, h3⟩ := knownE_spec (E := E) he hp
      have hg := effF_goes (P := P) hT hS he' (h2 ▸ hn.none) (h2 ▸ hn.sl) h1
      refine .inl (hg K Q fun v M' hd => hk _ _ ⟨M'.own, M'.ρ, step_sr hS (h3 hd) hn hdst⟩)
    · cases he
  · rename_i hw
    rw [wantedA_spec hS hw]
    simp only [Option.some.injEq] at he
    subst he
    simp only [Bool.false_eq_true, if_false]
    refine hk _ _ ⟨M.own, M.ρ, step_sr hS ⟨Stays.refl _ _, fun _ _ => rfl, .tup .nil, (fun _ _ h => by cases h), (fun b o h => ⟨hS.fr.bound b o h, hS.fr.inO b o h⟩), fun b o h => .inr ⟨h, by simp⟩⟩ hn hdst⟩
  · cases he

end

/-! ### States as lists -/
structure LS where
  sl : List (Nat × AV)
  ob : List (Nat × Ob)
def LS.vs (st : LS) : VS := ⟨fun i => st.sl.lookup i, fun i => st.ob.lookup i⟩

def setK {α : Type} (k : Nat) (v : α) : List (Nat × α) → List (Nat × α)
  | [] => [(k, v)]
  | (a, b) :: l => if k = a then (k, v) :: l else if k < a then (k, v) :: (a, b) :: l else (a, b) :: setK k v l
def delK {α : Type} (ks : List Nat) : List (Nat × α) → List (Nat × α)
  | [] => []
  | (a, b) :: l => if ks.contains a then delK ks l else (a, b) :: delK ks l
def putK {α : Type} : List (Nat × α) → List (Nat × α) → List (Nat × α)
  | [], l => l
  | (k, v) :: r, l => setK k v (putK r l)
def LS.step (st : LS) (dst : Option Nat) (e : Eff) : LS :=
  ⟨match dst with
    | some d => setK d e.val st.sl
    | none => st.sl, putK e.put (delK e.del st.ob)⟩

theorem lookup_setK {α : Type} {k : Nat} {v : α} {x : Nat} : ∀ {l : List (Nat × α)}, (setK k v l).lookup x = if k = x then some v else l.lookup x
  | [] => by
    simp only [setK, List.lookup_cons, List.lookup_nil]
    by_cases h : k = x
    · simp [h]
    · have : (x == k) = false := by simpa using fun h' => h h'.symm
      simp [h, this]
  | (a, b) :: l => by
    simp only [setK]
    by_cases h : k = x
    · subst h
      split
      · simp
      · split
        · simp
        · rename_i h1 _
          have : (k == a) = false := by simpa using h1
          simp [List.lookup_cons, this, lookup_setK]
    · have hx : (x == k) = false := by simpa using fun h' => h h'.symm
      split
      · rename_i h1
        subst h1
        simp [List.lookup_cons, hx, h]
      · split
        · simp [List.lookup_cons, hx, h]
        · simp [List.lookup_cons, lookup_setK, h]
theorem lookup_delK {α : Type} {ks : List Nat} {x : Nat} : ∀ {l : List (Nat × α)}, (delK ks l).lookup x = if ks.contains x then none else l.lookup x
  | [] => by simp [delK]
  | (a, b) :: l => by
    simp only [delK]
    split
    · rename_i h
      rw [lookup_delK]
      simp only [List.lookup_cons]
      split
      · rfl
      · rename_i hx
        split
        · rename_i he
          have : x = a := by simpa using he
          subst this
          exact absurd h hx
        · rfl
    · rename_i h
      simp only [List.lookup_cons]
      rw [lookup_delK]
      split
      · rename_i he
        have : x = a := by simpa using he
        subst this
        rw [if_neg h]
      · rfl
theorem lookup_putK {α : Type} {x : Nat} : ∀ {r l : List (Nat × α)}, (putK r l).lookup x = match r.lookup x with | some y => some y | none => l.lookup x
  | [], l => by simp [putK]
  | (k, v) :: r, l => by
    simp only [putK, lookup_setK, List.lookup_cons]
    by_cases h : k = x
    · subst h; simp
    · have hx : (x == k) = false := by simpa using fun h' => h h'.symm
      simp [h, hx, lookup_putK]

theorem LS.step_vs {st : LS} {dst : Option Nat} {e : Eff} : (st.step dst e).vs = st.vs.step dst e := by
  unfold LS.step LS.vs VS.step
  congr 1
  · funext i
    cases dst with
    | none => simp
    | some d => simp [lookup_setK]
  · funext i
    simp only [lookup_putK, lookup_delK]
    cases e.put.lookup i <;> rfl

def LS.freshB (I0 : Nat) (st : LS) (nw : List Nat) : Bool :=
  nw.isEmpty || (nw.all (fun y => decide (I0 ≤ y)) && st.sl.all (fun x => x.2.free nw) && st.ob.all (fun x => !nw.contains x.1 && x.2.free nw))

mutual
theorem AV.free_nil : ∀ {c : AV}, c.free [] = true
  | .row _ => rfl
  | .box _ _ => rfl
  | .elt _ _ _ _ => rfl
  | .agg cs => by simpa only [AV.free] using freeAll_nil
  | .tup cs => by simpa only [AV.free] using freeAll_nil
  | .clo _ cs => by simpa only [AV.free] using freeAll_nil
  | .int _ _ => rfl
  | .byte _ => rfl
  | .bool _ => rfl
  | .str _ => rfl
  | .nil => rfl
  | .nilp => rfl
  | .undef => rfl
  | .ro _ _ _ _ => rfl
  | .rel _ _ _ _ => rfl
theorem freeAll_nil : ∀ {cs : List AV}, freeAll [] cs = true
  | [] => rfl
  | c :: cs => by simp only [freeAll, Bool.and_eq_true]; exact ⟨AV.free_nil, freeAll_nil⟩
end
theorem Ob.free_nil : ∀ {ob : Ob}, ob.free [] = true
  | .box _ _ _ => freeAll_nil
  | .row _ _ _ _ _ => rfl

theorem freshB_spec {I0 : Nat} {st : LS} {nw : List Nat} (h : st.freshB I0 nw = true) : Fresh I0 st.vs nw := by
  simp only [LS.freshB, Bool.or_eq_true, List.isEmpty_iff, Bool.and_eq_true, List.all_eq_true, decide_eq_true_eq, Bool.not_eq_true'] at h
  rcases h with rfl | ⟨⟨h1, h2⟩, h3⟩
  · exact ⟨by simp, by simp, fun _ _ _ => AV.free_nil, fun _ _ _ => Ob.free_nil⟩
  · refine ⟨h1, fun y hy => ?_, fun i c hc => h2 _ (lookup_mem hc), fun o ob ho => (h3 _ (lookup_mem ho)).2⟩
    cases hl : st.vs.ob' y with
    | none => rfl
    | some ob =>
      have := (h3 _ (lookup_mem hl)).1
      simp only [List.contains_eq_mem, decide_eq_false_iff_not] at this
      exact absurd hy this

/-! ### In the order of the text -/
def AllP : List Prop → Prop
  | [] => True
  | p :: r => p ∧ AllP r

def dstOk (nt : Nat) : Option Nat → Bool
  | none => true
  | some d => decide (d < nt)

/-- What is run one after the other: operation by operation with what it is told. -/
def runT (P : Program) (tab : Tab) (nt I0 : Nat) (ops : Array Oper) : List (Oper × OI) → LS → Option (LS × List Prop)
  | [], st => some (st, [])
  | (o, oi) :: r, st => match opEff P tab ops oi st.vs.sl' st.vs.ob' o with
    | some e => if st.freshB I0 e.new && dstOk nt o.dst then match runT P tab nt I0 ops r (st.step o.dst e) with
        | some (st', ps) => some (st', e.obl :: ps)
        | none => none
      else none
    | none => none

section
variable {P : Program} {tab : Tab} {E : Env} {a : Act} {w : World} {ops : Array Oper} {Q : Exit → Act → World → Prop}

theorem runT_wp (hT : TabOk P tab) : ∀ {l : List (Oper × OI)} {k : Nat} {st st' : LS} {ps : List Prop} {a : Act} {w : World}, (∀ j x, l[j]? = some x → ops[k + j]? = some x.1) → SR E st.vs a w → runT P tab E.nt E.I0 ops l st = some (st', ps) → AllP ps →
    (∀ a' w', SR E st'.vs a' w' → Q .normal a' w') → wpOps P ops Q (List.range' k l.length) a w
  | [], k, st, st', ps, a, w, _, hS, h, _, hQ => by
    simp only [runT, Option.some.injEq, Prod.mk.injEq] at h
    obtain ⟨rfl, rfl⟩ := h
    exact hQ a w hS
  | (o, oi) :: l, k, st, st', ps, a, w, hl, hS, h, hp, hQ => by
    simp only [runT] at h
    split at h
    · rename_i e he
      split at h
      · rename_i hok
        split at h
        · rename_i st1 ps1 hr
          simp only [Option.some.injEq, Prod.mk.injEq] at h
          obtain ⟨rfl, rfl⟩ := h
          simp only [Bool.and_eq_true] at hok
          obtain ⟨own, ρ, hS⟩ := hS
          simp only [List.length_cons, List.range'_succ]
          rw [wpOps_cons]
          refine op_wp (M := ⟨own, ρ, w⟩) hT hS (by simpa using hl 0 _ rfl) he (freshB_spec hok.1) (fun d hd => ?_) hp.1 fun a' w' hS' => ?_
          · have := hok.2
            rw [hd] at this
            simpa [dstOk] using this
          · refine runT_wp hT (fun j x hx => ?_) (by rw [LS.step_vs]; exact hS') hr hp.2 hQ
            have := hl (j + 1) x (by simpa using hx)
            rwa [show k + 1 + j = k + (j + 1) by omega]
        · cases h
      · cases h
    · cases h

/-- A region in the order of the text. -/
theorem region_text {id : Nat} {ois : List OI} {st st' : LS} {ps : List Prop} (hT : TabOk P tab) (hlen : ois.length = ops.size) (hS : SR E st.vs a w) (h : runT P tab E.nt E.I0 ops (ops.toList.zip ois) st = some (st', ps)) (hp : AllP ps)
    (hQ : ∀ a' w', SR E st'.vs a' w' → Q .normal a' w') : (Code.region id ops false).wp P Q a w := by
  refine wp_region ?_
  have hl : (ops.toList.zip ois).length = ops.size := by simp [hlen]
  have := runT_wp (k := 0) (Q := Q) hT (fun j x hx => ?_) hS h hp hQ
  · rw [hl, ← List.range_eq_range'] at this
    exact this
  · have := List.getElem?_zip_eq_some.1 hx
    simpa using this.1

end
end Go.V

/- The by-value machine, part 20: an effect that is told from a part of a state is the effect. -/
namespace Go.V
open Go

section
variable {P : Program} {tab : Tab} {sl sl2 : Nat → Option AV} {lob lob2 : Nat → Option Ob} {id : Nat}

theorem evalO_mono (hs : ∀ i c, sl i = some c → sl2 i = some c) {x : Operand} {c : AV} (h : evalO sl x = some c) : evalO sl2 x = some c := by
  cases x with
  | tmp t => exact hs t c h
  | const v => exact h
  | global g => exact h
  | func f => exact h
theorem evalAll_mono (hs : ∀ i c, sl i = some c → sl2 i = some c) : ∀ {xs : List Operand} {cs : List AV}, evalAll sl xs = some cs → evalAll sl2 xs = some cs
  | [], cs, h => h
  | x :: xs, cs, h => by
    simp only [evalAll] at h ⊢
    split at h
    · rename_i h1 h2
      rw [evalO_mono hs h1, evalAll_mono hs h2]
      exact h
    · cases h
theorem evalParts_mono (hs : ∀ i c, sl i = some c → sl2 i = some c) : ∀ {xs : List (Nat × Operand)} {cs : List (Nat × AV)}, evalParts sl xs = some cs → evalParts sl2 xs = some cs
  | [], cs, h => h
  | (i, x) :: xs, cs, h => by
    simp only [evalParts] at h ⊢
    split at h
    · rename_i h1 h2
      rw [evalO_mono hs h1, evalParts_mono hs h2]
      exact h
    · cases h
theorem optInt_mono (hs : ∀ i c, sl i = some c → sl2 i = some c) {x : Option Operand} {c : Option Int} (h : optInt sl x = some c) : optInt sl2 x = some c := by
  cases x with
  | none => exact h
  | some x =>
    simp only [optInt] at h ⊢
    split at h
    · rename_i h1
      rw [evalO_mono hs h1]
      exact h
    · cases h

theorem parse_mono (ho : ∀ o ob, lob o = some ob → lob2 o = some ob) : ∀ {t : Ty} {cs : List AV} {r : t.T × Bool × List Nat}, parse lob t cs = some r → parse lob2 t cs = some r
  | .int _, _, _, h => h
  | .byte, _, _, h => h
  | .bool, _, _, h => h
  | .str, _, _, h => h
  | .slice e t, cs, r, h => by
    simp only [parse] at h ⊢
    split at h
    · exact h
    · exact h
    · split at h
      · rename_i hob
        rw [ho _ _ hob]
        exact h
      · cases h
    · cases h
  | .pair a b, cs, r, h => by
    simp only [parse] at h ⊢
    split at h
    · rename_i h1 h2
      rw [parse_mono ho h1, parse_mono ho h2]
      exact h
    · cases h
theorem upd_mono (ho : ∀ o ob, lob o = some ob → lob2 o = some ob) : ∀ {t : Ty} {off n : Nat} {cs : List AV} {x : t.T} {r : t.T × Bool × List Nat}, upd lob t off n cs x = some r → upd lob2 t off n cs x = some r
  | .int _, _, _, _, _, _, h => h
  | .byte, _, _, _, _, _, h => h
  | .bool, _, _, _, _, _, h => h
  | .str, _, _, _, _, _, h => h
  | .slice e t, off, n, cs, x, r, h => by
    simp only [upd] at h ⊢
    split at h
    · rename_i h1
      rw [if_pos h1]
      exact parse_mono ho h
    · cases h
  | .pair a b, off, n, cs, x, r, h => by
    simp only [upd] at h ⊢
    split at h
    · rename_i h1
      rw [if_pos h1]
      exact parse_mono ho h
    · rename_i h1
      rw [if_neg h1]
      split at h
      · rename_i h2
        rw [if_pos h2]
        split at h
        · rename_i h3
          rw [upd_mono ho h3]
          exact h
        · cases h
      · rename_i h2
        rw [if_neg h2]
        split at h
        · rename_i h4
          rw [if_pos h4]
          split at h
          · rename_i h3
            rw [upd_mono ho h3]
            exact h
          · cases h
        · cases h
theorem parseParts_mono (ho : ∀ o ob, lob o = some ob → lob2 o = some ob) {t : Ty} : ∀ {i : Nat} {ps : List (Nat × AV)} {r : List t.T × Bool × List Nat}, parseParts lob t i ps = some r → parseParts lob2 t i ps = some r
  | _, [], _, h => h
  | i, (j, v) :: ps, r, h => by
    simp only [parseParts] at h ⊢
    split at h
    · rename_i h1
      rw [if_pos h1]
      split at h
      · rename_i h2 h3
        rw [parse_mono ho h2, parseParts_mono ho h3]
        exact h
      · cases h
    · cases h
theorem slOf_mono (ho : ∀ o ob, lob o = some ob → lob2 o = some ob) {x : AV} {v : SlV} (h : slOf lob x = some v) : slOf lob2 x = some v := by
  unfold slOf at h ⊢
  split at h
  · exact h
  · split at h
    · rename_i hob
      rw [ho _ _ hob]
      exact h
    · cases h
  · cases h
theorem srcOf_mono (ho : ∀ o ob, lob o = some ob → lob2 o = some ob) {T U : TypeId} {t : Ty} {y : AV} {r : Bool × List t.T × List Nat} (h : srcOf tab lob T U t y = some r) : srcOf tab lob2 T U t y = some r := by
  unfold srcOf at h ⊢
  split at h
  · exact h
  · exact h
  · rename_i hn hs
    skip
    split at h
    · rename_i h1
      rw [if_pos h1]
      split at h
      · rename_i h2
        rw [slOf_mono ho h2]
        exact h
      · cases h
    · cases h
theorem appendAV_mono (ho : ∀ o ob, lob o = some ob → lob2 o = some ob) {T U : TypeId} {x y : AV} {e : Eff} (h : appendAV tab lob id T U x y = some e) : appendAV tab lob2 id T U x y = some e := by
  unfold appendAV at h ⊢
  split at h
  · cases h
  · split at h
    · cases h
    · rename_i h1
      rw [srcOf_mono ho h1]
      simp only
      split at h
      · exact h
      · split at h
        · rename_i hob
          rw [ho _ _ hob]
          exact h
        · cases h
      · cases h
theorem lenAV_mono (ho : ∀ o ob, lob o = some ob → lob2 o = some ob) {T : TypeId} {x : AV} {e : Int × List Nat} (h : lenAV tab lob T x = some e) : lenAV tab lob2 T x = some e := by
  unfold lenAV at h ⊢
  split at h
  · exact h
  · split at h
    · exact h
    · skip
      split at h
      · rename_i h1
        rw [slOf_mono ho h1]
        exact h
      · cases h
  · cases h
theorem sliceAV_mono (ho : ∀ o ob, lob o = some ob → lob2 o = some ob) {x : AV} {a b : Option Int} {e : Eff} (h : sliceAV lob id x a b = some e) : sliceAV lob2 id x a b = some e := by
  unfold sliceAV at h ⊢
  split at h
  · exact h
  · exact h
  · split at h
    · rename_i hob
      rw [ho _ _ hob]
      exact h
    · cases h
  · cases h
theorem convAV_mono (ho : ∀ o ob, lob o = some ob → lob2 o = some ob) {S D : TypeId} {x : AV} {e : Eff} (h : convAV tab lob S D x = some e) : convAV tab lob2 S D x = some e := by
  unfold convAV at h ⊢
  split at h
  · exact h
  · split at h
    · rename_i h1
      rw [if_pos h1]
      split at h
      · exact h
      · skip
        split at h
        · rename_i h2
          rw [slOf_mono ho h2]
          exact h
        · cases h
    · cases h
  · exact h
  · cases h
theorem loadE_mono (ho : ∀ o ob, lob o = some ob → lob2 o = some ob) {te : TE} {x : AV} {e : Eff} (h : loadE te x lob = some e) : loadE te x lob2 = some e := by
  unfold loadE at h ⊢
  split at h
  · split at h
    · rename_i hob
      rw [ho _ _ hob]
      exact h
    · cases h
  · split at h
    · rename_i hob
      rw [ho _ _ hob]
      exact h
    · cases h
  · exact h
  · cases h
theorem storeE_mono (ho : ∀ o ob, lob o = some ob → lob2 o = some ob) {te : TE} {x v : AV} {e : Eff} (h : storeE te lob x v = some e) : storeE te lob2 x v = some e := by
  unfold storeE at h ⊢
  split at h
  · rename_i h1
    rw [if_pos h1]
    split at h
    · split at h
      · rename_i hob
        rw [ho _ _ hob]
        exact h
      · cases h
    · split at h
      · rename_i hob
        rw [ho _ _ hob]
        simp only
        split at h
        · rename_i h2
          rw [if_pos h2]
          split at h
          · rename_i h3
            rw [upd_mono ho h3]
            exact h
          · cases h
        · cases h
      · cases h
    · cases h
  · cases h

/-! ### Calls -/
variable {lend : List (Nat × Nat)}
mutual
theorem toCallee_mono (ho : ∀ o ob, lob o = some ob → lob2 o = some ob) : ∀ {c d : AV}, toCallee lob lend c = some d → toCallee lob2 lend c = some d
  | .row o, d, h => by
    simp only [toCallee] at h ⊢
    split at h
    · exact h
    · skip
      split at h
      · rename_i hob
        rw [ho _ _ hob]
        exact h
      · cases h
  | .box _ _, _, h => h
  | .elt _ _ _ _, _, h => h
  | .ro _ _ _ _, _, h => h
  | .rel _ _ _ _, _, h => h
  | .agg cs, d, h => by
    simp only [toCallee, Option.map_eq_some_iff] at h ⊢
    obtain ⟨ds, h1, rfl⟩ := h
    exact ⟨ds, toCallees_mono ho h1, rfl⟩
  | .tup cs, d, h => by
    simp only [toCallee, Option.map_eq_some_iff] at h ⊢
    obtain ⟨ds, h1, rfl⟩ := h
    exact ⟨ds, toCallees_mono ho h1, rfl⟩
  | .clo f cs, d, h => by
    simp only [toCallee, Option.map_eq_some_iff] at h ⊢
    obtain ⟨ds, h1, rfl⟩ := h
    exact ⟨ds, toCallees_mono ho h1, rfl⟩
  | .int _ _, _, h => h
  | .byte _, _, h => h
  | .bool _, _, h => h
  | .str _, _, h => h
  | .nil, _, h => h
  | .nilp, _, h => h
  | .undef, _, h => h
theorem toCallees_mono (ho : ∀ o ob, lob o = some ob → lob2 o = some ob) : ∀ {cs ds : List AV}, toCallees lob lend cs = some ds → toCallees lob2 lend cs = some ds
  | [], _, h => h
  | c :: cs, ds, h => by
    simp only [toCallees] at h ⊢
    split at h
    · rename_i h1 h2
      rw [toCallee_mono ho h1, toCallees_mono ho h2]
      exact h
    · cases h
end
theorem argsTo_mono (ho : ∀ o ob, lob o = some ob → lob2 o = some ob) : ∀ {Ts : List TypeId} {cs ds : List AV}, argsTo tab lob lend Ts cs = some ds → argsTo tab lob2 lend Ts cs = some ds
  | [], [], _, h => h
  | [], _ :: _, _, h => h
  | _ :: _, [], _, h => h
  | T :: Ts, c :: cs, ds, h => by
    simp only [argsTo] at h ⊢
    split at h
    · rename_i d1 d2 h1 h2
      have h1' : argTo tab lob2 lend T c = some d1 := by
        unfold argTo at h1 ⊢
        split at h1
        · exact h1
        · exact toCallee_mono ho h1
      rw [h1', argsTo_mono ho h2]
      exact h
    · cases h
theorem objsTo_mono (ho : ∀ o ob, lob o = some ob → lob2 o = some ob) : ∀ {l : List (Nat × Nat)} {ds : List (Nat × Ob)}, objsTo lob lend l = some ds → objsTo lob2 lend l = some ds
  | [], _, h => h
  | (o', o) :: l, ds, h => by
    simp only [objsTo] at h ⊢
    split at h
    · rename_i ob hob
      rw [ho _ _ hob]
      simp only
      split at h
      · rename_i d1 d2 h1 h2
        have h1' : objTo lob2 lend ob = some d1 := by
          unfold objTo at h1 ⊢
          split at h1
          · simp only [Option.map_eq_some_iff] at h1 ⊢
            obtain ⟨ds, h3, h4⟩ := h1
            exact ⟨ds, toCallees_mono ho h3, h4⟩
          · exact h1
        rw [h1', objsTo_mono ho h2]
        exact h
      · cases h
    · cases h
mutual
theorem oldV_mono (ho : ∀ o ob, lob o = some ob → lob2 o = some ob) : ∀ {c : AV}, c.named lob = true → c.oldV lob2 = c.oldV lob ∧ c.named lob2 = true
  | .row o, h => by
    simp only [AV.named, Option.isSome_iff_exists] at h
    obtain ⟨ob, h⟩ := h
    simp [AV.oldV, AV.named, h, ho _ _ h]
  | .box _ _, h => ⟨rfl, rfl⟩
  | .elt _ _ _ _, h => ⟨rfl, rfl⟩
  | .ro _ _ _ _, h => ⟨rfl, rfl⟩
  | .rel _ _ _ _, h => ⟨rfl, rfl⟩
  | .agg cs, h => by simpa only [AV.oldV, AV.named] using oldAll_mono ho (by simpa only [AV.named] using h)
  | .tup cs, h => by simpa only [AV.oldV, AV.named] using oldAll_mono ho (by simpa only [AV.named] using h)
  | .clo f cs, h => by simpa only [AV.oldV, AV.named] using oldAll_mono ho (by simpa only [AV.named] using h)
  | .int _ _, _ => ⟨rfl, rfl⟩
  | .byte _, _ => ⟨rfl, rfl⟩
  | .bool _, _ => ⟨rfl, rfl⟩
  | .str _, _ => ⟨rfl, rfl⟩
  | .nil, _ => ⟨rfl, rfl⟩
  | .nilp, _ => ⟨rfl, rfl⟩
  | .undef, _ => ⟨rfl, rfl⟩
theorem oldAll_mono (ho : ∀ o ob, lob o = some ob → lob2 o = some ob) : ∀ {cs : List AV}, namedAll lob cs = true → oldAll lob2 cs = oldAll lob cs ∧ namedAll lob2 cs = true
  | [], _ => ⟨rfl, rfl⟩
  | c :: cs, h => by
    simp only [namedAll, Bool.and_eq_true] at h ⊢
    obtain ⟨h1, h2⟩ := oldV_mono ho h.1
    obtain ⟨h3, h4⟩ := oldAll_mono ho h.2
    exact ⟨by simp only [oldAll, h1, h3], h2, h4⟩
end
theorem objs_mono (ho : ∀ o ob, lob o = some ob → lob2 o = some ob) : ∀ {l : List (Nat × Nat)}, namedObjs lob l = true → oldObjs lob2 l = oldObjs lob l ∧ roObjs lob2 lend l = roObjs lob lend l ∧ namedObjs lob2 l = true
  | [], _ => ⟨rfl, rfl, rfl⟩
  | (o', o) :: l, h => by
    simp only [namedObjs, Bool.and_eq_true] at h ⊢
    obtain ⟨h3, h4, h5⟩ := objs_mono ho h.2
    have h1 := h.1
    simp only [oldObjs, roObjs, h3, h4]
    split at h1
    · rename_i hob
      obtain ⟨g1, g2⟩ := oldAll_mono ho h1
      rw [hob, ho _ _ hob]
      exact ⟨by simp only [g1], rfl, g2, h5⟩
    · rename_i ob hn hob
      rw [hob, ho _ _ hob]
      refine ⟨?_, ?_, ?_, h5⟩
      · cases ob with
        | box q T cs => exact absurd rfl (hn q T cs)
        | row => rfl
      · rfl
      · cases ob with
        | box q T cs => exact absurd rfl (hn q T cs)
        | row => rfl
    · cases h1

theorem callE_mono (ho : ∀ o ob, lob o = some ob → lob2 o = some ob) {f : Nat} {Ts : List TypeId} {args caps : List AV} {ci : CI} {e : Eff} (h : callE P tab lob id f Ts args caps ci = some e) : callE P tab lob2 id f Ts args caps ci = some e := by
  have h' := h
  unfold callE at h'
  simp only at h'
  split at h'
  · rename_i h1 h2 h3 h4 h5
    split at h'
    · rename_i hci
      simp only [Bool.and_eq_true] at hci
      obtain ⟨g1, g2⟩ := oldAll_mono ho hci.2.1
      obtain ⟨g3, g4, g5⟩ := objs_mono (lend := ci.lend) ho hci.2.2
      unfold callE at h ⊢
      simp only at h ⊢
      rw [h1, h2, h3] at h
      rw [argsTo_mono ho h1, toCallees_mono ho h2, objsTo_mono ho h3, g1, g2, g3, g4, g5]
      rw [hci.2.1, hci.2.2] at h
      exact h
    · cases h'
  · cases h'

theorem eff_mono (hs : ∀ i c, sl i = some c → sl2 i = some c) (ho : ∀ o ob, lob o = some ob → lob2 o = some ob) {ci : Option CI} {op : Op} {e : Eff} (h : eff P tab ci sl lob id op = some e) : eff P tab ci sl2 lob2 id op = some e := by
  unfold eff at h ⊢
  split at h
  · split at h
    · rename_i h1; rw [evalO_mono hs h1]; exact h
    · cases h
  · split at h
    · rename_i h1; rw [evalO_mono hs h1]; exact h
    · cases h
  · split at h
    · rename_i h1
      split at h
      · rename_i h2; simp only [evalO_mono hs h1, evalO_mono hs h2]; exact h
      · cases h
    · rename_i h1
      split at h
      · rename_i h2; simp only [evalO_mono hs h1, evalO_mono hs h2]; exact h
      · cases h
    · cases h
  · split at h
    · rename_i h1 h2; simp only [evalO_mono hs h1, evalO_mono hs h2]; exact h
    · cases h
  · split at h
    · rename_i h1; simp only [evalO_mono hs h1]; exact h
    · cases h
  · split at h
    · rename_i h1; simp only [evalO_mono hs h1]; exact convAV_mono ho h
    · cases h
  · split at h <;> first
      | (rename_i h1; simp only [evalO_mono hs h1]; exact h)
      | cases h
  · exact h
  · split at h
    · rename_i h1; simp only [evalO_mono hs h1]; exact h
    · cases h
  · split at h
    · rename_i h1 h2 h3; simp only [h1, h2, evalParts_mono hs h3]; exact h
    · cases h
  · split at h
    · rename_i h1 h2
      simp only [h1, evalParts_mono hs h2]
      split at h
      · rename_i h3; simp only [parseParts_mono ho h3]; exact h
      · cases h
    · cases h
  · split at h
    · rename_i h1 h2; simp only [h1, evalO_mono hs h2]; exact loadE_mono ho h
    · cases h
  · split at h
    · rename_i h1 h2 h3; simp only [h1, evalO_mono hs h2, evalO_mono hs h3]; exact storeE_mono ho h
    · cases h
  · split at h
    · rename_i h1 h2; simp only [h1, evalO_mono hs h2]; exact h
    · cases h
  · split at h
    · rename_i h1 h2 h3
      simp only [h1, evalO_mono hs h2, evalO_mono hs h3]
      split at h
      · rename_i h4; simp only [ho _ _ h4]; exact h
      · cases h
    · rename_i h1 h2 h3; simp only [h1, evalO_mono hs h2, evalO_mono hs h3]; exact h
    · cases h
  · split at h
    · rename_i h1 h2 h3; simp only [h1, evalO_mono hs h2, evalO_mono hs h3]; exact h
    · cases h
  · split at h
    · rename_i h1 h2 h3; simp only [h1, evalO_mono hs h2, evalO_mono hs h3]; exact h
    · cases h
  · split at h
    · rename_i h1 h2 h3
      simp only [evalO_mono hs h1, optInt_mono hs h2, optInt_mono hs h3]
      split at h
      · rename_i h4; exact sliceAV_mono ho h
      · cases h
    · rename_i hns h1 h2 h3
      simp only [evalO_mono hs h1, optInt_mono hs h2, optInt_mono hs h3]
      split at h
      · rename_i h4 h5
        simp only [h4, slOf_mono ho h5]
        split at h
        · rename_i h6; rw [if_pos h6]; exact sliceAV_mono ho h
        · cases h
      · cases h
    · cases h
  · split at h
    · rename_i h1; simp only [evalO_mono hs h1]; exact h
    · cases h
  · split at h
    · rename_i h1 h2; simp only [h1, evalAll_mono hs h2]; exact h
    · cases h
  · split at h
    · rename_i h1 h2
      simp only [h1, evalAll_mono hs h2]
      unfold builtinE at h ⊢
      split at h
      · split at h
        · rename_i h3; simp only [lenAV_mono ho h3]; exact h
        · cases h
      · exact appendAV_mono ho h
      · exact h
      · cases h
    · rename_i h1 h2
      simp only [h1, evalAll_mono hs h2]
      split at h
      · rename_i h3
        simp only [evalO_mono hs h3]
        exact callE_mono ho h
      · cases h
    · cases h
  · cases h


mutual
theorem frz_same {fz : List Nat} (h : ∀ o, fz.contains o = true → lob o = lob2 o) : ∀ {c : AV}, c.frz lob fz = c.frz lob2 fz
  | .row o => by
    simp only [AV.frz]
    split
    · rename_i hx
      rw [h o hx]
    · rfl
  | .box _ _ => rfl
  | .elt _ _ _ _ => rfl
  | .ro _ _ _ _ => rfl
  | .rel _ _ _ _ => rfl
  | .agg cs => by simp only [AV.frz]; rw [frzAll_same h]
  | .tup cs => by simp only [AV.frz]; rw [frzAll_same h]
  | .clo f cs => by simp only [AV.frz]; rw [frzAll_same h]
  | .int _ _ => rfl
  | .byte _ => rfl
  | .bool _ => rfl
  | .str _ => rfl
  | .nil => rfl
  | .nilp => rfl
  | .undef => rfl
theorem frzAll_same {fz : List Nat} (h : ∀ o, fz.contains o = true → lob o = lob2 o) : ∀ {cs : List AV}, frzAll lob fz cs = frzAll lob2 fz cs
  | [] => rfl
  | _ :: _ => by simp only [frzAll]; rw [frz_same h, frzAll_same h]
end

theorem effF_mono {fz : List Nat} (hs : ∀ i c, sl i = some c → sl2 i = some c) (ho : ∀ o ob, lob o = some ob → lob2 o = some ob) {ci : Option CI} {op : Op} {e : Eff} (h : effF P tab ci fz sl lob id op = some e) : effF P tab ci fz sl2 lob2 id op = some e := by
  unfold effF at h ⊢
  split at h
  · exact eff_mono hs ho h
  · rename_i z zs
    split at h
    · rename_i hf
      have hag : ∀ o, (z :: zs).contains o = true → lob o = lob2 o := fun o hm => by
        have := List.all_eq_true.1 hf o (by simpa using hm)
        split at this
        · rename_i h1
          rw [h1, ho _ _ h1]
        · cases this
      have hf2 : fzOk lob2 (z :: zs) = true := by
        refine List.all_eq_true.2 fun o hm => ?_
        have h1 := List.all_eq_true.1 hf o hm
        rw [← hag o (by simpa using hm)]
        exact h1
      rw [if_pos hf2]
      split at h
      · rename_i e0 he0
        have : eff P tab ci (frzSl lob2 (z :: zs) sl2) (frzOb lob2 (z :: zs)) id op = some e0 := by
          refine eff_mono (fun i c hc => ?_) (fun o ob hob => ?_) he0
          · simp only [frzSl] at hc ⊢
            split at hc
            · rename_i d hd
              rw [hs _ _ hd]
              simp only
              rw [← frz_same hag]; exact hc
            · cases hc
          · simp only [frzOb] at hob ⊢
            split at hob
            · cases hob
            · rename_i hn
              rw [if_neg hn]
              split at hob
              · rename_i ob0 hob0
                rw [ho _ _ hob0]
                simp only [Option.some.injEq] at hob ⊢
                subst hob
                cases ob0 with
                | box q T cs => simp only [Ob.frz]; rw [← frzAll_same hag]
                | row q p e t l => rfl
              · cases hob
        rw [this]
        exact h
      · cases h
    · cases h

end
end Go.V

/- The by-value machine, part 21: regions that draw their order. -/
namespace Go.V
open Go

structure Ent where
  i : Nat
  o : Oper
  oi : OI
  e : Eff

def slR (ts : List Nat) (sl : Nat → Option AV) (i : Nat) : Option AV := if ts.contains i then sl i else none
def lobR (fp : List Nat) (lob : Nat → Option Ob) (i : Nat) : Option Ob := if fp.contains i then lob i else none

def chg (e : Eff) : List Nat := e.del ++ e.put.map (·.1)
def news : List Ent → List Nat
  | [] => []
  | x :: r => x.e.new ++ news r

section
variable {P : Program} {tab : Tab} {E : Env} {a : Act} {w : World} {ops : Array Oper} {Q : Exit → Act → World → Prop} {I0 nt : Nat}

/-- A load of a part of a box that is told by itself. -/
def ptB (x : Ent) (sl : Nat → Option AV) : Bool :=
  match x.oi.pt with
  | none => true
  | some (o, off) => match x.o.op, x.o.guard, x.oi.kn, x.oi.fz, x.oi.fp with
    | .load _ z, none, none, [], [o1] => o1 == o && match evalO sl z with
      | some (.box o2 off2) => o2 == o && off2 == off
      | _ => false
    | _, _, _, _, _ => false
/-- What x loads is the same behind y. -/
def stabP (tab : Tab) (x y : Ent) : Prop :=
  match x.oi.pt, x.o.op with
  | some (o, off), .load T _ => match tab.te.lookup T, y.e.put.lookup o with
    | some te, some (.box _ _ cells) => loadAV te cells off = some x.e.val
    | _, _ => False
  | _, _ => False

/-- What is told of an operation, from a part of the state. -/
def EffAt (P : Program) (tab : Tab) (ops : Array Oper) (nt : Nat) (st : VS) (x : Ent) : Prop :=
  opEff P tab ops x.oi (slR (x.o.looksAt ops) st.sl') (lobR x.oi.fp st.ob') x.o = some x.e ∧ dstOk nt x.o.dst = true ∧ x.e.obl ∧ ptB x (slR (x.o.looksAt ops) st.sl') = true

def SeqF (P : Program) (tab : Tab) (ops : Array Oper) (nt I0 : Nat) : VS → List Ent → VS → Prop
  | st, [], st' => st = st'
  | st, x :: r, st' => Fresh I0 st (x.e.new ++ news r) ∧ EffAt P tab ops nt st x ∧ SeqF P tab ops nt I0 (st.step x.o.dst x.e) r st'

structure Indep (tab : Tab) (ops : Array Oper) (x y : Ent) : Prop where
  d1 : ∀ d, x.o.dst = some d → d ∉ y.o.looksAt ops
  d2 : ∀ d, y.o.dst = some d → d ∉ x.o.looksAt ops
  d3 : ∀ d, x.o.dst = some d → y.o.dst ≠ some d
  c1 : ∀ z, z ∈ chg x.e → z ∉ y.oi.fp
  c2 : (∀ z, z ∈ chg y.e → z ∉ x.oi.fp) ∨ stabP tab x y
  c3 : ∀ z, z ∈ chg x.e → z ∉ chg y.e
  n1 : ∀ z, z ∈ chg y.e → z ∉ x.e.new
  n2 : y.e.val.free x.e.new = true
  n3 : ∀ o ob, y.e.put.lookup o = some ob → ob.free x.e.new = true

theorem opEff_mono {sl sl2 : Nat → Option AV} {lob lob2 : Nat → Option Ob} {oi : OI} {o : Oper} {e : Eff} (hs : ∀ i c, sl i = some c → sl2 i = some c) (ho : ∀ o ob, lob o = some ob → lob2 o = some ob) (h : opEff P tab ops oi sl lob o = some e) :
    opEff P tab ops oi sl2 lob2 o = some e := by
  have hw : ∀ {b : Bool}, wantedA ops sl o = some b → wantedA ops sl2 o = some b := by
    intro b h
    unfold wantedA at h ⊢
    split at h
    · exact h
    · rename_i g want _
      split at h
      · rename_i y hy
        have : guardOf ops sl2 g = some y := by
          unfold guardOf at hy ⊢
          split at hy
          · split at hy
            · rename_i h1
              rw [hs _ _ h1]; exact hy
            · rename_i h1
              rw [hs _ _ h1]; exact hy
            · cases hy
          · exact hy
        rw [this]; exact h
      · cases h
  unfold opEff at h ⊢
  split at h
  · rename_i h1
    rw [hw h1]
    split at h
    · rename_i h2
      rw [effF_mono hs ho h2]
      exact h
    · cases h
  · rename_i h1
    rw [hw h1]; exact h
  · cases h

theorem EffAt.full {st : VS} {x : Ent} (h : EffAt P tab ops nt st x) : opEff P tab ops x.oi st.sl' st.ob' x.o = some x.e := by
  refine opEff_mono (fun i c hc => ?_) (fun o ob ho => ?_) h.1
  · unfold slR at hc
    split at hc
    · exact hc
    · cases hc
  · unfold lobR at ho
    split at ho
    · exact ho
    · cases ho

theorem not_put {e : Eff} {z : Nat} (h : z ∉ chg e) : e.put.lookup z = none ∧ e.del.contains z = false := by
  simp only [chg, List.mem_append, not_or] at h
  refine ⟨?_, by simpa using h.1⟩
  cases hl : e.put.lookup z with
  | none => rfl
  | some y => exact absurd (lookup_key.2 ⟨y, hl⟩) h.2
theorem step_ob {st : VS} {dst : Option Nat} {e : Eff} {z : Nat} (h : z ∉ chg e) : (st.step dst e).ob' z = st.ob' z := by
  obtain ⟨h1, h2⟩ := not_put h
  simp [VS.step, h1]
  intro h3
  simp [h3] at h2
theorem step_sl {st : VS} {dst : Option Nat} {e : Eff} {i : Nat} (h : dst ≠ some i) : (st.step dst e).sl' i = st.sl' i := by
  simp [VS.step, h]

theorem EffAt.back {st : VS} {x y : Ent} (hi : ∀ d, x.o.dst = some d → d ∉ y.o.looksAt ops) (hc : ∀ z, z ∈ chg x.e → z ∉ y.oi.fp) : EffAt P tab ops nt (st.step x.o.dst x.e) y ↔ EffAt P tab ops nt st y := by
  unfold EffAt
  have e1 : slR (y.o.looksAt ops) (st.step x.o.dst x.e).sl' = slR (y.o.looksAt ops) st.sl' := by
    funext i
    unfold slR
    split
    · rename_i hm
      refine step_sl fun h => hi i h ?_
      simpa using hm
    · rfl
  have e2 : lobR y.oi.fp (st.step x.o.dst x.e).ob' = lobR y.oi.fp st.ob' := by
    funext i
    unfold lobR
    split
    · rename_i hm
      refine step_ob fun h => hc i h ?_
      simpa using hm
    · rfl
  rw [e1, e2]

theorem EffAt.stab {st : VS} {x y : Ent} (hi : ∀ d, y.o.dst = some d → d ∉ x.o.looksAt ops) (h : EffAt P tab ops nt st x) (hs : stabP tab x y) : EffAt P tab ops nt (st.step y.o.dst y.e) x := by
  have e1 : slR (x.o.looksAt ops) (st.step y.o.dst y.e).sl' = slR (x.o.looksAt ops) st.sl' := by
    funext i
    unfold slR
    split
    · rename_i hm
      refine step_sl fun h => hi i h ?_
      simpa using hm
    · rfl
  obtain ⟨h1, h2, h3, h4⟩ := h
  refine ⟨?_, h2, h3, by rw [e1]; exact h4⟩
  rw [e1]
  unfold stabP at hs
  split at hs
  · rename_i o off T z hpt hop
    split at hs
    · rename_i te q U cells hte hput
      unfold ptB at h4
      simp only [hpt, hop] at h4
      split at h4
      · rename_i _ _ _ _ _ z' o1 hop' hg hkn hfz hfp
        simp only [Op.load.injEq] at hop'
        obtain ⟨rfl, rfl⟩ := hop'
        simp only [Bool.and_eq_true, beq_iff_eq] at h4
        obtain ⟨rfl, h4⟩ := h4
        split at h4
        · rename_i o2 off2 hev
          simp only [Bool.and_eq_true, beq_iff_eq] at h4
          obtain ⟨rfl, rfl⟩ := h4
          have hw : ∀ sl, wantedA ops sl x.o = some true := fun sl => by simp [wantedA, hg]
          have hob : ∀ lob : Nat → Option Ob, lobR x.oi.fp lob o2 = lob o2 := fun lob => by simp [lobR, hfp]
          have hst : (st.step y.o.dst y.e).ob' o2 = some (.box q U cells) := by simp [VS.step, hput]
          simp only [opEff, hw, hfz, effF, hop, eff, hte, hev, hkn, knownE, loadE, hob, hst, hs] at h1 ⊢
          split at h1
          · rename_i e0 he0
            simp only [Option.some.injEq] at h1
            subst h1
            split at he0
            · split at he0
              · simp only [Option.some.injEq] at he0
                rw [← he0]
              · cases he0
            · cases he0
          · cases h1
        · cases h4
      · cases h4
    · exact hs.elim
  · exact hs.elim

theorem step_comm {st : VS} {x y : Ent} (h : Indep tab ops x y) : (st.step x.o.dst x.e).step y.o.dst y.e = (st.step y.o.dst y.e).step x.o.dst x.e := by
  unfold VS.step
  simp only
  congr 1
  · funext i
    by_cases h1 : y.o.dst = some i
    · have : x.o.dst ≠ some i := fun h2 => h.d3 i h2 h1
      simp [h1, this]
    · simp [h1]
  · funext z
    by_cases h1 : z ∈ chg x.e
    · have h2 := h.c3 z h1
      obtain ⟨h3, h4⟩ := not_put h2
      simp only [h3, h4]
      cases x.e.put.lookup z <;> simp
    · obtain ⟨h3, h4⟩ := not_put h1
      simp only [h3, h4]
      cases y.e.put.lookup z <;> simp

mutual
theorem AV.free_sub {nw nw' : List Nat} (h : ∀ x, x ∈ nw' → x ∈ nw) : ∀ {c : AV}, c.free nw = true → c.free nw' = true
  | .row o, hb => by
    simp only [AV.free, Bool.not_eq_true', List.contains_eq_mem, decide_eq_false_iff_not] at hb ⊢
    exact fun hm => hb (h _ hm)
  | .box o _, hb => by
    simp only [AV.free, Bool.not_eq_true', List.contains_eq_mem, decide_eq_false_iff_not] at hb ⊢
    exact fun hm => hb (h _ hm)
  | .elt o _ _ _, hb => by
    simp only [AV.free, Bool.not_eq_true', List.contains_eq_mem, decide_eq_false_iff_not] at hb ⊢
    exact fun hm => hb (h _ hm)
  | .agg cs, hb => by simpa only [AV.free] using freeAll_sub h (by simpa only [AV.free] using hb)
  | .tup cs, hb => by simpa only [AV.free] using freeAll_sub h (by simpa only [AV.free] using hb)
  | .clo _ cs, hb => by simpa only [AV.free] using freeAll_sub h (by simpa only [AV.free] using hb)
  | .int _ _, _ => rfl
  | .byte _, _ => rfl
  | .bool _, _ => rfl
  | .str _, _ => rfl
  | .nil, _ => rfl
  | .nilp, _ => rfl
  | .undef, _ => rfl
  | .ro _ _ _ _, _ => rfl
  | .rel _ _ _ _, _ => rfl
theorem freeAll_sub {nw nw' : List Nat} (h : ∀ x, x ∈ nw' → x ∈ nw) : ∀ {cs : List AV}, freeAll nw cs = true → freeAll nw' cs = true
  | [], _ => rfl
  | c :: cs, hb => by
    simp only [freeAll, Bool.and_eq_true] at hb ⊢
    exact ⟨AV.free_sub h hb.1, freeAll_sub h hb.2⟩
end
theorem Ob.free_sub {nw nw' : List Nat} (h : ∀ x, x ∈ nw' → x ∈ nw) : ∀ {ob : Ob}, ob.free nw = true → ob.free nw' = true
  | .box _ _ _, hb => freeAll_sub h hb
  | .row _ _ _ _ _, _ => rfl
theorem Fresh.sub {st : VS} {nw nw' : List Nat} (h : ∀ x, x ∈ nw' → x ∈ nw) (hf : Fresh I0 st nw) : Fresh I0 st nw' :=
  ⟨fun y hy => hf.ge y (h y hy), fun y hy => hf.none y (h y hy), fun i c hc => AV.free_sub h (hf.sl i c hc), fun o ob ho => Ob.free_sub h (hf.ob o ob ho)⟩

mutual
theorem AV.free_app {nw nw' : List Nat} : ∀ {c : AV}, c.free nw = true → c.free nw' = true → c.free (nw ++ nw') = true
  | .row o, h1, h2 => by simp_all [AV.free]
  | .box o _, h1, h2 => by simp_all [AV.free]
  | .elt o _ _ _, h1, h2 => by simp_all [AV.free]
  | .agg cs, h1, h2 => by simpa only [AV.free] using freeAll_app (by simpa only [AV.free] using h1) (by simpa only [AV.free] using h2)
  | .tup cs, h1, h2 => by simpa only [AV.free] using freeAll_app (by simpa only [AV.free] using h1) (by simpa only [AV.free] using h2)
  | .clo _ cs, h1, h2 => by simpa only [AV.free] using freeAll_app (by simpa only [AV.free] using h1) (by simpa only [AV.free] using h2)
  | .int _ _, _, _ => rfl
  | .byte _, _, _ => rfl
  | .bool _, _, _ => rfl
  | .str _, _, _ => rfl
  | .nil, _, _ => rfl
  | .nilp, _, _ => rfl
  | .undef, _, _ => rfl
  | .ro _ _ _ _, _, _ => rfl
  | .rel _ _ _ _, _, _ => rfl
theorem freeAll_app {nw nw' : List Nat} : ∀ {cs : List AV}, freeAll nw cs = true → freeAll nw' cs = true → freeAll (nw ++ nw') cs = true
  | [], _, _ => rfl
  | c :: cs, h1, h2 => by
    simp only [freeAll, Bool.and_eq_true] at h1 h2 ⊢
    exact ⟨AV.free_app h1.1 h2.1, freeAll_app h1.2 h2.2⟩
end
theorem Ob.free_app {nw nw' : List Nat} : ∀ {ob : Ob}, ob.free nw = true → ob.free nw' = true → ob.free (nw ++ nw') = true
  | .box _ _ _, h1, h2 => freeAll_app h1 h2
  | .row _ _ _ _ _, _, _ => rfl

theorem SeqF.fresh {st fin : VS} {R : List Ent} (h : SeqF P tab ops nt I0 st R fin) : Fresh I0 st (news R) := by
  cases R with
  | nil => exact ⟨(fun _ h => by cases h), (fun _ h => by cases h), fun _ _ _ => AV.free_nil, fun _ _ _ => Ob.free_nil⟩
  | cons x r => exact h.1

/-- Two operations that stand side by side, and have nothing to do with each other, are put the other way round. -/
theorem SeqF.swap {st fin : VS} {x y : Ent} {r : List Ent} (hi : Indep tab ops x y) (h : SeqF P tab ops nt I0 st (x :: y :: r) fin) : SeqF P tab ops nt I0 st (y :: x :: r) fin := by
  obtain ⟨h1, h2, h3, h4, h5⟩ := h
  have h6 := h5.fresh
  rw [step_comm hi] at h5 h6
  have h4' := (EffAt.back hi.d1 hi.c1).1 h4
  refine ⟨h1.sub fun z hz => ?_, h4', ⟨fun z hz => h1.ge z ?_, fun z hz => ?_, fun i c hc => ?_, fun o ob ho => ?_⟩, hi.c2.elim (fun h => (EffAt.back hi.d2 h).2 h2) (EffAt.stab hi.d2 h2), h5⟩
  · simp only [news, List.mem_append] at hz ⊢
    rcases hz with h | h | h
    · exact .inr (.inl h)
    · exact .inl h
    · exact .inr (.inr h)
  · simp only [news, List.mem_append] at hz ⊢
    rcases hz with h | h
    · exact .inl h
    · exact .inr (.inr h)
  · have hz0 : st.ob' z = none := h1.none z (by
      simp only [news, List.mem_append] at hz ⊢
      rcases hz with h | h
      · exact .inl h
      · exact .inr (.inr h))
    simp only [List.mem_append] at hz
    have hl : y.e.put.lookup z = none := by
      rcases hz with h | h
      · cases hl : y.e.put.lookup z with
        | none => rfl
        | some ob => exact absurd h (hi.n1 z (by simp only [chg, List.mem_append]; exact .inr (lookup_key.2 ⟨ob, hl⟩)))
      · have := h6.none z h
        rw [← step_comm hi] at this
        cases hl : y.e.put.lookup z with
        | none => rfl
        | some ob => simp [VS.step, hl] at this
    simp [VS.step, hl, hz0]
  · by_cases hd : y.o.dst = some i
    · simp only [VS.step, hd, if_true, Option.some.injEq] at hc
      subst hc
      refine AV.free_app hi.n2 (h6.sl i _ ?_)
      rw [← step_comm hi]
      simp [VS.step, hd]
    · rw [step_sl hd] at hc
      refine AV.free_sub (fun z hz => ?_) (h1.sl i c hc)
      simp only [news, List.mem_append] at hz ⊢
      rcases hz with h | h
      · exact .inl h
      · exact .inr (.inr h)
  · simp only [VS.step] at ho
    split at ho
    · rename_i ob' hl
      simp only [Option.some.injEq] at ho
      subst ho
      refine Ob.free_app (hi.n3 o _ hl) (h6.ob o _ ?_)
      rw [← step_comm hi]
      simp [VS.step, hl]
    · split at ho
      · cases ho
      · refine Ob.free_sub (fun z hz => ?_) (h1.ob o ob ho)
        simp only [news, List.mem_append] at hz ⊢
        rcases hz with h | h
        · exact .inl h
        · exact .inr (.inr h)

theorem news_mem {z : Nat} : ∀ {R1 R2 : List Ent} {j : Ent}, z ∈ j.e.new ++ news (R1 ++ R2) ↔ z ∈ news (R1 ++ j :: R2)
  | [], R2, j => by simp [news]
  | x :: R1, R2, j => by
    have := news_mem (z := z) (R1 := R1) (R2 := R2) (j := j)
    simp only [List.mem_append, List.cons_append, news] at this ⊢
    rw [← this]
    constructor
    · rintro (h | h | h)
      · exact .inr (.inl h)
      · exact .inl h
      · exact .inr (.inr h)
    · rintro (h | h | h)
      · exact .inr (.inl h)
      · exact .inl h
      · exact .inr (.inr h)

theorem SeqF.first : ∀ {R1 R2 : List Ent} {j : Ent} {st fin : VS}, (∀ x, x ∈ R1 → Indep tab ops x j) → SeqF P tab ops nt I0 st (R1 ++ j :: R2) fin → SeqF P tab ops nt I0 st (j :: (R1 ++ R2)) fin
  | [], R2, j, st, fin, _, h => h
  | x :: R1, R2, j, st, fin, hi, h => by
    obtain ⟨h1, h2, h3⟩ := h
    have h4 := SeqF.first (fun y hy => hi y (List.mem_cons_of_mem _ hy)) h3
    refine SeqF.swap (hi x (by simp)) ⟨h1.sub fun z hz => ?_, h2, h4⟩
    simp only [news, List.mem_append] at hz ⊢
    rcases hz with h | h
    · exact .inl h
    · exact .inr (news_mem.1 (by simpa using h))

/-- What bounds an operation from ahead, at any remove. -/
structure TBok (ops : Array Oper) (tb : Nat → List Nat) : Prop where
  step : ∀ (i : Nat) (o : Oper), ops[i]? = some o → ∀ y, y ∈ tb i → ∃ e, e ∈ o.after ∧ Region.binds .any e = true ∧ (e.on = y ∨ y ∈ tb e.on)
  back : ∀ (i : Nat) (o : Oper), ops[i]? = some o → ∀ e, e ∈ o.after → Region.binds .any e = true → e.on < i

theorem any_order (hT : TabOk P tab) {tb : Nat → List Nat} (htb : TBok ops tb) {fin : VS} (hQ : ∀ a' w', SR E fin a' w' → Q .normal a' w') :
    ∀ (n : Nat) (R : List Ent) (listed : Array Bool) (st : VS) (a : Act) (w : World), R.length = n → listed.size = ops.size → R.Pairwise (fun x y => x.i < y.i) →
      (∀ i, i < ops.size → (listed.getD i true = false ↔ ∃ x, x ∈ R ∧ x.i = i)) → (∀ x, x ∈ R → ops[x.i]? = some x.o) →
      (∀ k, listed.getD k false = true → ∀ y, y ∈ tb k → listed.getD y false = true) → R.Pairwise (fun x y => x.i ∈ tb y.i ∨ Indep tab ops x y) →
      SeqF P tab ops E.nt E.I0 st R fin → SR E st a w → wpAny P .any ops Q n listed a w
  | 0, R, listed, st, a, w, hn, hsz, _, hl, _, _, _, hseq, hS => by
    have : R = [] := List.eq_nil_of_length_eq_zero hn
    subst this
    have : st = fin := hseq
    subst this
    refine ⟨?_, hQ a w hS⟩
    rw [List.eq_nil_iff_forall_not_mem]
    intro i hi
    obtain ⟨h0, o, ho, _⟩ := mem_ready.1 hi
    obtain ⟨x, hx, _⟩ := (hl i (Array.getElem?_eq_some_iff.1 ho).1).1 h0
    cases hx
  | n + 1, R, listed, st, a, w, hn, hsz, hord, hl, hops, hcl, hpair, hseq, hS => by
    refine ⟨fun hnil => ?_, fun i hi => ?_⟩
    · exfalso
      cases R with
      | nil => cases hn
      | cons x R =>
        have hx := hops x (by simp)
        have hlt : x.i < ops.size := (Array.getElem?_eq_some_iff.1 hx).1
        have : x.i ∈ Region.ready .any ops listed := by
          refine mem_ready.2 ⟨(hl x.i hlt).2 ⟨x, by simp, rfl⟩, x.o, hx, fun e he hb => ?_⟩
          have hlt' := htb.back x.i x.o hx e he hb
          have hin : e.on < ops.size := by omega
          cases hc : listed.getD e.on false with
          | true => rfl
          | false =>
            exfalso
            have hc' : listed.getD e.on true = false := by
              have : e.on < listed.size := by omega
              simpa [this] using hc
            obtain ⟨y, hy, hye⟩ := (hl e.on hin).1 hc'
            simp only [List.pairwise_cons] at hord
            rcases List.mem_cons.1 hy with rfl | hy
            · omega
            · have := hord.1 y hy; omega
        rw [hnil] at this
        cases this
    · obtain ⟨h0, o, ho, hall⟩ := mem_ready.1 hi
      obtain ⟨j, hj, hji⟩ := (hl i (Array.getElem?_eq_some_iff.1 ho).1).1 h0
      subst hji
      obtain ⟨R1, R2, rfl⟩ := List.append_of_mem hj
      have hjo := hops j hj
      rw [ho] at hjo
      simp only [Option.some.injEq] at hjo
      subst hjo
      have htbl : ∀ y, y ∈ tb j.i → listed.getD y false = true := fun y hy => by
        obtain ⟨e, he, hb, h | h⟩ := htb.step j.i j.o ho y hy
        · subst h; exact hall e he hb
        · exact hcl e.on (hall e he hb) y h
      have hind : ∀ x, x ∈ R1 → Indep tab ops x j := fun x hx => by
        rw [List.pairwise_append] at hpair
        rcases hpair.2.2 x hx j (by simp) with h | h
        · exfalso
          have h1 := htbl _ h
          have hxo := hops x (List.mem_append_left _ hx)
          have h2 := (hl x.i (Array.getElem?_eq_some_iff.1 hxo).1).2 ⟨x, List.mem_append_left _ hx, rfl⟩
          have : x.i < listed.size := by rw [hsz]; exact (Array.getElem?_eq_some_iff.1 hxo).1
          simp [this] at h1 h2
          rw [h1] at h2; cases h2
        · exact h
      obtain ⟨g1, g2, g3⟩ := hseq.first hind
      obtain ⟨own, ρ, hS⟩ := hS
      refine op_wp (M := ⟨own, ρ, w⟩) hT hS ho g2.full (g1.sub fun z hz => by simp [hz]) (fun d hd => ?_) g2.2.2.1 fun a' w' hS' => ?_
      · have := g2.2.1
        rw [hd] at this
        simpa [dstOk] using this
      · have hlt : j.i < listed.size := by rw [hsz]; exact (Array.getElem?_eq_some_iff.1 ho).1
        rw [List.pairwise_append] at hord hpair
        refine any_order hT htb hQ n (R1 ++ R2) _ _ a' w' (by simp at hn ⊢; omega) (by simpa using hsz) ?_ (fun k hk => ?_) (fun x hx => hops x ?_) (fun k hk y hy => ?_) ?_ g3 hS'
        · rw [List.pairwise_append]
          refine ⟨hord.1, (List.pairwise_cons.1 hord.2.1).2, fun x hx y hy => hord.2.2 x hx y (List.mem_cons_of_mem _ hy)⟩
        · by_cases hkj : j.i = k
          · subst hkj
            simp only [Array.getD_eq_getD_getElem?, Array.getElem?_setIfInBounds_self, hlt, if_true, Option.getD_some, Bool.true_eq_false, false_iff, not_exists, not_and]
            intro x hx he
            rcases List.mem_append.1 hx with hx | hx
            · have := hord.2.2 x hx j (by simp); omega
            · have := (List.pairwise_cons.1 hord.2.1).1 x hx; omega
          · rw [getD_set_ne true hkj, hl k hk]
            constructor
            · rintro ⟨x, hx, rfl⟩
              refine ⟨x, ?_, rfl⟩
              simp only [List.mem_append, List.mem_cons] at hx ⊢
              rcases hx with h | h | h
              · exact .inl h
              · subst h; exact absurd rfl hkj
              · exact .inr h
            · rintro ⟨x, hx, rfl⟩
              refine ⟨x, ?_, rfl⟩
              simp only [List.mem_append, List.mem_cons] at hx ⊢
              rcases hx with h | h
              · exact .inl h
              · exact .inr (.inr h)
        · simp only [List.mem_append, List.mem_cons] at hx ⊢
          rcases hx with h | h
          · exact .inl h
          · exact .inr (.inr h)
        · by_cases hkj : j.i = k
          · subst hkj
            exact getD_set_true (htbl y hy)
          · rw [getD_set_ne false hkj] at hk
            exact getD_set_true (hcl k hk y hy)
        · rw [List.pairwise_append]
          refine ⟨hpair.1, (List.pairwise_cons.1 hpair.2.1).2, fun x hx y hy => hpair.2.2 x hx y (List.mem_cons_of_mem _ hy)⟩

end
end Go.V

/- The by-value machine, part 22: drawn regions by what the kernel can check; control; results. -/
namespace Go.V
open Go

section
variable {P : Program} {tab : Tab} {E : Env} {a : Act} {w : World} {ops : Array Oper} {Q : Exit → Act → World → Prop}

/-! ### Drawn regions -/
def runE (P : Program) (tab : Tab) (nt : Nat) (ops : Array Oper) : Nat → List (Oper × OI) → LS → Option (List Ent × LS)
  | _, [], st => some ([], st)
  | i, (o, oi) :: r, st => match opEff P tab ops oi (slR (o.looksAt ops) st.vs.sl') (lobR oi.fp st.vs.ob') o with
    | some e => if dstOk nt o.dst then match runE P tab nt ops (i + 1) r (st.step o.dst e) with
        | some (es, st') => some (⟨i, o, oi, e⟩ :: es, st')
        | none => none
      else none
    | none => none
def freshAll (I0 : Nat) : LS → List Ent → Bool
  | _, [] => true
  | st, x :: r => st.freshB I0 (x.e.new ++ news r) && freshAll I0 (st.step x.o.dst x.e) r
def disj (xs ys : List Nat) : Bool := xs.all fun x => !ys.contains x
def indepB (ops : Array Oper) (x y : Ent) : Bool :=
  (match x.o.dst with | some d => !(y.o.looksAt ops).contains d && y.o.dst != some d | none => true) &&
  (match y.o.dst with | some d => !(x.o.looksAt ops).contains d | none => true) &&
  disj (chg x.e) y.oi.fp && (disj (chg y.e) x.oi.fp || x.oi.pt.isSome) && disj (chg x.e) (chg y.e) && disj (chg y.e) x.e.new && y.e.val.free x.e.new && y.e.put.all fun z => z.2.free x.e.new
def pairsB (ops : Array Oper) (tb : List (List Nat)) : List Ent → Bool
  | [] => true
  | x :: r => (r.all fun y => (tb.getD y.i []).contains x.i || indepB ops x y) && pairsB ops tb r
/-- What loads of parts owe. -/
def stabs1 (tab : Tab) (tb : List (List Nat)) (x : Ent) : List Ent → List Prop
  | [] => []
  | y :: r => if (tb.getD y.i []).contains x.i || disj (chg y.e) x.oi.fp then stabs1 tab tb x r else stabP tab x y :: stabs1 tab tb x r
def stabs (tab : Tab) (tb : List (List Nat)) : List Ent → List Prop
  | [] => []
  | x :: r => match x.oi.pt with
    | none => stabs tab tb r
    | some _ => stabs1 tab tb x r ++ stabs tab tb r
def tbB (ops : Array Oper) (tb : List (List Nat)) : Bool :=
  (List.range ops.size).all fun i => match ops[i]? with
    | some o => ((tb.getD i []).all fun y => o.after.any fun e => Region.binds .any e && (e.on == y || (tb.getD e.on []).contains y)) && o.after.all fun e => !Region.binds .any e || decide (e.on < i)
    | none => true

theorem disj_spec {xs ys : List Nat} (h : disj xs ys = true) : ∀ z, z ∈ xs → z ∉ ys := by
  intro z hz
  simp only [disj, List.all_eq_true] at h
  simpa using h z hz
theorem indepB_spec {x y : Ent} (h : indepB ops x y = true) (hs : disj (chg y.e) x.oi.fp = false → x.oi.pt.isSome = true → stabP tab x y) : Indep tab ops x y := by
  simp only [indepB, Bool.and_eq_true] at h
  obtain ⟨⟨⟨⟨⟨⟨⟨h1, h2⟩, h3⟩, h4⟩, h5⟩, h6⟩, h7⟩, h8⟩ := h
  refine ⟨fun d hd => ?_, fun d hd => ?_, fun d hd => ?_, disj_spec h3, (by
    cases hd : disj (chg y.e) x.oi.fp with
    | true => exact .inl (disj_spec hd)
    | false => exact .inr (hs hd (by simpa [hd] using h4))), disj_spec h5, disj_spec h6, h7, fun o ob hl => ?_⟩
  · rw [hd] at h1
    simp only [Bool.and_eq_true] at h1
    simpa using h1.1
  · rw [hd] at h2
    simpa using h2
  · rw [hd] at h1
    simp only [Bool.and_eq_true] at h1
    simpa using h1.2
  · exact List.all_eq_true.1 h8 _ (lookup_mem hl)
theorem allP_append : ∀ {l m : List Prop}, AllP (l ++ m) → AllP l ∧ AllP m
  | [], _, h => ⟨trivial, h⟩
  | _ :: _, _, h => ⟨⟨h.1, (allP_append h.2).1⟩, (allP_append h.2).2⟩
theorem stabs1_spec {tb : List (List Nat)} {x : Ent} : ∀ {R : List Ent}, AllP (stabs1 tab tb x R) → ∀ y ∈ R, (tb.getD y.i []).contains x.i = false → disj (chg y.e) x.oi.fp = false → stabP tab x y
  | [], _, y, hy, _, _ => by cases hy
  | z :: r, h, y, hy, h1, h2 => by
    simp only [stabs1] at h
    rcases List.mem_cons.1 hy with rfl | hy
    · rw [if_neg (by rw [h1, h2]; simp)] at h
      exact h.1
    · split at h
      · exact stabs1_spec h y hy h1 h2
      · exact stabs1_spec h.2 y hy h1 h2
theorem pairsB_spec {tb : List (List Nat)} : ∀ {R : List Ent}, pairsB ops tb R = true → AllP (stabs tab tb R) → R.Pairwise (fun x y => x.i ∈ tb.getD y.i [] ∨ Indep tab ops x y)
  | [], _, _ => .nil
  | x :: r, h, hs => by
    simp only [pairsB, Bool.and_eq_true, List.all_eq_true, Bool.or_eq_true] at h
    simp only [stabs] at hs
    refine .cons (fun y hy => ?_) (pairsB_spec h.2 ?_)
    · by_cases ht : (tb.getD y.i []).contains x.i = true
      · exact .inl (by simpa using ht)
      · have ht' : (tb.getD y.i []).contains x.i = false := by simpa using ht
        refine .inr (indepB_spec ((h.1 y hy).resolve_left ht) fun h1 h2 => ?_)
        split at hs
        · rename_i hn
          rw [hn] at h2; cases h2
        · exact stabs1_spec (allP_append hs).1 y hy ht' h1
    · split at hs
      · exact hs
      · exact (allP_append hs).2
def ptsB (ops : Array Oper) : LS → List Ent → Bool
  | _, [] => true
  | st, x :: r => ptB x (slR (x.o.looksAt ops) st.vs.sl') && ptsB ops (st.step x.o.dst x.e) r
theorem tbB_spec {tb : List (List Nat)} (h : tbB ops tb = true) : TBok ops fun i => tb.getD i [] := by
  simp only [tbB, List.all_eq_true, List.mem_range] at h
  refine ⟨fun i o ho y hy => ?_, fun i o ho e he hb => ?_⟩
  · have h1 := h i (Array.getElem?_eq_some_iff.1 ho).1
    rw [ho] at h1
    simp only [Bool.and_eq_true, List.all_eq_true] at h1
    have h2 := h1.1 y hy
    rw [Array.any_eq_true'] at h2
    obtain ⟨e, he, hb⟩ := h2
    simp only [Bool.and_eq_true, Bool.or_eq_true, beq_iff_eq] at hb
    exact ⟨e, he, hb.1, hb.2.imp id fun h => by simpa using h⟩
  · have h1 := h i (Array.getElem?_eq_some_iff.1 ho).1
    rw [ho] at h1
    simp only [Bool.and_eq_true] at h1
    have h2 := Array.all_eq_true_iff_forall_mem.1 h1.2 e he
    simpa [hb] using h2

theorem runE_spec {nt I0 : Nat} : ∀ {l : List (Oper × OI)} {k : Nat} {st st' : LS} {es : List Ent}, runE P tab nt ops k l st = some (es, st') → freshAll I0 st es = true → ptsB ops st es = true → AllP (es.map (·.e.obl)) → (∀ j x, l[j]? = some x → ops[k + j]? = some x.1) →
    SeqF P tab ops nt I0 st.vs es st'.vs ∧ es.length = l.length ∧ (∀ x, x ∈ es → k ≤ x.i ∧ x.i < k + l.length ∧ ops[x.i]? = some x.o) ∧ es.Pairwise (fun x y => x.i < y.i) ∧ ∀ i, k ≤ i → i < k + l.length → ∃ x, x ∈ es ∧ x.i = i
  | [], k, st, st', es, h, _, _, _, _ => by
    simp only [runE, Option.some.injEq, Prod.mk.injEq] at h
    obtain ⟨rfl, rfl⟩ := h
    exact ⟨rfl, rfl, (fun _ h => by cases h), .nil, fun i h1 h2 => by simp at h2; omega⟩
  | (o, oi) :: l, k, st, st', es, h, hf, hpt, hp, hl => by
    simp only [runE] at h
    split at h
    · rename_i e he
      split at h
      · rename_i hd
        split at h
        · rename_i es1 st1 hr
          simp only [Option.some.injEq, Prod.mk.injEq] at h
          obtain ⟨rfl, rfl⟩ := h
          simp only [freshAll, Bool.and_eq_true] at hf
          simp only [ptsB, Bool.and_eq_true] at hpt
          obtain ⟨g1, g2, g3, g4, g5⟩ := runE_spec (I0 := I0) hr hf.2 hpt.2 hp.2 (fun j x hx => by
            have := hl (j + 1) x (by simpa using hx)
            rwa [show k + 1 + j = k + (j + 1) by omega])
          refine ⟨⟨freshB_spec hf.1, ⟨he, hd, hp.1, hpt.1⟩, by rw [← LS.step_vs]; exact g1⟩, by simp [g2], fun x hx => ?_, .cons (fun y hy => ?_) g4, fun i h1 h2 => ?_⟩
          · rcases List.mem_cons.1 hx with rfl | hx
            · exact ⟨Nat.le_refl _, by simp, by simpa using hl 0 _ rfl⟩
            · obtain ⟨h3, h4, h5⟩ := g3 x hx
              refine ⟨by omega, ?_, h5⟩
              simp only [List.length_cons]; omega
          · have := (g3 y hy).1
            simp only; omega
          · by_cases hik : i = k
            · subst hik; exact ⟨_, List.mem_cons_self, rfl⟩
            · obtain ⟨x, hx, rfl⟩ := g5 i (by omega) (by simp only [List.length_cons] at h2; omega)
              exact ⟨x, List.mem_cons_of_mem _ hx, rfl⟩
        · cases h
      · cases h
    · cases h

theorem SR.drawn {st : LS} (h : SR E st.vs a w) : SR E st.vs a { w with drawn := w.drawn + 1 } := by
  obtain ⟨own, ρ, hS⟩ := h
  have hd : Done E ⟨own, ρ, w⟩ ⟨own, ρ, { w with drawn := w.drawn + 1 }⟩ { val := .tup [] } (.tuple #[]) :=
    ⟨⟨Nat.le_refl _, fun _ _ h => ⟨h, rfl⟩, fun _ _ h _ => ⟨h, rfl⟩, rfl, rfl, rfl⟩, fun _ _ => rfl, .tup .nil, (fun _ _ h => by cases h), (fun b o h => ⟨hS.fr.bound b o h, hS.fr.inO b o h⟩), fun b o h => .inr ⟨h, by simp⟩⟩
  have := step_sr (dst := none) hS hd ⟨(fun _ h => by cases h), (fun _ h => by cases h), fun _ _ _ => AV.free_nil, fun _ _ _ => Ob.free_nil⟩ (fun _ h => by cases h)
  have e : st.vs.step none { val := .tup [] } = st.vs := by
    unfold VS.step
    simp
  rw [e] at this
  exact ⟨own, ρ, this⟩

def runA (P : Program) (tab : Tab) (nt I0 : Nat) (ops : Array Oper) (tb : List (List Nat)) (l : List (Oper × OI)) (st : LS) : Option (LS × List Prop) :=
  match runE P tab nt ops 0 l st with
  | some (es, st') => if freshAll I0 st es && pairsB ops tb es && tbB ops tb && ptsB ops st es then some (st', es.map (·.e.obl) ++ stabs tab tb es) else none
  | none => none

/-- A region that draws its order. -/
theorem region_any {id : Nat} {ois : List OI} {tb : List (List Nat)} {st st' : LS} {ps : List Prop} (hm : P.follows .mixedOrders = true) (hT : TabOk P tab) (hlen : ois.length = ops.size) (hS : SR E st.vs a w)
    (h : runA P tab E.nt E.I0 ops tb (ops.toList.zip ois) st = some (st', ps)) (hp : AllP ps) (hQ : ∀ a' w', SR E st'.vs a' w' → Q .normal a' w') : (Code.region id ops true).wp P Q a w := by
  refine wp_region_any hm ?_
  unfold runA at h
  split at h
  · rename_i es st1 hr
    split at h
    · rename_i hc
      simp only [Option.some.injEq, Prod.mk.injEq] at h
      obtain ⟨rfl, rfl⟩ := h
      simp only [Bool.and_eq_true] at hc
      have hl : (ops.toList.zip ois).length = ops.size := by simp [hlen]
      obtain ⟨g1, g2, g3, g4, g5⟩ := runE_spec (I0 := E.I0) hr hc.1.1.1 hc.2 (allP_append hp).1 (fun j x hx => by
        have := List.getElem?_zip_eq_some.1 hx
        simpa using this.1)
      refine any_order hT (tbB_spec hc.1.2) hQ ops.size es _ st.vs a _ (by rw [g2, hl]) (by simp) g4 (fun i hi => ?_) (fun x hx => (g3 x hx).2.2) (fun k hk => ?_) (pairsB_spec hc.1.1.2 (allP_append hp).2) g1 hS.drawn
      · simp only [Array.getD_eq_getD_getElem?, Array.getElem?_replicate, hi, if_true, Option.getD_some, true_iff]
        exact g5 i (Nat.zero_le _) (by rw [hl]; omega)
      · exfalso
        simp only [Array.getD_eq_getD_getElem?, Array.getElem?_replicate] at hk
        split at hk <;> simp at hk
    · cases h
  · cases h

/-! ### Control -/
theorem v_cond {st : LS} {c : Operand} {x y : Code} {b : Bool} (hS : SR E st.vs a w) (hc : evalO st.vs.sl' c = some (.bool b)) (ht : b = true → x.wp P Q a w) (hf : b = false → y.wp P Q a w) : (Code.cond c x y).wp P Q a w := by
  obtain ⟨own, ρ, hS⟩ := hS
  have h := hS.eval hc
  generalize hv : a.eval c = v at h
  cases h
  exact wp_cond_split hv ht hf

theorem rounds_mono {c : Code} {n m : Nat} (hnm : n ≤ m) : ∀ {a : Act} {w : World}, Code.rounds P c Q n a w → Code.rounds P c Q m a w := by
  induction n generalizing m with
  | zero => intro a w h; exact h.elim
  | succ n ih =>
    intro a w h
    cases m with
    | zero => omega
    | succ m =>
      rw [rounds_succ] at h ⊢
      refine wp_mono h fun e a w h => ?_
      cases e with
      | normal => exact ih (by omega) h
      | _ => exact h

/-! ### Results -/
def resO (tab : Tab) (st : VS) : ResultVar → Option AV
  | .tmp t => st.sl' t
  | .cell x T => match st.sl' x, tab.te.lookup T with
    | some (.box o off), some te => match st.ob' o with
      | some (.box _ _ cells) => loadAV te cells off
      | _ => none
    | _, _ => none
def resAll (tab : Tab) (st : VS) : List ResultVar → Option (List AV)
  | [] => some []
  | r :: rs => match resO tab st r, resAll tab st rs with
    | some v, some vs => some (v :: vs)
    | _, _ => none
def tupOf : List AV → AV
  | [v] => v
  | vs => .tup vs

theorem resO_spec {st : VS} {M : Mem} (hT : TabOk P tab) (hS : SRm E st a M) {r : ResultVar} {c : AV} (h : resO tab st r = some c) :
    ∃ v, (match r with
      | .tmp t => pure (a.tmps.getD t undef)
      | .cell x t => do loadVar t (← asAddr (a.tmps.getD x undef)) : Sem Value).run P M.w = .ok v M.w ∧ VR E.B M c v := by
  cases r with
  | tmp t =>
    obtain ⟨v, h1, h2⟩ := hS.slots t c h
    exact ⟨v, by simp [h1], h2⟩
  | cell x T =>
    simp only [resO] at h
    split at h
    · rename_i o off te hx hte
      split at h
      · rename_i T' cells hob
        obtain ⟨v, h1, h2⟩ := hS.slots x _ hx
        cases h2 with
        | box _ hb =>
          rename_i b
          obtain ⟨b', cs, g2, g3, hq, g4, g5⟩ := hS.obs o _ hob
          rw [hb] at g2
          simp only [Value.pointer.injEq, Option.some.injEq, Addr.mk.injEq, and_true] at g2
          subst g2
          have hadd : (⟨b, 0, none⟩ : Addr).add off = ⟨b, off, none⟩ := by unfold Addr.add; split <;> simp_all
          obtain ⟨v, h6, h7⟩ := run_loadAV hT hte (P := P) (ad := ⟨b, 0, none⟩) g5 (fun i u hi => by
            have hadd : (⟨b, 0, none⟩ : Addr).add i = ⟨b, i, none⟩ := by unfold Addr.add; split <;> simp_all
            rw [hadd]
            simpa [World.cell?, g4] using hi) h
          rw [hadd] at h6
          have hg : a.tmps.getD x undef = .pointer (some ⟨b, off, none⟩) := by simp [h1]
          refine ⟨v, ?_, h7⟩
          simp only [hg, asAddr, Sem.run_bind, Sem.run_pure, Result.andThen_ok, h6]
      · cases h
    · cases h

theorem res_spec {st : VS} {M : Mem} (hT : TabOk P tab) (hS : SRm E st a M) {fn : Func} {cs : List AV} (h : resAll tab st fn.results.toList = some cs) : ∃ v, (results fn a.tmps).run P M.w = .ok v M.w ∧ VR E.B M (tupOf cs) v := by
  have key : ∀ (rs : List ResultVar) (cs : List AV), resAll tab st rs = some cs → ∃ vs, (rs.mapM fun
      | .tmp t => pure (a.tmps.getD t undef)
      | .cell x t => do loadVar t (← asAddr (a.tmps.getD x undef)) : Sem (List Value)).run P M.w = .ok vs M.w ∧ VRs E.B M cs vs := by
    intro rs
    induction rs with
    | nil =>
      intro cs h
      simp only [resAll, Option.some.injEq] at h
      subst h
      exact ⟨[], by simp, .nil⟩
    | cons r rs ih =>
      intro cs h
      simp only [resAll] at h
      split at h
      · rename_i v vs h1 h2
        simp only [Option.some.injEq] at h
        subst h
        obtain ⟨us, h3, h4⟩ := ih _ h2
        obtain ⟨u, h5, h6⟩ := resO_spec hT hS h1
        refine ⟨u :: us, ?_, .cons h6 h4⟩
        rw [List.mapM_cons]
        simp only [Sem.run_bind, h5, Result.andThen_ok, h3, Sem.run_pure]
      · cases h
  obtain ⟨vs, h1, h2⟩ := key _ _ h
  have hm : (fn.results.mapM fun
      | .tmp t => pure (a.tmps.getD t undef)
      | .cell x t => do loadVar t (← asAddr (a.tmps.getD x undef)) : Sem (Array Value)).run P M.w = .ok vs.toArray M.w := by
    rw [Array.mapM_eq_mapM_toList]
    simp only [Sem.run_map, h1]
    rfl
  refine ⟨if h : vs.toArray.size = 1 then vs.toArray[0] else .tuple vs.toArray, ?_, ?_⟩
  · unfold results
    simp only [Sem.run_bind, Sem.run_pure]
    exact (congrArg (fun r => Result.andThen r fun vs w' => Result.ok (if h : vs.size = 1 then vs[0] else .tuple vs) w') hm)
  · match cs, vs, h2 with
    | [], _, .nil => exact .tup .nil
    | [c], _, .cons h3 .nil => exact h3
    | c :: d :: cs, _, .cons h3 (.cons h4 h5) => exact .tup (.cons h3 (.cons h4 h5))

end
end Go.V

/- The by-value machine, part 23: a state told otherwise. -/
namespace Go.V
open Go

inductive Pat where
  | keep
  | undef
  | ro (p : Bool)
  | nilRo (p : Bool) (e : TypeId) (t : Ty)
  | nilRow (o : Nat) (e : TypeId) (t : Ty)
  | cells (ps : List Pat)

inductive OPat where
  | row (q p : Bool)
  | box (q : Bool) (ps : List Pat)

structure Plan where
  sl : List (Nat × Pat)
  ob : List (Nat × Nat × OPat) := []
  nil : List (Nat × Bool × Bool × TypeId × Ty) := []

def imp (a b : Bool) : Bool := !a || b

mutual
def trV (ren : List (Nat × Nat)) (nls : List (Nat × Bool × Bool × TypeId × Ty)) (lob : Nat → Option Ob) : Pat → AV → Option AV
  | .undef, _ => some .undef
  | .keep, v => match v with
    | .row o => match ren.lookup o with | some o' => some (.row o') | none => none
    | .box o off => match ren.lookup o with | some o' => some (.box o' off) | none => none
    | .elt o sz i off => match ren.lookup o with | some o' => some (.elt o' sz i off) | none => none
    | .agg [] => some (.agg [])
    | .tup [] => some (.tup [])
    | .clo f [] => some (.clo f [])
    | .agg _ => none
    | .tup _ => none
    | .clo _ _ => none
    | v => some v
  | .ro p, v => match v with
    | .ro p' e t l => if imp p' p then some (.ro p e t l) else none
    | .rel p' t x off => if imp p' p then some (.rel p t x off) else none
    | .row o => match ren.lookup o, lob o with
      | none, some (.row q p' e t l) => if imp (p' || q) p then some (.ro p e t l) else none
      | _, _ => none
    | _ => none
  | .nilRo p e t, v => match v with
    | .nil => some (.ro p e t [])
    | _ => none
  | .nilRow o _ _, v => match v with
    | .nil => if (nls.map (·.1)).contains o then some (.row o) else none
    | _ => none
  | .cells ps, v => match v with
    | .agg cs => match trVs ren nls lob ps cs with | some ds => some (.agg ds) | none => none
    | .tup cs => match trVs ren nls lob ps cs with | some ds => some (.tup ds) | none => none
    | .clo f cs => match trVs ren nls lob ps cs with | some ds => some (.clo f ds) | none => none
    | _ => none
def trVs (ren : List (Nat × Nat)) (nls : List (Nat × Bool × Bool × TypeId × Ty)) (lob : Nat → Option Ob) : List Pat → List AV → Option (List AV)
  | [], [] => some []
  | p :: ps, c :: cs => match trV ren nls lob p c, trVs ren nls lob ps cs with
    | some d, some ds => some (d :: ds)
    | _, _ => none
  | _, _ => none
end
def trO (ren : List (Nat × Nat)) (nls : List (Nat × Bool × Bool × TypeId × Ty)) (lob : Nat → Option Ob) : OPat → Ob → Option Ob
  | .row q p, .row q' p' e t l => if imp q' q && imp p' p then some (.row q p e t l) else none
  | .box q ps, .box q' T cs => if imp q' q then match trVs ren nls lob ps cs with | some ds => some (.box q T ds) | none => none else none
  | _, _ => none
def trSl (ren : List (Nat × Nat)) (nls : List (Nat × Bool × Bool × TypeId × Ty)) (st : LS) : List (Nat × Pat) → Option (List (Nat × AV))
  | [] => some []
  | (i, p) :: r => match st.sl.lookup i with
    | some c => match trV ren nls st.vs.ob' p c, trSl ren nls st r with
      | some d, some ds => some ((i, d) :: ds)
      | _, _ => none
    | none => none
def trOb (ren : List (Nat × Nat)) (nls : List (Nat × Bool × Bool × TypeId × Ty)) (st : LS) : List (Nat × Nat × OPat) → Option (List (Nat × Ob))
  | [] => some []
  | (o, o', p) :: r => match st.ob.lookup o with
    | some ob => match trO ren nls st.vs.ob' p ob, trOb ren nls st r with
      | some d, some ds => some ((o', d) :: ds)
      | _, _ => none
    | none => none
def Plan.ren (pl : Plan) : List (Nat × Nat) := pl.ob.map fun x => (x.1, x.2.1)
def nilObs (l : List (Nat × Bool × Bool × TypeId × Ty)) : List (Nat × Ob) := l.map fun x => (x.1, .row x.2.1 x.2.2.1 x.2.2.2.1 x.2.2.2.2 [])

def change (I0 : Nat) (pl : Plan) (st : LS) : Option LS :=
  match trSl pl.ren pl.nil st pl.sl, trOb pl.ren pl.nil st pl.ob with
  | some sl, some ob =>
    if nodupB (pl.ren.map (·.1)) && nodupB (pl.ren.map (·.2)) && pl.ren.all (fun x => x.1 == x.2 || decide (I0 ≤ x.2)) && pl.nil.all (fun x => decide (I0 ≤ x.1) && !(pl.ren.map (·.2)).contains x.1)
    then some ⟨sl, putK (nilObs pl.nil) ob⟩ else none
  | _, _ => none

section
variable {P : Program} {tab : Tab} {E : Env} {a : Act} {w : World} {ops : Array Oper} {Q : Exit → Act → World → Prop} {M : Mem} {st : VS}
variable {ren : List (Nat × Nat)} {nls : List (Nat × Bool × Bool × TypeId × Ty)}

def Mt (M : Mem) (ren : List (Nat × Nat)) (nls : List (Nat × Bool × Bool × TypeId × Ty)) : Mem :=
  ⟨fun b => match M.own b with | some x => ren.lookup x | none => none,
   fun y => match embOf ren y with | some o => M.ρ o | none => if (nls.map (·.1)).contains y then .slice none 0 0 else M.ρ y, M.w⟩

theorem imp_spec {a b : Bool} (h : imp a b = true) : a = true → b = true := by
  intro ha; subst ha; simpa [imp] using h

theorem Mt_ρ (h2 : (ren.map (·.2)).Nodup) {o o' : Nat} (h : ren.lookup o = some o') : (Mt M ren nls).ρ o' = M.ρ o := by
  simp [Mt, mem_emb h2 (lookup_mem h)]
theorem Fz_t {B : Rg} {p p' : Bool} (hp : p = true → p' = true) {b : Nat} (h : Fz B M p b) : Fz B (Mt M ren nls) p' b := by
  refine ⟨by simp [Mt, h.1], ?_⟩
  rcases h.2 with h | ⟨h1, h2⟩
  · exact .inl h
  · exact .inr ⟨hp h1, h2⟩

mutual
theorem trV_spec (hS : SRm E st a M) (h2 : (ren.map (·.2)).Nodup) (h3 : ∀ x, x ∈ nls.map (·.1) → x ∉ ren.map (·.2)) : ∀ {p : Pat} {c d : AV} {v : Value}, VR E.B M c v → trV ren nls st.ob' p c = some d → VR E.B (Mt M ren nls) d v
  | .undef, c, d, v, _, h => by
    simp only [trV, Option.some.injEq] at h
    subst h
    exact .undef _
  | .keep, c, d, v, hv, h => by
    simp only [trV] at h
    split at h
    · split at h
      · rename_i hr
        simp only [Option.some.injEq] at h
        subst h
        cases hv with
        | row hv => exact .row ((Mt_ρ h2 hr).trans hv)
      · cases h
    · split at h
      · rename_i hr
        simp only [Option.some.injEq] at h
        subst h
        cases hv with
        | box _ hv => exact .box _ ((Mt_ρ h2 hr).trans hv)
      · cases h
    · split at h
      · rename_i hr
        simp only [Option.some.injEq] at h
        subst h
        cases hv with
        | elt _ _ _ hv => exact .elt _ _ _ ((Mt_ρ h2 hr).trans hv)
      · cases h
    · simp only [Option.some.injEq] at h
      subst h
      cases hv with
      | agg hv => cases hv; exact .agg .nil
    · simp only [Option.some.injEq] at h
      subst h
      cases hv with
      | tup hv => cases hv; exact .tup .nil
    · simp only [Option.some.injEq] at h
      subst h
      cases hv with
      | clo _ hv => cases hv; exact .clo _ .nil
    · cases h
    · cases h
    · cases h
    · rename_i n1 n2 n3 n4 n5 n6 n7 n8 n9
      simp only [Option.some.injEq] at h
      subst h
      cases hv with
      | int k n => exact .int _ _
      | byte x => exact .byte _
      | bool b => exact .bool _
      | str s => exact .str _
      | nil => exact .nil
      | ro hv => exact .ro (hv.mono fun b hb _ => ⟨Fz_t (fun h => h) hb, rfl⟩)
      | row => exact absurd rfl (n1 _)
      | box => exact absurd rfl (n2 _ _)
      | elt => exact absurd rfl (n3 _ _ _ _)
      | rel g1 g2 g3 => exact .rel (Fz_t (fun h => h) g1) (g2.mono fun b hb _ => ⟨Fz_t (fun h => h) hb, rfl⟩) g3
      | agg => exact absurd rfl (n7 _)
      | tup => exact absurd rfl (n8 _)
      | clo => exact absurd rfl (n9 _ _)
      | nilp => exact .nilp
      | undef => exact .undef _
  | .ro p, c, d, v, hv, h => by
    simp only [trV] at h
    split at h
    · split at h
      · rename_i hp
        simp only [Option.some.injEq] at h
        subst h
        cases hv with
        | ro hv => exact .ro (hv.mono fun b hb _ => ⟨Fz_t (imp_spec hp) hb, rfl⟩)
      · cases h
    · split at h
      · rename_i hp
        simp only [Option.some.injEq] at h
        subst h
        cases hv with
        | rel g1 g2 g3 => exact .rel (Fz_t (imp_spec hp) g1) (g2.mono fun b hb _ => ⟨Fz_t (imp_spec hp) hb, rfl⟩) g3
      · cases h
    · rename_i o
      split at h
      · rename_i q p' e t l hr hob
        split at h
        · rename_i hp
          simp only [Option.some.injEq] at h
          subst h
          have hp := imp_spec hp
          cases hv with
          | row hv =>
            have hor := hS.obs o _ hob
            have := row_reads (A := Fz E.B (Mt M ren nls) p) hor (fun b hb => Fz_t (fun h => hp (by simp [h])) hb) (fun b _ hb => ⟨by simp [Mt, hb, hr], by
              obtain ⟨_, _, _, hq, _⟩ := hor
              by_cases hq1 : q = true
              · rcases hS.fr.inO b o hb with h | h
                · exact .inl h
                · exact .inr ⟨hp (by simp [hq1]), h⟩
              · exact .inl (hq (by simpa using hq1) b hb)⟩)
            rw [hv] at this
            exact .ro this
        · cases h
      · cases h
    · cases h
  | .nilRo p e t, c, d, v, hv, h => by
    simp only [trV] at h
    split at h
    · simp only [Option.some.injEq] at h
      subst h
      cases hv
      refine .ro ?_
      simp only [RdC]
      exact ⟨none, 0, rfl, ⟨Nat.zero_le _, Nat.zero_le _⟩, fun h => absurd rfl h⟩
    · cases h
  | .nilRow o e t, c, d, v, hv, h => by
    simp only [trV] at h
    split at h
    · split at h
      · rename_i hc
        simp only [Option.some.injEq] at h
        subst h
        cases hv
        refine .row ?_
        have := emb_none.2 (h3 o (by simpa using hc))
        simp only [Mt, this]
        rw [if_pos hc]
      · cases h
    · cases h
  | .cells ps, c, d, v, hv, h => by
    simp only [trV] at h
    split at h
    · split at h
      · rename_i hr
        simp only [Option.some.injEq] at h
        subst h
        cases hv with
        | agg hv => exact .agg (trVs_spec hS h2 h3 hv hr)
      · cases h
    · split at h
      · rename_i hr
        simp only [Option.some.injEq] at h
        subst h
        cases hv with
        | tup hv => exact .tup (trVs_spec hS h2 h3 hv hr)
      · cases h
    · split at h
      · rename_i hr
        simp only [Option.some.injEq] at h
        subst h
        cases hv with
        | clo _ hv => exact .clo _ (trVs_spec hS h2 h3 hv hr)
      · cases h
    · cases h
theorem trVs_spec (hS : SRm E st a M) (h2 : (ren.map (·.2)).Nodup) (h3 : ∀ x, x ∈ nls.map (·.1) → x ∉ ren.map (·.2)) : ∀ {ps : List Pat} {cs ds : List AV} {vs : List Value}, VRs E.B M cs vs → trVs ren nls st.ob' ps cs = some ds → VRs E.B (Mt M ren nls) ds vs
  | [], [], ds, _, .nil, h => by simp only [trVs, Option.some.injEq] at h; subst h; exact .nil
  | [], _ :: _, _, _, _, h => by simp [trVs] at h
  | _ :: _, [], _, _, _, h => by simp [trVs] at h
  | p :: ps, c :: cs, ds, _, .cons g1 g2, h => by
    simp only [trVs] at h
    split at h
    · rename_i h4 h5
      simp only [Option.some.injEq] at h
      subst h
      exact .cons (trV_spec hS h2 h3 g1 h4) (trVs_spec hS h2 h3 g2 h5)
    · cases h
end

theorem trO_spec (hS : SRm E st a M) (h2 : (ren.map (·.2)).Nodup) (h3 : ∀ x, x ∈ nls.map (·.1) → x ∉ ren.map (·.2)) {o o' : Nat} {p : OPat} {ob ob' : Ob} (hr : ren.lookup o = some o') (hob : st.ob' o = some ob)
    (h : trO ren nls st.ob' p ob = some ob') : OR E.B (Mt M ren nls) o' ob' := by
  have hor := hS.obs o ob hob
  have hown : ∀ b, M.own b = some o → (Mt M ren nls).own b = some o' := fun b hb => by simp [Mt, hb, hr]
  have hback : ∀ b, (Mt M ren nls).own b = some o' → M.own b = some o := fun b hb => by
    simp only [Mt] at hb
    split at hb
    · rename_i x hx
      have e1 := mem_emb h2 (lookup_mem hb)
      have e2 := mem_emb h2 (lookup_mem hr)
      rw [e1] at e2
      simp only [Option.some.injEq] at e2
      subst e2
      exact hx
    · cases hb
  have hρ := Mt_ρ (M := M) (nls := nls) h2 hr
  unfold trO at h
  split at h
  · rename_i q p q' p' e t l
    split at h
    · rename_i hc
      simp only [Option.some.injEq] at h
      subst h
      simp only [Bool.and_eq_true] at hc
      obtain ⟨xs, g1, g2, g3, g4⟩ := hor
      refine ⟨xs, by rw [hρ]; exact g1, fun g hg => hown g (g2 g (by rw [← hρ]; exact hg)), fun hq b hb => g3 ?_ b (hback b hb), g4.mono fun b hb _ => ⟨Fz_t (imp_spec hc.2) hb, rfl⟩⟩
      cases hq' : q' with
      | false => rfl
      | true => have := imp_spec hc.1 hq'; rw [hq] at this; cases this
    · cases h
  · rename_i q ps q' T cs
    split at h
    · rename_i hc
      split at h
      · rename_i ds hd
        simp only [Option.some.injEq] at h
        subst h
        obtain ⟨b, vs, g1, g2, g3, g4, g5⟩ := hor
        refine ⟨b, vs, hρ.trans g1, hown b g2, fun hq b hb => g3 ?_ b (hback b hb), g4, trVs_spec hS h2 h3 g5 hd⟩
        cases hq' : q' with
        | false => rfl
        | true => have := imp_spec hc hq'; rw [hq] at this; cases this
      · cases h
    · cases h
  · cases h

theorem trSl_spec {st : LS} : ∀ {l : List (Nat × Pat)} {r : List (Nat × AV)}, trSl ren nls st l = some r → ∀ i d, r.lookup i = some d → ∃ p c, st.vs.sl' i = some c ∧ trV ren nls st.vs.ob' p c = some d
  | [], r, h, i, d, hl => by simp only [trSl, Option.some.injEq] at h; subst h; simp at hl
  | (j, p) :: l, r, h, i, d, hl => by
    simp only [trSl] at h
    split at h
    · rename_i c hc
      split at h
      · rename_i d1 ds h1 h2
        simp only [Option.some.injEq] at h
        subst h
        simp only [List.lookup_cons] at hl
        split at hl
        · rename_i he
          have : i = j := by simpa using he
          subst this
          simp only [Option.some.injEq] at hl
          subst hl
          exact ⟨p, c, hc, h1⟩
        · exact trSl_spec h2 i d hl
      · cases h
    · cases h
theorem trOb_spec {st : LS} : ∀ {l : List (Nat × Nat × OPat)} {r : List (Nat × Ob)}, trOb ren nls st l = some r → (∀ o' d, r.lookup o' = some d → ∃ p o ob, (o, o', p) ∈ l ∧ st.vs.ob' o = some ob ∧ trO ren nls st.vs.ob' p ob = some d) ∧
    ∀ o o' p, (o, o', p) ∈ l → ∃ d, r.lookup o' = some d
  | [], r, h => by simp only [trOb, Option.some.injEq] at h; subst h; simp
  | (o, o', p) :: l, r, h => by
    simp only [trOb] at h
    split at h
    · rename_i ob hob
      split at h
      · rename_i d1 ds h1 h2
        simp only [Option.some.injEq] at h
        subst h
        obtain ⟨g1, g2⟩ := trOb_spec h2
        refine ⟨fun o'' d hl => ?_, fun o1 o1' p1 hm => ?_⟩
        · simp only [List.lookup_cons] at hl
          split at hl
          · rename_i he
            have : o'' = o' := by simpa using he
            subst this
            simp only [Option.some.injEq] at hl
            subst hl
            exact ⟨p, o, ob, by simp, hob, h1⟩
          · obtain ⟨p', o1, ob', h3, h4⟩ := g1 o'' d hl
            exact ⟨p', o1, ob', List.mem_cons_of_mem _ h3, h4⟩
        · simp only [List.lookup_cons]
          split
          · exact ⟨_, rfl⟩
          · rename_i he
            rcases List.mem_cons.1 hm with hm | hm
            · simp only [Prod.mk.injEq] at hm
              obtain ⟨rfl, rfl, rfl⟩ := hm
              simp at he
            · exact g2 _ _ _ hm
      · cases h
    · cases h

theorem change_sr {pl : Plan} {st st' : LS} (h : change E.I0 pl st = some st') (hS : SR E st.vs a w) : SR E st'.vs a w := by
  obtain ⟨own, ρ, hS⟩ := hS
  unfold change at h
  split at h
  · rename_i sl ob h1 h2
    split at h
    · rename_i hc
      simp only [Option.some.injEq] at h
      subst h
      simp only [Bool.and_eq_true, List.all_eq_true, Bool.or_eq_true, beq_iff_eq, decide_eq_true_eq, Bool.not_eq_true'] at hc
      obtain ⟨⟨⟨c1, c2⟩, c3⟩, c4⟩ := hc
      have c1 := nodup_of c1
      have c2 := nodup_of c2
      have c5 : ∀ x, x ∈ pl.nil.map (·.1) → x ∉ pl.ren.map (·.2) := fun x hx => by
        obtain ⟨y, hy, rfl⟩ := List.mem_map.1 hx
        have := (c4 y hy).2
        simpa using this
      have key : ∀ {o o' p}, (o, o', p) ∈ pl.ob → pl.ren.lookup o = some o' := fun hm =>
        mem_lookup c1 (List.mem_map.2 ⟨_, hm, rfl⟩)
      obtain ⟨g1, g2⟩ := trOb_spec h2
      refine ⟨_, _, (?_ : SRm E _ a (Mt ⟨own, ρ, w⟩ pl.ren pl.nil))⟩
      have hfr := hS.fr
      have hown : ∀ b o, (Mt ⟨own, ρ, w⟩ pl.ren pl.nil).own b = some o → ∃ x, own b = some x ∧ pl.ren.lookup x = some o := fun b o hb => by
        simp only [Mt] at hb
        split at hb
        · exact ⟨_, ‹_›, hb⟩
        · cases hb
      refine ⟨⟨hfr.size, fun b hb h0 => ?_, fun o ho => ?_, fun b o hb => ?_, fun b o hb => ?_, hfr.os, hfr.tape, hfr.output⟩, fun i d hd => ?_, fun o d hd => ?_, fun b o hb => ?_, hS.tmps, hS.defers⟩
      · obtain ⟨h3, h4⟩ := hfr.old b hb h0
        exact ⟨by simp only at h3; simp [Mt, h3], h4⟩
      · have hn : o ∉ pl.nil.map (·.1) := fun h => by
          obtain ⟨y, hy, rfl⟩ := List.mem_map.1 h
          have := (c4 y hy).1
          omega
        have := hfr.ids o ho
        simp only [Mt]
        split
        · rename_i x hx
          rcases c3 _ (emb_mem hx) with h | h
          · simp only at h; subst h; exact this
          · simp only at h; omega
        · have hn' : (pl.nil.map (·.1)).contains o = false := by simpa using hn
          simp only [hn']
          exact this
      · obtain ⟨x, hx, _⟩ := hown b o hb
        exact hfr.bound b x hx
      · obtain ⟨x, hx, _⟩ := hown b o hb
        exact hfr.inO b x hx
      · obtain ⟨p, c, h3, h4⟩ := trSl_spec h1 i d hd
        obtain ⟨v, h5, h6⟩ := hS.slots i c h3
        exact ⟨v, h5, trV_spec hS c2 c5 h6 h4⟩
      · simp only [LS.vs, lookup_putK] at hd
        split at hd
        · rename_i y hy
          simp only [Option.some.injEq] at hd
          subst hd
          have hm := lookup_mem hy
          simp only [nilObs, List.mem_map] at hm
          obtain ⟨z, hz, he⟩ := hm
          simp only [Prod.mk.injEq] at he
          obtain ⟨rfl, rfl⟩ := he
          have hzn : z.1 ∈ pl.nil.map (·.1) := List.mem_map.2 ⟨z, hz, rfl⟩
          have hem := emb_none.2 (c5 z.1 hzn)
          have hρ : (Mt ⟨own, ρ, w⟩ pl.ren pl.nil).ρ z.1 = .slice none 0 0 := by
            simp only [Mt, hem]
            rw [if_pos (by simpa using hzn)]
          refine ⟨[], ⟨by simp, .inl ⟨hρ, by simp⟩⟩, fun g hg => by rw [hρ] at hg; simp [Value.ownBlock] at hg, fun _ b hb => ?_, by simp [RdL]⟩
          obtain ⟨x, _, hx⟩ := hown b _ hb
          exact absurd (List.mem_map.2 ⟨_, lookup_mem hx, rfl⟩) (c5 z.1 hzn)
        · obtain ⟨p, o1, ob1, h3, h4, h5⟩ := g1 o d hd
          exact trO_spec hS c2 c5 (key h3) h4 h5
      · obtain ⟨x, hx, hr⟩ := hown b o hb
        have hm := lookup_mem hr
        obtain ⟨z, hz, he⟩ := List.mem_map.1 hm
        simp only [Prod.mk.injEq] at he
        obtain ⟨rfl, rfl⟩ := he
        obtain ⟨d, hd⟩ := g2 z.1 z.2.1 z.2.2 hz
        simp only [LS.vs, lookup_putK]
        split
        · exact ⟨_, rfl⟩
        · exact ⟨d, hd⟩
    · cases h
  · cases h

end
end Go.V

/- The by-value machine, part 24: a function and its contract. -/
namespace Go.V
open Go

def argSl : Nat → List AV → List (Nat × AV)
  | _, [] => []
  | i, v :: vs => (i, v) :: argSl (i + 1) vs

theorem argSl_lookup : ∀ {args : List AV} {k i : Nat} {c : AV}, (argSl k args).lookup i = some c → k ≤ i ∧ args[i - k]? = some c
  | [], _, _, _, h => by simp [argSl] at h
  | v :: vs, k, i, c, h => by
    simp only [argSl, List.lookup_cons] at h
    split at h
    · rename_i he
      have : i = k := by simpa using he
      subst this
      simp only [Option.some.injEq] at h
      subst h
      simp
    · obtain ⟨h1, h2⟩ := argSl_lookup h
      refine ⟨by omega, ?_⟩
      rw [show i - k = (i - (k + 1)) + 1 by omega]
      simpa using h2

/-- What is owed where a function ends. -/
def VPost (tab : Tab) (fn : Func) (E : Env) (Q : AV → List (Nat × Ob) → Prop) : Exit → Act → World → Prop
  | .normal, a, w => ∃ (st : LS) (cs : List AV), SR E st.vs a w ∧ resAll tab st.vs fn.results.toList = some cs ∧ Q (tupOf cs) st.ob
  | .ret, a, w => ∃ (st : LS) (cs : List AV), SR E st.vs a w ∧ resAll tab st.vs fn.results.toList = some cs ∧ Q (tupOf cs) st.ob
  | _, _, _ => False

section
variable {P : Program} {tab : Tab}

theorem vcalls_intro (hT : TabOk P tab) {f : FuncId} {fn : Func} {c : Code} {args : List AV} {objs : List (Nat × Ob)} {Q : AV → List (Nat × Ob) → Prop} (hf : P.funcs[f]? = some fn) (hnm : (fn.name == "runtime.NumGoroutine") = false) (hb : fn.body = some c)
    (hlen : args.length ≤ fn.ntmps) (h : ∀ (E : Env) (a : Act) (w : World), E.nt = fn.ntmps → E.I0 = topOf objs → SR E (⟨argSl 0 args, objs⟩ : LS).vs a w → c.wp P (VPost tab fn E Q) a w) : VCalls P f args objs Q := by
  refine ⟨⟨fn, hf, hnm, by rw [hb]; rfl⟩, fun w own ρ old vs h1 h2 h3 => ?_⟩
  have hvl := h3.len
  refine calls_of_wp hf hb (wp_mono (h ⟨w, own, ρ, topOf objs, fn.ntmps, old⟩ _ w rfl rfl ⟨own, ρ, ⟨⟨Nat.le_refl _, fun b hb h0 => ⟨h0, rfl⟩, fun _ _ => rfl, fun b o hb => (h1 b o hb).1, fun b o hb => .inr (h1 b o hb).2.1, rfl, rfl, rfl⟩, fun i c hc => ?_, h2, fun b o hb => (h1 b o hb).2.2, ?_, rfl⟩⟩) fun e a' w' hq => ?_)
  · obtain ⟨_, h5⟩ := argSl_lookup hc
    rw [Nat.sub_zero] at h5
    obtain ⟨v, h6, h7⟩ := h3.at i c h5
    refine ⟨v, ?_, h7⟩
    have hlt : i < vs.length := (List.getElem?_eq_some_iff.1 h6).1
    rw [Array.getElem?_append_left (by simpa using hlt)]
    simpa using h6
  · simp only [Array.size_append, Array.size_replicate, List.size_toArray]
    show vs.length + (fn.ntmps - vs.length) = fn.ntmps
    omega
  · have key : ∀ (st : LS) (cs : List AV), SR ⟨w, own, ρ, topOf objs, fn.ntmps, old⟩ st.vs a' w' → resAll tab st.vs fn.results.toList = some cs → Q (tupOf cs) st.ob → a'.defers = [] ∧ ∃ v, (results fn a'.tmps).run P w' = .ok v w' ∧
        ∃ v' res robs own' ρ', Ending.returned v = .returned v' ∧ Q res robs ∧ Fr ⟨w, own, ρ, topOf objs, 0, old⟩ ⟨own', ρ', w'⟩ ∧ VR ⟨w.heap.size, old⟩ ⟨own', ρ', w'⟩ res v' ∧
          (∀ o ob, robs.lookup o = some ob → OR ⟨w.heap.size, old⟩ ⟨own', ρ', w'⟩ o ob) ∧ ∀ b o, own' b = some o → ∃ ob, robs.lookup o = some ob := by
      intro st cs hS hr hq
      obtain ⟨own', ρ', hS⟩ := hS
      obtain ⟨v, h4, h5⟩ := res_spec hT hS hr
      exact ⟨hS.defers, v, h4, v, _, _, own', ρ', rfl, hq, ⟨hS.fr.size, hS.fr.old, hS.fr.ids, hS.fr.bound, hS.fr.inO, hS.fr.os, hS.fr.tape, hS.fr.output⟩, h5, hS.obs, hS.own_in⟩
    cases e with
    | normal => obtain ⟨st, cs, h4, h5, h6⟩ := hq; exact key st cs h4 h5 h6
    | ret => obtain ⟨st, cs, h4, h5, h6⟩ := hq; exact key st cs h4 h5 h6
    | _ => exact hq.elim

theorem VCalls.mono {f : FuncId} {args : List AV} {objs : List (Nat × Ob)} {Q Q' : AV → List (Nat × Ob) → Prop} (h : VCalls P f args objs Q) (hq : ∀ r os, Q r os → Q' r os) : VCalls P f args objs Q' := by
  refine ⟨h.1, fun w own ρ old vs h1 h2 h3 => Calls.mono (h.2 w own ρ old vs h1 h2 h3) ?_⟩
  rintro e w' ⟨v, res, robs, own', ρ', h4, h5, h6⟩
  exact ⟨v, res, robs, own', ρ', h4, hq _ _ h5, h6⟩
end
end Go.V

/- The by-value machine, part 25: what the printed proofs lean on. -/
namespace Go.V
open Go

def keepK {α : Type} (ks : List Nat) : List (Nat × α) → List (Nat × α)
  | [] => []
  | (a, b) :: l => if ks.contains a then (a, b) :: keepK ks l else keepK ks l
theorem lookup_keepK {α : Type} {ks : List Nat} {x : Nat} {y : α} : ∀ {l : List (Nat × α)}, (keepK ks l).lookup x = some y → l.lookup x = some y
  | [], h => h
  | (a, b) :: l, h => by
    simp only [keepK] at h
    split at h
    · simp only [List.lookup_cons] at h ⊢
      split at h
      · exact h
      · exact lookup_keepK h
    · rename_i hk
      have h1 := lookup_keepK h
      simp only [List.lookup_cons]
      split
      · rename_i he
        have : x = a := by simpa using he
        subst this
        have hn : ∀ {l : List (Nat × α)}, ¬ ks.contains x = true → (keepK ks l).lookup x = none := by
          intro l hx
          induction l with
          | nil => rfl
          | cons z l ih =>
            obtain ⟨c, d⟩ := z
            simp only [keepK]
            split
            · rename_i hc
              simp only [List.lookup_cons]
              split
              · rename_i he
                have : x = c := by simpa using he
                subst this
                exact absurd hc hx
              · exact ih
            · exact ih
        rw [hn hk] at h
        cases h
      · exact h1
def LS.keep (ks : List Nat) (st : LS) : LS := ⟨keepK ks st.sl, st.ob⟩

section
variable {P : Program} {tab : Tab} {E : Env} {a : Act} {w : World} {ops : Array Oper} {Q : Exit → Act → World → Prop}

theorem SR.keep {ks : List Nat} {st : LS} (h : SR E st.vs a w) : SR E (st.keep ks).vs a w := by
  obtain ⟨own, ρ, hS⟩ := h
  exact ⟨own, ρ, hS.fr, fun i c hc => hS.slots i c (lookup_keepK hc), hS.obs, hS.own_in, hS.tmps, hS.defers⟩

/-- What a region comes to: its state, of which the slots 'ks' are kept, and what it owes. -/
def runTK (P : Program) (tab : Tab) (nt I0 : Nat) (ops : Array Oper) (ois : List OI) (ks : List Nat) (st : LS) : Option (LS × List Prop) :=
  if ois.length = ops.size then match runT P tab nt I0 ops (ops.toList.zip ois) st with
    | some (st', ps) => some (st'.keep ks, ps)
    | none => none
  else none
def runAK (P : Program) (tab : Tab) (nt I0 : Nat) (ops : Array Oper) (tb : List (List Nat)) (ois : List OI) (ks : List Nat) (st : LS) : Option (LS × List Prop) :=
  if ois.length = ops.size then match runA P tab nt I0 ops tb (ops.toList.zip ois) st with
    | some (st', ps) => some (st'.keep ks, ps)
    | none => none
  else none

/-- What holds of all worlds that a state tells of. -/
def Fits (P : Program) (E : Env) (nt I0 : Nat) (Q : Exit → Act → World → Prop) (st : LS) (c : Code) : Prop :=
  E.nt = nt → E.I0 = I0 → ∀ a w, SR E st.vs a w → c.wp P Q a w
/-- .. of what comes next. -/
def Next (E : Env) (nt I0 : Nat) (K : Act → World → Prop) (st : LS) : Prop :=
  E.nt = nt → E.I0 = I0 → ∀ a w, SR E st.vs a w → K a w

theorem rT {nt I0 id : Nat} {ks : List Nat} {ois : List OI} {st st' : LS} {ps : List Prop} (hT : TabOk P tab) (h : runTK P tab nt I0 ops ois ks st = some (st', ps)) (hp : AllP ps)
    (hQ : Next E nt I0 (Q .normal) st') : Fits P E nt I0 Q st (.region id ops false) := by
  intro h1 h2 a w hS
  unfold runTK at h
  split at h
  · rename_i hl
    split at h
    · rename_i st1 ps1 hr
      simp only [Option.some.injEq, Prod.mk.injEq] at h
      obtain ⟨rfl, rfl⟩ := h
      exact region_text hT hl hS (by rw [h1, h2]; exact hr) hp fun a' w' hS' => hQ h1 h2 a' w' hS'.keep
    · cases h
  · cases h
theorem rA {nt I0 id : Nat} {ks : List Nat} {tb : List (List Nat)} {ois : List OI} {st st' : LS} {ps : List Prop} (hm : P.follows .mixedOrders = true) (hT : TabOk P tab) (h : runAK P tab nt I0 ops tb ois ks st = some (st', ps)) (hp : AllP ps)
    (hQ : Next E nt I0 (Q .normal) st') : Fits P E nt I0 Q st (.region id ops true) := by
  intro h1 h2 a w hS
  unfold runAK at h
  split at h
  · rename_i hl
    split at h
    · rename_i st1 ps1 hr
      simp only [Option.some.injEq, Prod.mk.injEq] at h
      obtain ⟨rfl, rfl⟩ := h
      exact region_any hm hT hl hS (by rw [h1, h2]; exact hr) hp fun a' w' hS' => hQ h1 h2 a' w' hS'.keep
    · cases h
  · cases h

variable {nt I0 : Nat} {st st' : LS} {x y c : Code}

theorem fSeq (h : Fits P E nt I0 (Exit.then (y.wp P Q) Q) st x) : Fits P E nt I0 Q st (.seq x y) := fun h1 h2 a w hS => wp_seq (h h1 h2 a w hS)
theorem fCond {o : Operand} {b : Bool} (hc : evalO st.vs.sl' o = some (.bool b)) (ht : b = true → Fits P E nt I0 Q st x) (hf : b = false → Fits P E nt I0 Q st y) : Fits P E nt I0 Q st (.cond o x y) :=
  fun h1 h2 _ _ hS => v_cond hS hc (fun hb => ht hb h1 h2 _ _ hS) (fun hb => hf hb h1 h2 _ _ hS)
theorem fSkip (h : Next E nt I0 (Q .normal) st) : Fits P E nt I0 Q st .skip := fun h1 h2 a w hS => wp_skip (h h1 h2 a w hS)
theorem fExit {id : Nat} (h : Next E nt I0 (Q (.exit id)) st) : Fits P E nt I0 Q st (.exit id) := fun h1 h2 a w hS => wp_exit (h h1 h2 a w hS)
theorem fRet (h : Next E nt I0 (Q .ret) st) : Fits P E nt I0 Q st .ret := fun h1 h2 a w hS => wp_ret (h h1 h2 a w hS)
theorem fBlock {id : Nat} (h : Fits P E nt I0 (Exit.inBlock id Q) st c) : Fits P E nt I0 Q st (.block id c) := fun h1 h2 a w hS => wp_block (h h1 h2 a w hS)
theorem fLoop (n : Nat) (h : Next E nt I0 (Code.rounds P c Q n) st) : Fits P E nt I0 Q st (.loop c) := fun h1 h2 a w hS => wp_loop_rounds n (h h1 h2 a w hS)
theorem fTo {pl : Plan} (h : change I0 pl st = some st') (hF : Fits P E nt I0 Q st' c) : Fits P E nt I0 Q st c := fun h1 h2 a w hS => hF h1 h2 a w (change_sr (by rw [h2]; exact h) hS)
theorem nTo {K : Act → World → Prop} {pl : Plan} (h : change I0 pl st = some st') (hF : Next E nt I0 K st') : Next E nt I0 K st := fun h1 h2 a w hS => hF h1 h2 a w (change_sr (by rw [h2]; exact h) hS)
theorem nEnd {fn : Func} {R : AV → List (Nat × Ob) → Prop} {cs : List AV} (h : resAll tab st.vs fn.results.toList = some cs) (hR : R (tupOf cs) st.ob) : Next E nt I0 (VPost tab fn E R .ret) st :=
  fun _ _ _ _ hS => ⟨st, cs, hS, h, hR⟩
theorem rounds_step {n : Nat} (h : Fits P E nt I0 (Exit.then (Code.rounds P c Q n) Q) st c) : Next E nt I0 (Code.rounds P c Q (n + 1)) st := fun h1 h2 a w hS => h h1 h2 a w hS
theorem rounds_le {n m : Nat} (hnm : n ≤ m) (h : Next E nt I0 (Code.rounds P c Q n) st) : Next E nt I0 (Code.rounds P c Q m) st := fun h1 h2 a w hS => rounds_mono hnm (h h1 h2 a w hS)

theorem vcalls (hT : TabOk P tab) {f : FuncId} {fn : Func} {args : List AV} {objs : List (Nat × Ob)} {R : AV → List (Nat × Ob) → Prop} (hf : P.funcs[f]? = some fn) (hnm : (fn.name == "runtime.NumGoroutine") = false) (hb : fn.body = some c)
    (hlen : (args.length ≤ fn.ntmps ∧ fn.ntmps = nt ∧ topOf objs = I0)) (h : ∀ E, Fits P E nt I0 (VPost tab fn E R) ⟨argSl 0 args, objs⟩ c) : VCalls P f args objs R :=
  vcalls_intro hT hf hnm hb hlen.1 fun E a w h1 h2 hS => h E (h1.trans hlen.2.1) (h2.trans hlen.2.2) a w hS

/-! ### What a function's value says -/
theorem iteB {α : Type} {b : Bool} {A B : Option α} {r : α} {G : Prop} (h : (if b = true then A else B) = some r) (h1 : b = true → A = some r → G) (h2 : b = false → B = some r → G) : G := by
  cases b with
  | true => exact h1 rfl h
  | false => exact h2 rfl h
theorem gdP {α : Type} {p : Prop} [Decidable p] {A : Option α} {r : α} {G : Prop} (h : (if p then A else none) = some r) (h1 : p → A = some r → G) : G := by
  by_cases hp : p
  · rw [if_pos hp] at h; exact h1 hp h
  · rw [if_neg hp] at h; cases h
theorem bdO {α β : Type} {x : Option β} {f : β → Option α} {r : α} {G : Prop} (h : x.bind f = some r) (h1 : ∀ y, x = some y → f y = some r → G) : G := by
  cases x with
  | none => cases h
  | some y => exact h1 y rfl h
end
end Go.V

/- The by-value machine, part 26: joins, loops, and short names for printed values. -/
namespace Go.V
open Go

abbrev w64 (x : Int) : Int := IntKind.i64.wrap x
abbrev wu64 (x : Int) : Int := IntKind.u64.wrap x
abbrev w32 (x : Int) : Int := IntKind.i32.wrap x
abbrev wu32 (x : Int) : Int := IntKind.u32.wrap x
abbrev w16 (x : Int) : Int := IntKind.i16.wrap x
abbrev wu16 (x : Int) : Int := IntKind.u16.wrap x
abbrev w8 (x : Int) : Int := IntKind.i8.wrap x
abbrev wu8 (x : Int) : Int := IntKind.u8.wrap x
abbrev n8 (x : UInt8) : Int := (x.toNat : Int)
abbrev b8 (n : Int) : UInt8 := UInt8.ofNat n.toNat

theorem toNat_lt {n : Int} {m : Nat} (h : 0 ≤ n ∧ n < (m : Int)) : n.toNat < m := by omega

section
variable {P : Program} {tab : Tab} {E : Env} {Q : Exit → Act → World → Prop} {nt I0 : Nat} {st st' : LS} {c : Code}

/-- A place that is come to by more than one way. -/
theorem fJ {ι : Type} (stf : ι → LS) (pre : ι → Prop) (hj : ∀ i, pre i → Next E nt I0 (Q .normal) (stf i)) (h : (∀ i, pre i → Next E nt I0 (Q .normal) (stf i)) → Fits P E nt I0 Q st c) : Fits P E nt I0 Q st c := h hj

/-- A loop, by a function over the rounds that are left. -/
theorem fLoopI {ι o : Type} (Fl : Nat → ι → Option o) (stf : ι → LS) (Post : (Exit → Act → World → Prop) → o → Prop) (h0 : ∀ i, Fl 0 i = none) {k : Nat} {i : ι} {out : o} (h : Fl k i = some out) (hP : Post Q out)
    (step : ∀ n, (∀ i out, Fl n i = some out → Post Q out → Next E nt I0 (Code.rounds P c Q n) (stf i)) → ∀ i out, Fl (n + 1) i = some out → Post Q out → Fits P E nt I0 (Exit.then (Code.rounds P c Q n) Q) (stf i) c) :
    Fits P E nt I0 Q (stf i) (.loop c) := by
  have key : ∀ n i out, Fl n i = some out → Post Q out → Next E nt I0 (Code.rounds P c Q n) (stf i) := by
    intro n
    induction n with
    | zero => intro i out h; rw [h0] at h; cases h
    | succ n ih => intro i out h hP; exact rounds_step (step n ih i out h hP)
  exact fLoop k (key k i out h hP)

/-- A condition, with what the function says. -/
theorem fIf {α : Type} {o : Operand} {b : Bool} {x y : Code} {A B : Option α} {r : α} (hc : evalO st.vs.sl' o = some (.bool b)) (h : (if b = true then A else B) = some r) (ht : b = true → A = some r → Fits P E nt I0 Q st x) (hf : b = false → B = some r → Fits P E nt I0 Q st y) :
    Fits P E nt I0 Q st (.cond o x y) := by
  cases b with
  | true => exact fCond hc (fun _ => ht rfl h) (fun h => by cases h)
  | false => exact fCond hc (fun h => by cases h) (fun _ => hf rfl h)
theorem fTrue {o : Operand} {x y : Code} (hc : evalO st.vs.sl' o = some (.bool true)) (h : Fits P E nt I0 Q st x) : Fits P E nt I0 Q st (.cond o x y) := fCond hc (fun _ => h) (fun h => by cases h)
theorem fFalse {o : Operand} {x y : Code} (hc : evalO st.vs.sl' o = some (.bool false)) (h : Fits P E nt I0 Q st y) : Fits P E nt I0 Q st (.cond o x y) := fCond hc (fun h => by cases h) (fun _ => h)

theorem thRet {K : Act → World → Prop} (h : Next E nt I0 (Q .ret) st) : Next E nt I0 (Exit.then K Q .ret) st := fun h1 h2 a w hS => h h1 h2 a w hS
theorem thExit {K : Act → World → Prop} {i : Nat} (h : Next E nt I0 (Q (.exit i)) st) : Next E nt I0 (Exit.then K Q (.exit i)) st := fun h1 h2 a w hS => h h1 h2 a w hS
theorem blRet {i : Nat} (h : Next E nt I0 (Q .ret) st) : Next E nt I0 (Exit.inBlock i Q .ret) st := fun h1 h2 a w hS => h h1 h2 a w hS
theorem blHit {i : Nat} (h : Next E nt I0 (Q .normal) st) : Next E nt I0 (Exit.inBlock i Q (.exit i)) st := fun h1 h2 a w hS => by
  show (if i = i then Q .normal a w else Q (.exit i) a w)
  rw [if_pos rfl]; exact h h1 h2 a w hS
theorem blMiss {i j : Nat} (hij : (j == i) = false) (h : Next E nt I0 (Q (.exit j)) st) : Next E nt I0 (Exit.inBlock i Q (.exit j)) st := fun h1 h2 a w hS => by
  show (if j = i then Q .normal a w else Q (.exit j) a w)
  rw [if_neg (by simpa using hij)]; exact h h1 h2 a w hS
theorem blNorm {i : Nat} (h : Next E nt I0 (Q .normal) st) : Next E nt I0 (Exit.inBlock i Q .normal) st := fun h1 h2 a w hS => h h1 h2 a w hS
theorem thNorm {K : Act → World → Prop} (h : Next E nt I0 K st) : Next E nt I0 (Exit.then K Q .normal) st := fun h1 h2 a w hS => h h1 h2 a w hS

theorem bdS {α β γ : Type} {x : Option (β ⊕ γ)} {f : β → Option α} {g : γ → Option α} {r : α} {G : Prop} (h : x.bind (Sum.elim f g) = some r) (h1 : ∀ out, x = some out → (∀ v, out = .inl v → f v = some r) → (∀ v, out = .inr v → g v = some r) → G) : G := by
  cases x with
  | none => cases h
  | some y =>
    refine h1 y rfl ?_ ?_
    · rintro v rfl; exact h
    · rintro v rfl; exact h
end
end Go.V

/- The by-value machine, part 27: structs of simple fields are compared field by field. -/
namespace Go.V
open Go

/-- Two cells of a type that is compared by its value. -/
def kindOk (P : Program) (T : TypeId) (x y : AV) : Bool :=
  match P.underlying T, x, y with
  | some (.int _), .int _ _, .int _ _ => true
  | some (.int _), .byte _, .byte _ => true
  | some .bool, .bool _, .bool _ => true
  | some .string, .str _, .str _ => true
  | _, _, _ => false
def okFlds (P : Program) : Nat → List Field → List AV → List AV → Bool
  | _, [], [], [] => true
  | i, f :: fs, x :: xs, y :: ys => !(f.name == "_") && f.offset == i && kindOk P f.type x y && okFlds P (i + 1) fs xs ys
  | _, _, _, _ => false
def eqStOk (P : Program) (T : TypeId) (xs ys : List AV) : Bool :=
  (match P.underlying T with | some (.struct _) => true | _ => false) && !P.stoodInHeld T && !P.eqGuardType P.depth T && okFlds P 0 (P.fieldsOf T).toList xs ys

section
variable {P : Program}

theorem eqCs_cons {a b : AV} {as bs : List AV} {r : Bool} (h : eqCs (a :: as) (b :: bs) = some r) : ∃ x y, eqC a b = some x ∧ eqCs as bs = some y ∧ r = (x && y) := by
  cases as with
  | nil =>
    cases bs with
    | nil => simp only [eqCs] at h; exact ⟨r, true, h, rfl, by simp⟩
    | cons b' bs => simp only [eqCs] at h; split at h <;> simp_all
  | cons a' as =>
    cases bs with
    | nil => simp only [eqCs] at h; split at h <;> simp_all
    | cons b' bs =>
      have e : eqCs (a :: a' :: as) (b :: b' :: bs) = match eqC a b, eqCs (a' :: as) (b' :: bs) with
        | some x, some y => some (x && y)
        | _, _ => none := rfl
      rw [e] at h
      split at h
      · rename_i x y h1 h2
        simp only [Option.some.injEq] at h
        exact ⟨x, y, h1, h2, h.symm⟩
      · cases h

theorem kind_run {w : World} {B : Rg} {M : Mem} {d : Nat} {T : TypeId} {x y : AV} {v u : Value} {r : Bool} {vs us : Array Value} {i : Nat} (hk : kindOk P T x y = true) (h : eqC x y = some r) (hx : VR B M x v) (hy : VR B M y u) (hv : vs[i]? = some v) (hu : us[i]? = some u) :
    (do let a ← part T vs i; let b ← part T us i; Op.equalIn (d + 1) T a b : Sem Bool).run P w = .ok r w := by
  unfold kindOk at hk
  split at hk
  · rename_i k hT
    cases hx; cases hy
    simp only [eqC] at h
    split at h
    · rename_i hkk
      subst hkk
      simp only [Option.some.injEq] at h
      subst h
      simp [part, isAgg, run_underlying hT, hv, hu, Op.equalIn]
    · cases h
  · rename_i k hT
    cases hx; cases hy
    simp only [eqC, Option.some.injEq] at h
    subst h
    simp [part, isAgg, run_underlying hT, hv, hu, Op.equalIn]
  · rename_i hT
    cases hx; cases hy
    simp only [eqC, Option.some.injEq] at h
    subst h
    simp [part, isAgg, run_underlying hT, hv, hu, Op.equalIn]
  · rename_i hT
    cases hx; cases hy
    simp only [eqC, Option.some.injEq] at h
    subst h
    simp [part, isAgg, run_underlying hT, hv, hu, Op.equalIn, beq_toListBytes, toList_mk]
  · cases hk

theorem flds_run {w : World} {B : Rg} {M : Mem} {d : Nat} {va ua : Array Value} : ∀ {fs : List Field} {i : Nat} {xs ys : List AV} {vs us : List Value} {r : Bool}, okFlds P i fs xs ys = true → eqCs xs ys = some r → VRs B M xs vs → VRs B M ys us →
    (∀ j v, vs[j]? = some v → va[i + j]? = some v) → (∀ j v, us[j]? = some v → ua[i + j]? = some v) → (Op.eqFields (d + 1) va ua fs).run P w = .ok r w
  | [], i, [], [], _, _, r, _, h, _, _, _, _ => by
    simp only [eqCs, Option.some.injEq] at h
    subst h
    simp [Op.eqFields]
  | [], _, [], _ :: _, _, _, _, h, _, _, _, _, _ => by simp [okFlds] at h
  | [], _, _ :: _, _, _, _, _, h, _, _, _, _, _ => by simp [okFlds] at h
  | _ :: _, _, [], _, _, _, _, h, _, _, _, _, _ => by simp [okFlds] at h
  | _ :: _, _, _ :: _, [], _, _, _, h, _, _, _, _, _ => by simp [okFlds] at h
  | f :: fs, i, x :: xs, y :: ys, _, _, r, ho, h, .cons (v := v) (vs := vs) h1 h2, .cons (v := u) (vs := us) h3 h4, hv, hu => by
    simp only [okFlds, Bool.and_eq_true, Bool.not_eq_true', beq_eq_false_iff_ne, beq_iff_eq] at ho
    obtain ⟨⟨⟨hn, hoff⟩, hk⟩, hrest⟩ := ho
    obtain ⟨b1, b2, e1, e2, rfl⟩ := eqCs_cons h
    have hr := kind_run (P := P) (w := w) (d := d) (vs := va) (us := ua) (i := i) hk e1 h1 h3 (by simpa using hv 0 v rfl) (by simpa using hu 0 u rfl)
    have ih := flds_run (w := w) (d := d) (va := va) (ua := ua) hrest e2 h2 h4 (fun j z hz => by
      have := hv (j + 1) z (by simpa using hz)
      rwa [show i + 1 + j = i + (j + 1) by omega]) (fun j z hz => by
      have := hu (j + 1) z (by simpa using hz)
      rwa [show i + 1 + j = i + (j + 1) by omega])
    simp only [Op.eqFields, hoff]
    rw [if_pos (by simpa using hn)]
    simp only [Sem.run_bind] at hr ⊢
    cases hp1 : (part f.type va i).run P w with
    | halt q w1 => rw [hp1] at hr; simp [Result.andThen] at hr
    | ok a w1 =>
      rw [hp1] at hr
      simp only [Result.andThen_ok] at hr ⊢
      cases hp2 : (part f.type ua i).run P w1 with
      | halt q w2 => rw [hp2] at hr; simp [Result.andThen] at hr
      | ok b w2 =>
        rw [hp2] at hr
        simp only [Result.andThen_ok] at hr ⊢
        rw [hr]
        simp only [Result.andThen_ok]
        cases b1 with
        | false => simp
        | true => simpa using ih

theorem eqok_of {T : TypeId} {xs ys : List AV} {r : Bool} (h : eqStOk P T xs ys = true) (he : eqCs xs ys = some r) : EqOk P T xs ys r := by
  simp only [eqStOk, Bool.and_eq_true, Bool.not_eq_true'] at h
  obtain ⟨⟨⟨h1, h2⟩, h3⟩, h4⟩ := h
  have hT : P.underlying T = some (.struct (P.fieldsOf T)) := by
    unfold Program.fieldsOf
    split at h1
    · rename_i fs hu; rw [hu]
    · cases h1
  intro B M vs us x y hx hy
  have key : (Op.equalIn 10000 T (.agg vs.toArray) (.agg us.toArray)).run P M.w = .ok r M.w := by
    rw [run_equalIn_struct M.w 9999 T _ _ hT h2]
    exact flds_run (d := 9998) h4 he hx hy (fun j v hj => by simpa using hj) (fun j v hj => by simpa using hj)
  constructor
  · simp only [Sem.run_bind, run_eqGuard_agg M.w _ _ _ _ _ _ h3, Result.andThen_ok, run_eql_struct, key]
  · simp only [Sem.run_bind, run_eqGuard_agg M.w _ _ _ _ _ _ h3, Result.andThen_ok, run_neq_struct, key]
end
end Go.V

/- The by-value machine, part 28: outcomes of several kinds, labels behind two pieces. -/
namespace Go.V
open Go

section
variable {α β γ δ ε : Type} {r : α} {G : Prop}

theorem bdV2 {x : Option (β ⊕ γ)} {f : β → Option α} {g : γ → Option α} (h : x.bind (Sum.elim f g) = some r) (h1 : ∀ y, x = some (.inl y) → f y = some r → G) (h2 : ∀ y, x = some (.inr y) → g y = some r → G) : G := by
  cases x with
  | none => cases h
  | some y => cases y with
    | inl y => exact h1 y rfl h
    | inr y => exact h2 y rfl h
theorem bdV3 {x : Option (β ⊕ γ ⊕ δ)} {f : β → Option α} {g : γ → Option α} {k : δ → Option α} (h : x.bind (Sum.elim f (Sum.elim g k)) = some r) (h1 : ∀ y, x = some (.inl y) → f y = some r → G) (h2 : ∀ y, x = some (.inr (.inl y)) → g y = some r → G)
    (h3 : ∀ y, x = some (.inr (.inr y)) → k y = some r → G) : G := by
  cases x with
  | none => cases h
  | some y => cases y with
    | inl y => exact h1 y rfl h
    | inr y => cases y with
      | inl y => exact h2 y rfl h
      | inr y => exact h3 y rfl h
theorem bdS2 {x : Option (β ⊕ γ)} {f : β → Option α} {g : γ → Option α} (h : x.bind (Sum.elim f g) = some r) (h1 : ∀ out, x = some out → (∀ v, out = .inl v → f v = some r) → (∀ v, out = .inr v → g v = some r) → G) : G := by
  cases x with
  | none => cases h
  | some y =>
    refine h1 y rfl ?_ ?_
    · rintro v rfl; exact h
    · rintro v rfl; exact h
theorem bdS3 {x : Option (β ⊕ γ ⊕ δ)} {f : β → Option α} {g : γ → Option α} {k : δ → Option α} (h : x.bind (Sum.elim f (Sum.elim g k)) = some r)
    (h1 : ∀ out, x = some out → (∀ v, out = .inl v → f v = some r) → (∀ v, out = .inr (.inl v) → g v = some r) → (∀ v, out = .inr (.inr v) → k v = some r) → G) : G := by
  cases x with
  | none => cases h
  | some y =>
    refine h1 y rfl ?_ ?_ ?_
    · rintro v rfl; exact h
    · rintro v rfl; exact h
    · rintro v rfl; exact h
theorem bdS4 {x : Option (β ⊕ γ ⊕ δ ⊕ ε)} {f : β → Option α} {g : γ → Option α} {k : δ → Option α} {l : ε → Option α} (h : x.bind (Sum.elim f (Sum.elim g (Sum.elim k l))) = some r)
    (h1 : ∀ out, x = some out → (∀ v, out = .inl v → f v = some r) → (∀ v, out = .inr (.inl v) → g v = some r) → (∀ v, out = .inr (.inr (.inl v)) → k v = some r) → (∀ v, out = .inr (.inr (.inr v)) → l v = some r) → G) : G := by
  cases x with
  | none => cases h
  | some y =>
    refine h1 y rfl ?_ ?_ ?_ ?_
    · rintro v rfl; exact h
    · rintro v rfl; exact h
    · rintro v rfl; exact h
    · rintro v rfl; exact h
end

section
variable {P : Program} {tab : Tab} {E : Env} {Q : Exit → Act → World → Prop} {nt I0 : Nat} {st st' : LS} {x y z c : Code}

/-- A piece that is come to by more than one way: behind one piece, and behind two. -/
theorem fSJ {ι : Type} (stf : ι → LS) (pre : ι → Prop) (hj : ∀ i, pre i → Fits P E nt I0 Q (stf i) y) (h : (∀ i, pre i → Next E nt I0 (y.wp P Q) (stf i)) → Fits P E nt I0 Q st (.seq x y)) : Fits P E nt I0 Q st (.seq x y) := h hj
/-- A condition that is known. -/
theorem fKnT {o : Operand} {b : Bool} (hc : evalO st.vs.sl' o = some (.bool b)) (hb : b = true) (h : Fits P E nt I0 Q st x) : Fits P E nt I0 Q st (.cond o x y) := fCond hc (fun _ => h) (fun h' => by rw [hb] at h'; cases h')
theorem fKnF {o : Operand} {b : Bool} (hc : evalO st.vs.sl' o = some (.bool b)) (hb : b = false) (h : Fits P E nt I0 Q st y) : Fits P E nt I0 Q st (.cond o x y) := fCond hc (fun h' => by rw [hb] at h'; cases h') (fun _ => h)
theorem nEndN {tab : Tab} {fn : Func} {R : AV → List (Nat × Ob) → Prop} {cs : List AV} (h : resAll tab st.vs fn.results.toList = some cs) (hR : R (tupOf cs) st.ob) : Next E nt I0 (VPost tab fn E R .normal) st :=
  fun _ _ _ _ hS => ⟨st, cs, hS, h, hR⟩
theorem fSJ2 {ι : Type} (stf : ι → LS) (pre : ι → Prop) (hj : ∀ i, pre i → Fits P E nt I0 Q (stf i) z) (h : (∀ i, pre i → Next E nt I0 (z.wp P Q) (stf i)) → Fits P E nt I0 Q st (.seq x (.seq y z))) : Fits P E nt I0 Q st (.seq x (.seq y z)) := h hj
end
end Go.V

/- The by-value machine, part 29: from a contract to a law's row. -/
namespace Go.V
open Go Go.RowKit

/-- Nothing is owned; all that is old may be looked into. -/
def M0 (w : World) : Mem := ⟨fun _ => none, fun _ => .nilFunc, w⟩
def B0 (w : World) : Rg := ⟨w.heap.size, fun _ => True⟩

theorem law_calls {P : Program} {f : FuncId} {args : List AV} {vs : List Value} {w : World} (h : VCalls P f args [] (fun v os => v = .bool true ∧ os = [])) (hv : VRs (B0 w) (M0 w) args vs) :
    Calls P f vs.toArray w fun e w' => e = .returned (.bool true) ∧ Below w.heap.size w w' := by
  refine (h.2 w (fun _ => none) (fun _ => .nilFunc) (fun _ => True) vs (fun b o h => by cases h) (fun o ob h => by simp at h) hv).mono ?_
  rintro e w' ⟨v, res, robs, own', ρ', rfl, ⟨rfl, rfl⟩, hfr, hres, _, _⟩
  cases hres
  exact ⟨rfl, hfr.os, hfr.tape, hfr.output, hfr.size, fun k hk => (hfr.old k hk rfl).2⟩

/-- A byte of a number. -/
def u8 (n : Int) : UInt8 := UInt8.ofNat n.toNat
theorem u8_spec {n : Int} (h : (Lit.int .u8 n).wf = true) : ((u8 n).toNat : Int) = n := by
  have h' : 0 ≤ n ∧ n ≤ 255 := by simpa [Lit.wf, IntKind.min, IntKind.max, IntKind.signed, IntKind.bits] using h
  unfold u8
  rw [UInt8.toNat_ofNat']
  omega

/-- A row of bytes that came in. -/
theorem bytes_in {w : World} {a : Option Addr} {len cap : Nat} {zs : List Int} {e : TypeId} (h : (a = none ∧ len = 0 ∧ cap = 0 ∧ zs = []) ∨
    ∃ x, a = some x ∧ len ≤ cap ∧ cap ≤ maxLen ∧ zs.length = cap ∧ (∀ i, i < zs.length → w.cell? (x.add i) = some (.int .u8 (zs.getD i 0))) ∧ ∀ n ∈ zs, (Lit.int .u8 n).wf = true) :
    ∃ l : List UInt8, l.length ≤ maxLen ∧ VR (B0 w) (M0 w) (.ro true e .byte l) (.slice a len cap) := by
  rcases h with ⟨rfl, rfl, rfl, rfl⟩ | ⟨x, rfl, hl, hm, hz, hc, hw⟩
  · refine ⟨[], by simp, .ro ?_⟩
    simp only [RdC]
    exact ⟨none, 0, rfl, ⟨by simp, by simp⟩, fun h => absurd rfl h⟩
  · have e1 : ((zs.take len).map u8).length = len := by simp; omega
    refine ⟨(zs.take len).map u8, by omega, .ro ?_⟩
    simp only [RdC, e1]
    refine ⟨some x, cap, rfl, ⟨by omega, hl⟩, fun _ => ⟨x, rfl, ⟨rfl, .inr ⟨rfl, trivial⟩⟩, fun j hj => ?_⟩⟩
    refine ⟨_, rfl, fun i u hi => ?_⟩
    have hi0 : i = 0 := by
      have := (List.getElem?_eq_some_iff.1 hi).1
      simpa using this
    subst hi0
    simp only [List.getElem?_cons_zero, Option.some.injEq] at hi
    subst hi
    have hlt : j < zs.length := by omega
    have h2 := hc j hlt
    simp only [Ty.sz, Nat.mul_one, Nat.add_zero]
    simp only [M0]
    rw [h2]
    simp only [List.getElem_map, List.getElem_take]
    rw [u8_spec (hw _ (List.getElem_mem hlt))]
    simp [List.getD_eq_getElem?_getD, hlt]
end Go.V
