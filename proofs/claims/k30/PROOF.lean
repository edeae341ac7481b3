import PyProof.Rows.All
import Wide.All
import OpenK.AllK
import Wide.FinOn
import HandS.Base
import HandS.Call
import HandS.List
import HandS.Comp
import HandS.Dict
import HandS.Iter
import HandS.Exc
import HandS.WordsExc
import HandS.CallSlots
import HandS.Zip
import HandS.TupAny
import HandS.TupLe
import HandS.IsInst
import HandS.SortInts
import HandS.TupSets
import HandS.Style
import HandS.Deep
import HandS.Flow
import HandS.Defaults
import HandS.ExcOwn
import HandS.Conv
import PyProof.ReprRoads
import HandS.Ends
import HandS.HeadEnd
import HandS.EndBits
import HandS.DictTup
import HandS.DictComp
import KE.KDictPairs
import KE.KSortTupG
import KE.KDictCopyH
import HandS.Head0
import HandS.Head1
import HandS.Head2
import HandS.HeadHook1
import HandS.HeadHook2
import KE.KStateDown
import Lean
import PySem.Challenge.RW_eachtwo_k30_whole_over_and_needless
set_option Elab.async false
set_option linter.all false
set_option maxRecDepth 100000
set_option maxHeartbeats 4000000
/-! ### deep data, the state of a pure run, and what it says of the heap -/
namespace PL
open PySem L2

/-- deep data -/
inductive D where
  | non | bl (b : Bool) | int (i : Int) | str (s : Str)
  | lst (xs : List D) | tup (xs : List D) | dic (kvs : List (D × D)) | dct (kvs : List (D × D)) | st (xs : List D)
  | fn (k : Nat) (caps : List D) | exc (k : Nat) (fs : List D)

/-- what the text has: the written part, functions and exceptions by number -/
structure Gx where
  K : PySem.W.Frag
  fa : Nat → Addr → Prop
  xr : Hp → (Addr → Prop) → D → Value → Option Addr → Prop

def keyD : Key → D
  | .inl i => .int i
  | .inr s => .str s
def keysD (l : List Key) : D := .tup (l.map keyD)

/-- a list that nobody changes: the script -/
def SqF (K : PySem.W.Frag) (H : Hp) (a : Addr) (xs : List V) : Prop :=
  (∃ o, H a = some (.frz o (.lst xs))) ∨
    ∃ (o : Obj) (its : Array Value) (n : Nat), K.lookup a = some o ∧ o.cls = .type "list" ∧ o.dict = none ∧ o.data = .seq its n ∧ its.size ≤ sizeLine ∧ Vals xs its.toList
theorem SqF.l {K : PySem.W.Frag} {H : Hp} {a : Addr} {xs : List V} (h : SqF K H a xs) : SqL K H a xs := by
  rcases h with h | h
  · exact .inl (.inr h)
  · exact .inr h
mutual
/-- the value v is the data d; no list, dict at an address in B is read -/
inductive DR (G : Gx) (H : Hp) (B : Addr → Prop) : D → V → Prop
  | non : DR G H B .non .non
  | bl (b : Bool) : DR G H B (.bl b) (.bl b)
  | int (i : Int) : DR G H B (.int i) (.int i)
  | str (s : Str) : DR G H B (.str s) (.str s)
  | lst {a : Addr} {vs : List V} {ds : List D} : ¬ B a → H a = some (.lst vs) → DRs G H B ds vs → DR G H B (.lst ds) (.ref a)
  | st {a : Addr} {vs : List V} {ds : List D} : SqF G.K H a vs → DRs G H B ds vs → DR G H B (.st ds) (.ref a)
  | tup {a : Addr} {vs : List V} {ds : List D} : H a = some (.tup vs) → DRs G H B ds vs → DR G H B (.tup ds) (.ref a)
  | dicK {a : Addr} {kvs : List (Key × V)} {ds : List (D × D)} : ¬ B a → H a = some (.dK kvs) → ds.map (·.1) = kvs.map (fun p => keyD p.1) → DRp G H B ds (kvs.map (·.2)) → DR G H B (.dic ds) (.ref a)
  | dicT {a : Addr} {kvs : List (List Key × V)} {ds : List (D × D)} : ¬ B a → H a = some (.dT kvs) → ds.map (·.1) = kvs.map (fun p => keysD p.1) → DRp G H B ds (kvs.map (·.2)) → DR G H B (.dct ds) (.ref a)
  | fn {k : Nat} {a : Addr} : G.fa k a → DR G H B (.fn k []) (.ref a)
inductive DRs (G : Gx) (H : Hp) (B : Addr → Prop) : List D → List V → Prop
  | nil : DRs G H B [] []
  | cons {d : D} {ds : List D} {v : V} {vs : List V} : DR G H B d v → DRs G H B ds vs → DRs G H B (d :: ds) (v :: vs)
inductive DRp (G : Gx) (H : Hp) (B : Addr → Prop) : List (D × D) → List V → Prop
  | nil : DRp G H B [] []
  | cons {k d : D} {ds : List (D × D)} {v : V} {vs : List V} : DR G H B d v → DRp G H B ds vs → DRp G H B ((k, d) :: ds) (v :: vs)
end

/-- from (H, B) to (H', B') what data reads stays -/
structure Mono (H : Hp) (B : Addr → Prop) (H' : Hp) (B' : Addr → Prop) : Prop where
  keep : ∀ a o, H a = some o → ¬ B a → H' a = some o
  mu : ∀ a, B a → Mut (H a)
  new : ∀ a, B' a → B a ∨ H a = none

theorem Mono.imm {H H' : Hp} {B B' : Addr → Prop} (m : Mono H B H' B') {a : Addr} {o : HO} (e : H a = some o) (n : ¬ Mut (some o)) : H' a = some o :=
  m.keep a o e fun b => n (by have := m.mu a b; rwa [e] at this)
theorem Mono.notB {H H' : Hp} {B B' : Addr → Prop} (m : Mono H B H' B') {a : Addr} {o : HO} (e : H a = some o) (n : ¬ B a) : ¬ B' a := fun b => by
  rcases m.new a b with h | h
  · exact n h
  · rw [e] at h; cases h
theorem Mono.rdl {H H' : Hp} {B B' : Addr → Prop} (m : Mono H B H' B') {a : Addr} {vs : List V} (n : ¬ B a) (h : Rd H a (.lst vs)) : ¬ B' a ∧ Rd H' a (.lst vs) := by
  rcases h with h | ⟨o, h⟩
  · exact ⟨m.notB h n, .inl (m.keep a _ h n)⟩
  · exact ⟨m.notB h n, .inr ⟨o, m.keep a _ h n⟩⟩
theorem Mono.sqf {K : PySem.W.Frag} {H H' : Hp} {B B' : Addr → Prop} (m : Mono H B H' B') {a : Addr} {vs : List V} (h : SqF K H a vs) : SqF K H' a vs := by
  rcases h with ⟨o, h⟩ | h
  · exact .inl ⟨o, m.imm h id⟩
  · exact .inr h
theorem Mono.sqt {K : PySem.W.Frag} {H H' : Hp} {B B' : Addr → Prop} (m : Mono H B H' B') {a : Addr} {vs : List V} (h : SqT K H a vs) : SqT K H' a vs := by
  rcases h with (h | ⟨o, h⟩) | h
  · exact .inl (.inl (m.imm h id))
  · exact .inl (.inr ⟨o, m.imm h id⟩)
  · exact .inr h

section
variable {G : Gx} {H H' : Hp} {B B' : Addr → Prop}
mutual
theorem DR.mono (m : Mono H B H' B') : ∀ (d : D) {v : V}, DR G H B d v → DR G H' B' d v
  | .non, _, h => by cases h; exact .non
  | .bl b, _, h => by cases h; exact .bl b
  | .int i, _, h => by cases h; exact .int i
  | .str s, _, h => by cases h; exact .str s
  | .lst ds, _, h => by
    cases h with
    | lst n r hs => exact .lst (m.notB r n) (m.keep _ _ r n) (DRs.mono m ds hs)
  | .tup ds, _, h => by
    cases h with
    | tup r hs => exact .tup (m.imm r id) (DRs.mono m ds hs)
  | .dic ds, _, h => by
    cases h with
    | dicK n r e hs => exact .dicK (m.notB r n) (m.keep _ _ r n) e (DRp.mono m ds hs)
  | .dct ds, _, h => by
    cases h with
    | dicT n r e hs => exact .dicT (m.notB r n) (m.keep _ _ r n) e (DRp.mono m ds hs)
  | .st ds, _, h => by
    cases h with
    | st r hs => exact .st (m.sqf r) (DRs.mono m ds hs)
  | .fn k caps, _, h => by
    cases h with
    | fn r => exact .fn r
  | .exc _ _, _, h => by cases h
theorem DRs.mono (m : Mono H B H' B') : ∀ (ds : List D) {vs : List V}, DRs G H B ds vs → DRs G H' B' ds vs
  | [], _, h => by cases h; exact .nil
  | d :: ds, _, h => by
    cases h with
    | cons h1 h2 => exact .cons (DR.mono m d h1) (DRs.mono m ds h2)
theorem DRp.mono (m : Mono H B H' B') : ∀ (ds : List (D × D)) {vs : List V}, DRp G H B ds vs → DRp G H' B' ds vs
  | [], _, h => by cases h; exact .nil
  | (k, d) :: ds, _, h => by
    cases h with
    | cons h1 h2 => exact .cons (DR.mono m d h1) (DRp.mono m ds h2)
end
theorem DRs.length : ∀ {ds : List D} {vs : List V}, DRs G H B ds vs → ds.length = vs.length
  | [], _, h => by cases h; rfl
  | d :: ds, _, h => by
    cases h with
    | cons h1 h2 => simp [DRs.length h2]
theorem DRs.get : ∀ {ds : List D} {vs : List V} {i : Nat} {d : D}, DRs G H B ds vs → ds[i]? = some d → ∃ v, vs[i]? = some v ∧ DR G H B d v
  | [], _, _, _, h, e => by simp at e
  | d :: ds, _, 0, _, h, e => by
    cases h with
    | cons h1 h2 =>
      simp at e; subst e
      exact ⟨_, rfl, h1⟩
  | d :: ds, _, i + 1, _, h, e => by
    cases h with
    | cons h1 h2 =>
      obtain ⟨v, e1, e2⟩ := DRs.get h2 (i := i) (by simpa using e)
      exact ⟨v, by simpa using e1, e2⟩
theorem DRs.getV : ∀ {ds : List D} {vs : List V} {i : Nat} {v : V}, DRs G H B ds vs → vs[i]? = some v → ∃ d, ds[i]? = some d ∧ DR G H B d v
  | [], _, _, _, h, e => by cases h; simp at e
  | d :: ds, _, 0, _, h, e => by
    cases h with
    | cons h1 h2 =>
      simp at e; subst e
      exact ⟨_, rfl, h1⟩
  | d :: ds, _, i + 1, _, h, e => by
    cases h with
    | cons h1 h2 =>
      obtain ⟨v, e1, e2⟩ := DRs.getV h2 (i := i) (by simpa using e)
      exact ⟨v, by simpa using e1, e2⟩
theorem DRs.app : ∀ {ds es : List D} {vs ws : List V}, DRs G H B ds vs → DRs G H B es ws → DRs G H B (ds ++ es) (vs ++ ws)
  | [], _, _, _, h, k => by cases h; exact k
  | d :: ds, _, _, _, h, k => by
    cases h with
    | cons h1 h2 => exact .cons h1 (DRs.app h2 k)
theorem DRs.one {d : D} {v : V} (h : DR G H B d v) : DRs G H B [d] [v] := .cons h .nil
theorem DRs.take : ∀ {ds : List D} {vs : List V} (n : Nat), DRs G H B ds vs → DRs G H B (ds.take n) (vs.take n)
  | _, _, 0, _ => .nil
  | [], _, _ + 1, h => by cases h; exact .nil
  | d :: ds, _, n + 1, h => by
    cases h with
    | cons h1 h2 => exact .cons h1 (DRs.take n h2)
theorem DRs.drop : ∀ {ds : List D} {vs : List V} (n : Nat), DRs G H B ds vs → DRs G H B (ds.drop n) (vs.drop n)
  | _, _, 0, h => h
  | [], _, _ + 1, h => by cases h; exact .nil
  | d :: ds, _, n + 1, h => by
    cases h with
    | cons h1 h2 => exact DRs.drop n h2
theorem DRs.set {d : D} {v : V} (h : DR G H B d v) : ∀ {ds : List D} {vs : List V} (n : Nat), DRs G H B ds vs → DRs G H B (ds.set n d) (vs.set n v)
  | [], _, _, h => by cases h; exact .nil
  | d :: ds, _, 0, h' => by
    cases h' with
    | cons h1 h2 => exact .cons h h2
  | d :: ds, _, n + 1, h' => by
    cases h' with
    | cons h1 h2 => exact .cons h1 (DRs.set h n h2)
theorem DRs.rev : ∀ {ds : List D} {vs : List V}, DRs G H B ds vs → DRs G H B ds.reverse vs.reverse
  | [], _, h => by cases h; exact .nil
  | d :: ds, _, h => by
    cases h with
    | cons h1 h2 =>
      rw [List.reverse_cons, List.reverse_cons]
      exact DRs.app (DRs.rev h2) (.one h1)
theorem DRs.erase : ∀ {ds : List D} {vs : List V} (n : Nat), DRs G H B ds vs → DRs G H B (ds.eraseIdx n) (vs.eraseIdx n)
  | [], _, _, h => by cases h; exact .nil
  | d :: ds, _, 0, h => by
    cases h with
    | cons h1 h2 => exact h2
  | d :: ds, _, n + 1, h => by
    cases h with
    | cons h1 h2 => exact .cons h1 (DRs.erase n h2)
theorem DRs.ints : ∀ {ns : List Int} {vs : List V}, DRs G H B (ns.map D.int) vs → vs = ns.map V.int
  | [], _, h => by cases h; rfl
  | n :: ns, _, h => by
    cases h with
    | cons h1 h2 => cases h1; rw [DRs.ints h2]; rfl
theorem DRs.ofInts : ∀ (ns : List Int), DRs G H B (ns.map D.int) (ns.map V.int)
  | [] => .nil
  | n :: ns => .cons (.int n) (DRs.ofInts ns)
end

/-- the object at a, of its own: a list, a dict, its items data -/
def OwR (G : Gx) (H : Hp) (B : Addr → Prop) (d : D) (a : Addr) : Prop :=
  (∃ ds vs, d = .lst ds ∧ H a = some (.lst vs) ∧ DRs G H B ds vs) ∨
  (∃ ds kvs, d = .dic ds ∧ H a = some (.dK kvs) ∧ ds.map (·.1) = kvs.map (fun p => keyD p.1) ∧ DRp G H B ds (kvs.map (·.2))) ∨
  (∃ ds kvs, d = .dct ds ∧ H a = some (.dT kvs) ∧ ds.map (·.1) = kvs.map (fun p => keysD p.1) ∧ DRp G H B ds (kvs.map (·.2)))
theorem OwR.mu {G : Gx} {H : Hp} {B : Addr → Prop} {d : D} {a : Addr} (h : OwR G H B d a) : Mut (H a) := by
  rcases h with ⟨_, _, _, e, _⟩ | ⟨_, _, _, e, _⟩ | ⟨_, _, _, e, _⟩ <;> rw [e] <;> trivial
theorem OwR.mono {G : Gx} {H H' : Hp} {B B' : Addr → Prop} {d : D} {a : Addr} (m : Mono H B H' B') (ea : H' a = H a) (h : OwR G H B d a) : OwR G H' B' d a := by
  rcases h with ⟨ds, vs, e1, e2, e3⟩ | ⟨ds, vs, e1, e2, e3, e4⟩ | ⟨ds, vs, e1, e2, e3, e4⟩
  · exact .inl ⟨ds, vs, e1, ea.trans e2, e3.mono m⟩
  · exact .inr (.inl ⟨ds, vs, e1, ea.trans e2, e3, e4.mono m⟩)
  · exact .inr (.inr ⟨ds, vs, e1, ea.trans e2, e3, e4.mono m⟩)
theorem OwR.dr {G : Gx} {H : Hp} {B : Addr → Prop} {d : D} {a : Addr} (n : ¬ B a) (h : OwR G H B d a) : DR G H B d (.ref a) := by
  rcases h with ⟨ds, vs, e1, e2, e3⟩ | ⟨ds, vs, e1, e2, e3, e4⟩ | ⟨ds, vs, e1, e2, e3, e4⟩
  · subst e1; exact .lst n e2 e3
  · subst e1; exact .dicK n e2 e3 e4
  · subst e1; exact .dicT n e2 e3 e4

/-! ### slots -/
inductive Sl where | un | dat (d : D) | own (d : D) | lent (d : D)
def Sl.held : Sl → Option D
  | .own d => some d
  | .lent d => some d
  | _ => none
abbrev Rho := List Sl
/-- the entry of a def: its heap, what is not to be read there, the parameters that it changes (a mask; their addresses) -/
structure Fr0 where
  G : Gx
  H0 : Hp
  B0 : Addr → Prop
  iom : List Bool
  ioa : Nat → Addr
def Fr0.Io (F : Fr0) (i : Nat) (a : Addr) : Prop := F.iom[i]? = some true ∧ F.ioa i = a
/-- what holds of slots and heap -/
structure SR (F : Fr0) (H : Hp) (σ : St) (ρ : Rho) (B : Addr → Prop) : Prop where
  len : σ.length = ρ.length
  dat : ∀ (i : Nat) d, ρ[i]? = some (.dat d) → ∃ v, σ[i]? = some (some v) ∧ DR F.G H B d v
  own : ∀ (i : Nat) (s : Sl) d, ρ[i]? = some s → s.held = some d → ∃ a, σ[i]? = some (some (.ref a)) ∧ B a ∧ OwR F.G H B d a ∧ (F.H0 a = none ∨ F.Io i a)
  dist : ∀ (i j : Nat) (s t : Sl) d e v, ρ[i]? = some s → s.held = some d → ρ[j]? = some t → t.held = some e → σ[i]? = some (some v) → σ[j]? = some (some v) → i = j
  keep : ∀ a o, F.H0 a = some o → (∀ i : Nat, ¬ F.Io i a) → H a = some o
  mu : ∀ a, B a → Mut (H a)
  bsub : ∀ a, F.B0 a → B a
  bnew : ∀ a, B a → F.B0 a ∨ F.H0 a = none
  b0 : ∀ a, F.B0 a → F.H0 a ≠ none
  io : ∀ (i : Nat) a, F.Io i a → F.B0 a ∧ ∃ (s : Sl) (d : D), ρ[i]? = some s ∧ s.held = some d ∧ σ[i]? = some (some (.ref a))
/-- an expression's step -/
structure Stp (F : Fr0) (σ : St) (ρ : Rho) (H : Hp) (B : Addr → Prop) (ρ' : Rho) (H' : Hp) (B' : Addr → Prop) : Prop where
  sr : SR F H' σ ρ' B'
  keep : ∀ a o, H a = some o → (∀ (i : Nat) d, ρ[i]? = some (.own d) → σ[i]? ≠ some (some (.ref a))) → H' a = some o
  bsub : ∀ a, B a → B' a
  bnew : ∀ a, B' a → B a ∨ H a = none
  sl : ∀ i : Nat, (∃ d d', ρ[i]? = some (.own d) ∧ ρ'[i]? = some (.own d')) ∨ ρ'[i]? = ρ[i]?
section
variable {F : Fr0} {σ : St} {ρ ρ' ρ2 : Rho} {H H' H2 : Hp} {B B' B2 : Addr → Prop}
theorem Stp.refl (s : SR F H σ ρ B) : Stp F σ ρ H B ρ H B := ⟨s, fun _ _ e _ => e, fun _ b => b, fun _ b => .inl b, fun _ => .inr rfl⟩
theorem Stp.trans (s : SR F H σ ρ B) (a : Stp F σ ρ H B ρ' H' B') (b : Stp F σ ρ' H' B' ρ2 H2 B2) : Stp F σ ρ H B ρ2 H2 B2 where
  sr := b.sr
  keep := fun x o e n => b.keep x o (a.keep x o e n) fun i d hi => by
    rcases a.sl i with ⟨d1, d2, e1, e2⟩ | e2
    · exact n i d1 e1
    · rw [e2] at hi; exact n i d hi
  bsub := fun x h => b.bsub x (a.bsub x h)
  bnew := fun x h => by
    rcases b.bnew x h with h | h
    · exact a.bnew x h
    · cases e : H x with
      | none => exact .inr rfl
      | some o =>
        by_cases hb : B x
        · exact .inl hb
        · refine absurd (a.keep x o e fun i d hi q => ?_) (by rw [h]; exact fun z => nomatch z)
          obtain ⟨y, e1, e2, _⟩ := s.own i _ d hi rfl
          rw [e1] at q; cases q
          exact hb e2
  sl := fun i => by
    rcases a.sl i with ⟨d1, d2, e1, e2⟩ | e2
    · rcases b.sl i with ⟨d3, d4, e3, e4⟩ | e4
      · exact .inl ⟨d1, d4, e1, e4⟩
      · exact .inl ⟨d1, d2, e1, by rw [e4]; exact e2⟩
    · rcases b.sl i with ⟨d3, d4, e3, e4⟩ | e4
      · exact .inl ⟨d3, d4, by rw [← e2]; exact e3, e4⟩
      · exact .inr (e4.trans e2)
theorem SR.ownB (s : SR F H σ ρ B) {i : Nat} {d : D} {a : Addr} (hi : ρ[i]? = some (.own d)) (e : σ[i]? = some (some (.ref a))) : B a := by
  obtain ⟨b, e1, e2, _⟩ := s.own i _ d hi rfl
  rw [e1] at e; cases e; exact e2
theorem Stp.mono (s : SR F H σ ρ B) (t : Stp F σ ρ H B ρ' H' B') : Mono H B H' B' :=
  ⟨fun a o e n => t.keep a o e fun i d hi q => n (s.ownB hi q), s.mu, t.bnew⟩
theorem Stp.held (t : Stp F σ ρ H B ρ' H' B') {i : Nat} {sl : Sl} {d : D} (h : ρ[i]? = some sl) (hd : sl.held = some d) : ∃ sl' d', ρ'[i]? = some sl' ∧ sl'.held = some d' := by
  rcases t.sl i with ⟨d1, d2, e1, e2⟩ | e2
  · exact ⟨_, d2, e2, rfl⟩
  · exact ⟨sl, d, by rw [e2, h], hd⟩
theorem Stp.held' (t : Stp F σ ρ H B ρ' H' B') {i : Nat} {sl : Sl} {d : D} (h : ρ'[i]? = some sl) (hd : sl.held = some d) : ∃ sl' d', ρ[i]? = some sl' ∧ sl'.held = some d' := by
  rcases t.sl i with ⟨d1, d2, e1, e2⟩ | e2
  · exact ⟨_, d1, e1, rfl⟩
  · exact ⟨sl, d, by rw [← e2, h], hd⟩
end
/-! ### what an expression gives -/
inductive Pd where | d (x : D) | f (x : D) | o (i : Nat)
def Pd.get (ρ : Rho) : Pd → Option D
  | .d x => some x
  | .f x => some x
  | .o i => match ρ[i]? with
    | some s => s.held
    | none => none
/-- as data -/
def Pd.dat : Pd → Option D
  | .d x => some x
  | .f x => some x
  | .o _ => none
inductive Rs (α : Type) where | ok (a : α) (ρ : Rho) | er (x : D) (ρ : Rho) | bad
abbrev Ex := Rho → Rs Pd
/-- Hs: the heap where the expression began -/
def PdR (F : Fr0) (Hs H : Hp) (B : Addr → Prop) (σ : St) (ρ : Rho) : Pd → V → Prop
  | .d x, v => DR F.G H B x v
  | .f x, v => ∃ a, v = .ref a ∧ B a ∧ OwR F.G H B x a ∧ Hs a = none ∧ ∀ (i : Nat) (s : Sl) (d : D), ρ[i]? = some s → s.held = some d → σ[i]? ≠ some (some (.ref a))
  | .o i, v => ∃ (s : Sl) (d : D), ρ[i]? = some s ∧ s.held = some d ∧ σ[i]? = some (some v)
/-- readable as the data d -/
def TR (G : Gx) (H : Hp) (B : Addr → Prop) (d : D) (v : V) : Prop := DR G H B d v ∨ ∃ a, v = .ref a ∧ OwR G H B d a
section
variable {F : Fr0} {σ : St} {ρ ρ' ρ2 : Rho} {H H' H2 : Hp} {B B' B2 : Addr → Prop}
theorem PdR.step (s : SR F H σ ρ B) (t : Stp F σ ρ H B ρ' H' B') : ∀ {Hs : Hp} {p : Pd} {v : V}, PdR F Hs H B σ ρ p v → PdR F Hs H' B' σ ρ' p v
  | _, .d x, v, h => DR.mono (t.mono s) x h
  | _, .f x, v, h => by
    obtain ⟨a, e, b, o, n, q⟩ := h
    have ha : ∃ u, H a = some u := by
      have := s.mu a b
      cases z : H a with
      | none => rw [z] at this; exact this.elim
      | some u => exact ⟨u, rfl⟩
    obtain ⟨u, hu⟩ := ha
    have hk : H' a = H a := by rw [hu]; exact t.keep a u hu fun i d hi => q i _ d hi rfl
    refine ⟨a, e, t.bsub a b, o.mono (t.mono s) hk, n, fun i sl d hi hd => ?_⟩
    obtain ⟨sl', d', h1, h2⟩ := t.held' hi hd
    exact q i sl' d' h1 h2
  | _, .o i, v, h => by
    obtain ⟨sl, d, h1, h2, h3⟩ := h
    obtain ⟨sl', d', h4, h5⟩ := t.held h1 h2
    exact ⟨sl', d', h4, h5, h3⟩
theorem PdR.tr (s : SR F H σ ρ B) {Hs : Hp} {p : Pd} {v : V} {d : D} (h : PdR F Hs H B σ ρ p v) (e : p.get ρ = some d) : TR F.G H B d v := by
  cases p with
  | d x => cases e; exact .inl h
  | f x =>
    cases e
    obtain ⟨a, e, _, o, _⟩ := h
    exact .inr ⟨a, e, o⟩
  | o i =>
    obtain ⟨sl, d', h1, h2, h3⟩ := h
    have e' : sl.held = some d := by
      have q : (Pd.o i).get ρ = sl.held := by
        show (match ρ[i]? with | some s => s.held | none => none) = sl.held
        rw [h1]
      rw [← q]; exact e
    obtain ⟨a, e1, _, e3, _⟩ := s.own i sl d h1 e'
    rw [h3] at e1; cases e1
    exact .inr ⟨a, rfl, e3⟩
/-- nothing vanishes -/
theorem Stp.dom (s : SR F H σ ρ B) (t : Stp F σ ρ H B ρ' H' B') {a : Addr} (h : H' a = none) : H a = none := by
  cases e : H a with
  | none => rfl
  | some o =>
    refine Classical.byContradiction fun _ => ?_
    refine absurd (t.keep a o e fun i d hi q => ?_) (by rw [h]; exact fun z => nomatch z)
    rcases t.sl i with ⟨d1, d2, e1, e2⟩ | e2
    · obtain ⟨b, q1, _, q3, _⟩ := t.sr.own i _ d2 e2 rfl
      rw [q1] at q; cases q
      have m := q3.mu
      rw [h] at m; exact m
    · rw [hi] at e2
      obtain ⟨b, q1, _, q3, _⟩ := t.sr.own i _ d e2 rfl
      rw [q1] at q; cases q
      have m := q3.mu
      rw [h] at m; exact m
theorem SR.dom0 (s : SR F H σ ρ B) {a : Addr} (h : H a = none) : F.H0 a = none := by
  cases e : F.H0 a with
  | none => rfl
  | some o =>
    refine absurd (s.keep a o e fun i hi => ?_) (by rw [h]; exact fun z => nomatch z)
    obtain ⟨_, sl, d, e1, e2, e3⟩ := s.io i a hi
    obtain ⟨b, q1, _, q3, _⟩ := s.own i sl d e1 e2
    rw [e3] at q1; cases q1
    have m := q3.mu
    rw [h] at m; exact m
theorem PdR.back {Hs Hs' : Hp} (k : ∀ a, Hs a = none → Hs' a = none) {p : Pd} {v : V} (h : PdR F Hs H B σ ρ p v) : PdR F Hs' H B σ ρ p v := by
  cases p with
  | d x => exact h
  | f x =>
    obtain ⟨a, e, b, o, n, q⟩ := h
    exact ⟨a, e, b, o, k a n, q⟩
  | o i => exact h
/-- an address that is no slot's is let go -/
theorem SR.drop (s : SR F H σ ρ B) {a : Addr} (h0 : F.H0 a = none) (hs : ∀ (i : Nat) (sl : Sl) (d : D), ρ[i]? = some sl → sl.held = some d → σ[i]? ≠ some (some (.ref a))) : SR F H σ ρ (fun b => B b ∧ b ≠ a) := by
  have m : Mono H B H (fun b => B b ∧ b ≠ a) := ⟨fun _ _ e _ => e, s.mu, fun _ b => .inl b.1⟩
  refine ⟨s.len, fun i d e => ?_, fun i sl d e1 e2 => ?_, s.dist, s.keep, fun b h => s.mu b h.1, fun b h => ⟨s.bsub b h, fun e => s.b0 b h (by rw [e]; exact h0)⟩, fun b h => s.bnew b h.1, s.b0, s.io⟩
  · obtain ⟨v, h1, h2⟩ := s.dat i d e
    exact ⟨v, h1, h2.mono m⟩
  · obtain ⟨b, h1, h2, h3, h4⟩ := s.own i sl d e1 e2
    exact ⟨b, h1, ⟨h2, fun z => hs i sl d e1 e2 (by rw [h1, z])⟩, h3.mono m rfl, h4⟩
theorem Stp.drop (s : SR F H σ ρ B) (t : Stp F σ ρ H B ρ' H' B') {a : Addr} (h0 : H a = none) (hs : ∀ (i : Nat) (sl : Sl) (d : D), ρ'[i]? = some sl → sl.held = some d → σ[i]? ≠ some (some (.ref a))) : Stp F σ ρ H B ρ' H' (fun b => B' b ∧ b ≠ a) :=
  ⟨t.sr.drop (s.dom0 h0) hs, t.keep, fun b h => ⟨t.bsub b h, fun e => by have m := s.mu b h; rw [e, h0] at m; exact m⟩, fun b h => t.bnew b h.1, t.sl⟩
/-- data of what an expression gives -/
theorem PdR.toDat (s : SR F H σ ρ B) (t : Stp F σ ρ H B ρ' H' B') {p : Pd} {v : V} {d : D} (h : PdR F H H' B' σ ρ' p v) (e : p.dat = some d) : ∃ B2, Stp F σ ρ H B ρ' H' B2 ∧ DR F.G H' B2 d v := by
  cases p with
  | d x => cases e; exact ⟨B', t, h⟩
  | f x =>
    cases e
    obtain ⟨a, e, b, o, n, q⟩ := h
    subst e
    refine ⟨_, t.drop s n q, ?_⟩
    exact OwR.dr (fun z => z.2 rfl) (o.mono ⟨fun _ _ e _ => e, t.sr.mu, fun _ b => .inl b.1⟩ rfl)
  | o i => cases e
end
end PL
set_option maxHeartbeats 4000000
/-! ### the readings of pure expressions -/
namespace PL
open PySem L2

def Rs.bind {α β : Type} : Rs α → (α → Rho → Rs β) → Rs β
  | .ok a ρ, k => k a ρ
  | .er x ρ, _ => .er x ρ
  | .bad, _ => .bad
def AftG {α β : Type} (F : Fr0) (W : WX) (σ : St) (ρ : Rho) (H : Hp) (B : Addr → Prop) (rel : Hp → (Addr → Prop) → Rho → α → β → Prop) (Q : β → Hp → Prop) : Rs α → Prop
  | .ok a ρ' => ∀ v H' B', Stp F σ ρ H B ρ' H' B' → rel H' B' ρ' a v → Q v H'
  | .er x ρ' => ∀ cls dd H' B', Stp F σ ρ H B ρ' H' B' → F.G.xr H' B' x cls dd → W cls dd σ H'
  | .bad => False
section
variable {α β γ δ : Type} {F : Fr0} {W : WX} {σ : St} {ρ ρ1 : Rho} {H H1 : Hp} {B B1 : Addr → Prop} {rel : Hp → (Addr → Prop) → Rho → α → β → Prop} {rel2 : Hp → (Addr → Prop) → Rho → γ → δ → Prop} {Q Q' : β → Hp → Prop} {Q2 : δ → Hp → Prop}
theorem AftG.imp {m : Rs α} (h : AftG F W σ ρ H B rel Q m) (k : ∀ v H', Q v H' → Q' v H') : AftG F W σ ρ H B rel Q' m := by
  cases m with
  | ok a ρ' => exact fun v H' B' st r => k _ _ (h v H' B' st r)
  | er x ρ' => exact h
  | bad => exact h
theorem AftG.bind {m : Rs α} {k : α → Rho → Rs γ} (h : AftG F W σ ρ H B rel2 Q2 (m.bind k)) :
    AftG F W σ ρ H B rel (fun v H1 => ∃ ρ1 B1 a, Stp F σ ρ H B ρ1 H1 B1 ∧ rel H1 B1 ρ1 a v ∧ AftG F W σ ρ H B rel2 Q2 (k a ρ1)) m := by
  cases m with
  | ok a ρ' => exact fun v H' B' st r => ⟨ρ', B', a, st, r, h⟩
  | er x ρ' => exact h
  | bad => exact h
/-- started later -/
theorem AftG.from_ {m : Rs α} (s : SR F H σ ρ B) (st : Stp F σ ρ H B ρ1 H1 B1) (h : AftG F W σ ρ H B rel Q m) : AftG F W σ ρ1 H1 B1 rel Q m := by
  cases m with
  | ok a ρ' => exact fun v H' B' st' r => h v H' B' (st.trans s st') r
  | er x ρ' => exact fun c d H' B' st' r => h c d H' B' (st.trans s st') r
  | bad => exact h
end
def TEx (F : Fr0) (W : WX) (t : Ex) : TE := fun σ H Q => ∃ ρ B, SR F H σ ρ B ∧ AftG F W σ ρ H B (fun H' B' ρ' => PdR F H H' B' σ ρ') Q (t ρ)
def TTx (F : Fr0) (W : WX) (t : Rho → Rs Bool) : TT := fun σ H Q => ∃ ρ B, SR F H σ ρ B ∧ AftG F W σ ρ H B (fun _ _ _ a b => a = b) Q (t ρ)
/-- an argument: data, or an own slot -/
inductive Ag where | d (x : D) | o (i : Nat)
def Pd.ag : Pd → Ag
  | .d x => .d x
  | .f x => .d x
  | .o i => .o i
def AgR (F : Fr0) (H : Hp) (B : Addr → Prop) (σ : St) (ρ : Rho) : Ag → V → Prop
  | .d x, v => DR F.G H B x v
  | .o i, v => ∃ (s : Sl) (d : D), ρ[i]? = some s ∧ s.held = some d ∧ σ[i]? = some (some v)
inductive AgRs (F : Fr0) (H : Hp) (B : Addr → Prop) (σ : St) (ρ : Rho) : List Ag → List V → Prop
  | nil : AgRs F H B σ ρ [] []
  | cons {a : Ag} {v : V} {as : List Ag} {vs : List V} : AgR F H B σ ρ a v → AgRs F H B σ ρ as vs → AgRs F H B σ ρ (a :: as) (v :: vs)
def TAx (F : Fr0) (W : WX) (t : Rho → Rs (List Ag)) : TA := fun σ H Q => ∃ ρ B, SR F H σ ρ B ∧ AftG F W σ ρ H B (fun H' B' ρ' => AgRs F H' B' σ ρ') Q (t ρ)

section
variable {F : Fr0} {σ : St} {ρ ρ' : Rho} {H H' : Hp} {B B' : Addr → Prop}
theorem AgR.step (s : SR F H σ ρ B) (t : Stp F σ ρ H B ρ' H' B') {a : Ag} {v : V} (h : AgR F H B σ ρ a v) : AgR F H' B' σ ρ' a v := by
  cases a with
  | d x => exact DR.mono (t.mono s) x h
  | o i =>
    obtain ⟨sl, d, h1, h2, h3⟩ := h
    obtain ⟨sl', d', h4, h5⟩ := t.held h1 h2
    exact ⟨sl', d', h4, h5, h3⟩
theorem PdR.toAg (s : SR F H σ ρ B) (t : Stp F σ ρ H B ρ' H' B') {p : Pd} {v : V} (h : PdR F H H' B' σ ρ' p v) : ∃ B2, Stp F σ ρ H B ρ' H' B2 ∧ AgR F H' B2 σ ρ' p.ag v := by
  cases p with
  | d x => exact ⟨B', t, h⟩
  | f x =>
    obtain ⟨B2, t2, h2⟩ := PdR.toDat s t h (d := x) rfl
    exact ⟨B2, t2, h2⟩
  | o i => exact ⟨B', t, h⟩
end

section
variable {X : Cx} {F : Fr0} {W : WX} {e a b : Expr} {es : List Expr} {pos : Pos}
theorem pe_imp {t t' : TE} (h : PE X e t) (k : ∀ σ H Q, t' σ H Q → t σ H Q) : PE X e t' := ⟨fun pins s σ H Q I q => h.run pins s σ H Q I (k σ H Q q)⟩
theorem pt_imp {t t' : TT} (h : PT X e t) (k : ∀ σ H Q, t' σ H Q → t σ H Q) : PT X e t' := ⟨fun pins s σ H Q I q => h.run pins s σ H Q I (k σ H Q q)⟩
theorem pw_imp {t t' : TT} (h : PW X e t) (k : ∀ σ H Q, t' σ H Q → t σ H Q) : PW X e t' := ⟨fun wh pins s σ H Q I q => h.run wh pins s σ H Q I (k σ H Q q)⟩
theorem pa_imp {t t' : TA} (h : PA X es t) (k : ∀ σ H Q, t' σ H Q → t σ H Q) : PA X es t' := ⟨fun ps pins s σ H Q I q => h.run ps pins s σ H Q I (k σ H Q q)⟩

/-! names, constants -/
def eVar (i : Nat) : Ex := fun ρ => match ρ[i]? with
  | some (.dat d) => .ok (.d d) ρ
  | some (.own _) => .ok (.o i) ρ
  | some (.lent _) => .ok (.o i) ρ
  | _ => .bad
theorem re_var (i : Nat) {x : Str} (hN : X.N[i]? = some x := by rfl) (hv : Vis X.env.scope x := by first | exact Or.inl rfl | exact Or.inr (Or.inl rfl) | exact Or.inr (Or.inr rfl)) (hd : (x == ("__debug__" : Str)) = false := by decide)
    (hcd : (x == ("__classdict__" : Str)) = false := by decide) : PE X (.Name x pos) (TEx F W (eVar i)) := by
  refine pe_imp (pv i hN hv hd hcd) fun σ H Q h => ?_
  obtain ⟨ρ, B, s, h⟩ := h
  unfold eVar at h
  cases e : ρ[i]? with
  | none => rw [e] at h; exact h.elim
  | some sl =>
    rw [e] at h
    cases sl with
    | un => exact h.elim
    | dat d =>
      obtain ⟨v, h1, h2⟩ := s.dat i d e
      exact ⟨v, h1, h v H B (.refl s) h2⟩
    | own d =>
      obtain ⟨v, h1, h2, h3, _⟩ := s.own i _ d e rfl
      exact ⟨_, h1, h _ H B (.refl s) ⟨_, d, e, rfl, h1⟩⟩
    | lent d =>
      obtain ⟨v, h1, h2, h3, _⟩ := s.own i _ d e rfl
      exact ⟨_, h1, h _ H B (.refl s) ⟨_, d, e, rfl, h1⟩⟩
def eK (d : D) : Ex := fun ρ => .ok (.d d) ρ
theorem tex_const {v : V} {d : D} (hd : ∀ H B, DR F.G H B d v) {σ : St} {H : Hp} {Q : VK} (h : TEx F W (eK d) σ H Q) : Q v H := by
  obtain ⟨ρ, B, s, h⟩ := h
  exact h v H B (.refl s) (hd H B)
theorem re_int {i : Int} {j : Nat} : PE X (.Constant (.int i) j pos) (TEx F W (eK (.int i))) := pe_imp pe_int fun _ _ _ h => tex_const (fun _ _ => .int i) h
theorem re_bl {b : Bool} {j : Nat} : PE X (.Constant (.bool b) j pos) (TEx F W (eK (.bl b))) := pe_imp pe_bl fun _ _ _ h => tex_const (fun _ _ => .bl b) h
theorem re_non {j : Nat} : PE X (.Constant .none j pos) (TEx F W (eK .non)) := pe_imp pe_non fun _ _ _ h => tex_const (fun _ _ => .non) h
theorem re_str {x : Str} {j : Nat} : PE X (.Constant (.str x) j pos) (TEx F W (eK (.str x))) := pe_imp pe_str fun _ _ _ h => tex_const (fun _ _ => .str x) h
theorem re_glob {x : Str} {v : V} {u : Value} {d : D} (hd : ∀ H B, DR F.G H B d v) (hg : Gl X x) (hm : X.mg x = some u) (r : RelV v u) (hdb : (x == ("__debug__" : Str)) = false := by decide) : PE X (.Name x pos) (TEx F W (eK d)) :=
  pe_imp (pe_glob hg hm r hdb) fun _ _ _ h => tex_const hd h

/-! argument lists -/
def aNil : Rho → Rs (List Ag) := fun ρ => .ok [] ρ
def aCons (t : Ex) (r : Rho → Rs (List Ag)) : Rho → Rs (List Ag) := fun ρ => (t ρ).bind fun p ρ1 => (r ρ1).bind fun as ρ2 => .ok (p.ag :: as) ρ2
theorem ra_nil : PA X [] (TAx F W aNil) := pa_imp pa_nil fun σ H Q h => by
  obtain ⟨ρ, B, s, h⟩ := h
  exact h [] H B (.refl s) .nil
theorem ra_cons {t : Ex} {r : Rho → Rs (List Ag)} (ha : PE X e (TEx F W t)) (hr : PA X es (TAx F W r)) (hs : starEach (e :: es) X.env = (false, eval e X.env) :: starEach es X.env := by rfl) : PA X (e :: es) (TAx F W (aCons t r)) := by
  refine pa_imp (pa_cons ha hr hs) fun σ H Q h => ?_
  obtain ⟨ρ, B, s, h⟩ := h
  refine ⟨ρ, B, s, AftG.imp (AftG.bind h) fun v H1 ⟨ρ1, B1, p, st, rp, h1⟩ => ?_⟩
  obtain ⟨B2, st2, ra⟩ := PdR.toAg s st rp
  refine ⟨ρ1, B2, st2.sr, AftG.imp (AftG.bind (AftG.from_ s st2 h1)) fun vs H2 ⟨ρ2, B3, as, st3, rs, h2⟩ => ?_⟩
  exact h2 _ H2 B3 st3 (.cons (ra.step st2.sr st3) rs)

/-! two operands, by value -/
def op2 (g : D → D → Option Pd) (p q : Pd) : Ex := fun ρ => match p.get ρ, q.get ρ with
  | some x, some y => (match g x y with
    | some r => .ok r ρ
    | none => .bad)
  | _, _ => .bad
def eBin (g : D → D → Option Pd) (ta tb : Ex) : Ex := fun ρ => (ta ρ).bind fun p ρ1 => (tb ρ1).bind fun q ρ2 => op2 g p q ρ2
/-- the operation's rule by values serves the function g on data -/
def OpS (F : Fr0) (r : R2) (g : D → D → Option Pd) : Prop := ∀ (σ : St) (ρ : Rho) (H : Hp) (B : Addr → Prop) (v w : V) (x y : D) (p : Pd) (Q : VK), SR F H σ ρ B → TR F.G H B x v → TR F.G H B y w → g x y = some p →
  (∀ u H' B', Stp F σ ρ H B ρ H' B' → PdR F H H' B' σ ρ p u → Q u H') → r v w H Q
theorem tex_bin {r : R2} {g : D → D → Option Pd} {ta tb : Ex} (hg : OpS F r g) {σ : St} {H : Hp} {Q : VK} (h : TEx F W (eBin g ta tb) σ H Q) : tOp r (TEx F W ta) (TEx F W tb) σ H Q := by
  obtain ⟨ρ, B, s, h⟩ := h
  refine ⟨ρ, B, s, AftG.imp (AftG.bind h) fun v H1 ⟨ρ1, B1, p, st, rp, h1⟩ => ?_⟩
  refine ⟨ρ1, B1, st.sr, AftG.imp (AftG.bind (AftG.from_ s st h1)) fun w H2 ⟨ρ2, B2, q, st2, rq, h2⟩ => ?_⟩
  have rp2 := PdR.step st.sr st2 rp
  unfold op2 at h2
  cases e1 : p.get ρ2 with
  | none => rw [e1] at h2; exact h2.elim
  | some x =>
    cases e2 : q.get ρ2 with
    | none => rw [e1, e2] at h2; exact h2.elim
    | some y =>
      rw [e1, e2] at h2
      cases e3 : g x y with
      | none => simp only [e3] at h2; exact h2.elim
      | some z =>
        simp only [e3] at h2
        refine hg σ ρ2 H2 B2 v w x y z Q st2.sr (rp2.tr st2.sr e1) (rq.tr st2.sr e2) e3 fun u H' B' st3 rz => ?_
        exact h2 u H' B' (st2.trans st.sr st3) (PdR.back (fun a n => (Stp.dom s (st.trans s st2) n)) rz)
theorem re_bin {op : Operator} {r : R2} {g : D → D → Option Pd} {ta tb : Ex} (ho : OpR X (binaryOp op) r) (hg : OpS F r g) (ha : PE X a (TEx F W ta)) (hb : PE X b (TEx F W tb)) : PE X (.BinOp a op b pos) (TEx F W (eBin g ta tb)) :=
  pe_imp (pe_op ho ha hb) fun _ _ _ h => tex_bin hg h
theorem re_cmp {op : CmpOp} {r : R2} {g : D → D → Option Pd} {ta tb : Ex} (ho : OpR X (compareOp op) r) (hg : OpS F r g) (ha : PE X a (TEx F W ta)) (hb : PE X b (TEx F W tb)) (hm : behindInMarks op b = false := by rfl) : PE X (.Compare a [op] [b] pos) (TEx F W (eBin g ta tb)) :=
  pe_imp (pe_cmpR ho ha hb hm) fun _ _ _ h => tex_bin hg h
end
end PL
set_option maxHeartbeats 4000000
/-! ### new objects, tests, displays, built-ins by values -/
namespace PL
open PySem L2

section
variable {F : Fr0} {σ : L2.St} {ρ ρ' : Rho} {H H' : Hp} {B B' : Addr → Prop} {p : Addr} {o : HO}
theorem ne_free {H : Hp} {a p : Addr} {o : HO} (e : H a = some o) (hp : H p = none) : a ≠ p := fun z => by rw [z, hp] at e; cases e
theorem SR.mono (s : SR F H σ ρ B) (m : Mono H B H' B') (kp : ∀ a o, F.H0 a = some o → (∀ i : Nat, ¬ F.Io i a) → H' a = some o) (ow : ∀ (i : Nat) (sl : Sl) (d : D) a, ρ[i]? = some sl → sl.held = some d → σ[i]? = some (some (.ref a)) → H' a = H a ∧ B' a)
    (mu : ∀ a, B' a → Mut (H' a)) (bs : ∀ a, F.B0 a → B' a) (bn : ∀ a, B' a → F.B0 a ∨ F.H0 a = none) : SR F H' σ ρ B' := by
  refine ⟨s.len, fun i d e => ?_, fun i sl d e1 e2 => ?_, s.dist, kp, mu, bs, bn, s.b0, s.io⟩
  · obtain ⟨v, h1, h2⟩ := s.dat i d e
    exact ⟨v, h1, h2.mono m⟩
  · obtain ⟨a, h1, h2, h3, h4⟩ := s.own i sl d e1 e2
    obtain ⟨q1, q2⟩ := ow i sl d a e1 e2 h1
    exact ⟨a, h1, q2, h3.mono m q1, h4⟩
theorem Mono.alloc (mu : ∀ a, B a → Mut (H a)) (hp : H p = none) : Mono H B (upd H p o) B :=
  ⟨fun a u e _ => by rw [upd_ne (ne_free e hp)]; exact e, mu, fun a b => .inl b⟩
theorem Mono.allocB (mu : ∀ a, B a → Mut (H a)) (hp : H p = none) : Mono H B (upd H p o) (fun b => B b ∨ b = p) :=
  ⟨fun a u e _ => by rw [upd_ne (ne_free e hp)]; exact e, mu, fun a b => b.elim .inl fun e => .inr (by rw [e]; exact hp)⟩
theorem SR.bdom (s : SR F H σ ρ B) {a : Addr} (b : B a) : ∃ o, H a = some o := by
  have m := s.mu a b
  cases e : H a with
  | none => rw [e] at m; exact m.elim
  | some o => exact ⟨o, rfl⟩
theorem SR.alloc (s : SR F H σ ρ B) (hp : H p = none) : SR F (upd H p o) σ ρ B :=
  s.mono (Mono.alloc s.mu hp) (fun a u e n => by have q := s.keep a u e n; rw [upd_ne (ne_free q hp)]; exact q)
    (fun i sl d a e1 e2 e3 => by
      obtain ⟨b, h1, h2, h3, _⟩ := s.own i sl d e1 e2
      rw [e3] at h1; cases h1
      obtain ⟨u, hu⟩ := s.bdom h2
      exact ⟨upd_ne (ne_free hu hp), h2⟩)
    (fun a b => by obtain ⟨u, hu⟩ := s.bdom b; rw [upd_ne (ne_free hu hp)]; exact s.mu a b) s.bsub s.bnew
theorem Stp.alloc (s : SR F H σ ρ B) (hp : H p = none) : Stp F σ ρ H B ρ (upd H p o) B :=
  ⟨s.alloc hp, fun a u e _ => by rw [upd_ne (ne_free e hp)]; exact e, fun _ b => b, fun _ b => .inl b, fun _ => .inr rfl⟩
theorem SR.allocB (s : SR F H σ ρ B) (hp : H p = none) (hm : Mut (some o)) : SR F (upd H p o) σ ρ (fun b => B b ∨ b = p) :=
  s.mono (Mono.allocB s.mu hp) (fun a u e n => by have q := s.keep a u e n; rw [upd_ne (ne_free q hp)]; exact q)
    (fun i sl d a e1 e2 e3 => by
      obtain ⟨b, h1, h2, h3, _⟩ := s.own i sl d e1 e2
      rw [e3] at h1; cases h1
      obtain ⟨u, hu⟩ := s.bdom h2
      exact ⟨upd_ne (ne_free hu hp), .inl h2⟩)
    (fun a b => b.elim (fun b => by obtain ⟨u, hu⟩ := s.bdom b; rw [upd_ne (ne_free hu hp)]; exact s.mu a b) fun e => by rw [e, upd_same]; exact hm)
    (fun a b => .inl (s.bsub a b)) (fun a b => b.elim (s.bnew a) fun e => .inr (by rw [e]; exact s.dom0 hp))
theorem Stp.allocB (s : SR F H σ ρ B) (hp : H p = none) (hm : Mut (some o)) : Stp F σ ρ H B ρ (upd H p o) (fun b => B b ∨ b = p) :=
  ⟨s.allocB hp hm, fun a u e _ => by rw [upd_ne (ne_free e hp)]; exact e, fun _ b => .inl b, fun _ b => b.elim .inl fun e => .inr (by rw [e]; exact hp), fun _ => .inr rfl⟩
/-- a new tuple -/
theorem new_tup (s : SR F H σ ρ B) (hp : H p = none) {ds : List D} {vs : List V} (h : DRs F.G H B ds vs) : Stp F σ ρ H B ρ (upd H p (.tup vs)) B ∧ PdR F H (upd H p (.tup vs)) B σ ρ (.d (.tup ds)) (.ref p) :=
  ⟨Stp.alloc s hp, .tup upd_same (h.mono (Mono.alloc s.mu hp))⟩
/-- a new list -/
theorem new_lst (s : SR F H σ ρ B) (hp : H p = none) {ds : List D} {vs : List V} (h : DRs F.G H B ds vs) :
    Stp F σ ρ H B ρ (upd H p (.lst vs)) (fun b => B b ∨ b = p) ∧ PdR F H (upd H p (.lst vs)) (fun b => B b ∨ b = p) σ ρ (.f (.lst ds)) (.ref p) :=
  ⟨Stp.allocB s hp trivial, p, rfl, .inr rfl, .inl ⟨ds, vs, rfl, upd_same, h.mono (Mono.allocB s.mu hp)⟩, hp, fun i sl d e1 e2 e3 => by
    obtain ⟨b, h1, h2, _⟩ := s.own i sl d e1 e2
    rw [e3] at h1; cases h1
    obtain ⟨u, hu⟩ := s.bdom h2
    rw [hp] at hu; cases hu⟩
end

/-! reading data -/
section
variable {G : Gx} {H : Hp} {B : Addr → Prop} {v : V}
theorem TR.lst {ds : List D} (h : TR G H B (.lst ds) v) : ∃ a vs, v = .ref a ∧ H a = some (.lst vs) ∧ DRs G H B ds vs := by
  rcases h with h | ⟨a, e, h⟩
  · cases h with
    | lst n r hs => exact ⟨_, _, rfl, r, hs⟩
  · rcases h with ⟨ds', vs, e1, e2, e3⟩ | ⟨_, _, e1, _⟩ | ⟨_, _, e1, _⟩
    · cases e1; exact ⟨a, vs, e, e2, e3⟩
    · cases e1
    · cases e1
theorem TR.st {ds : List D} (h : TR G H B (.st ds) v) : ∃ a vs, v = .ref a ∧ SqF G.K H a vs ∧ DRs G H B ds vs := by
  rcases h with h | ⟨a, e, h⟩
  · cases h with
    | st r hs => exact ⟨_, _, rfl, r, hs⟩
  · rcases h with ⟨ds', vs, e1, e2, e3⟩ | ⟨_, _, e1, _⟩ | ⟨_, _, e1, _⟩ <;> cases e1
theorem TR.tup {ds : List D} (h : TR G H B (.tup ds) v) : ∃ a vs, v = .ref a ∧ SqT G.K H a vs ∧ DRs G H B ds vs := by
  rcases h with h | ⟨a, e, h⟩
  · cases h with
    | tup r hs => exact ⟨_, _, rfl, .inl (.inl r), hs⟩
  · rcases h with ⟨ds', vs, e1, e2, e3⟩ | ⟨_, _, e1, _⟩ | ⟨_, _, e1, _⟩ <;> cases e1
theorem TR.tupH {ds : List D} (h : TR G H B (.tup ds) v) : ∃ a vs, v = .ref a ∧ H a = some (.tup vs) ∧ DRs G H B ds vs := by
  rcases h with h | ⟨a, e, h⟩
  · cases h with
    | tup r hs => exact ⟨_, _, rfl, r, hs⟩
  · rcases h with ⟨ds', vs, e1, e2, e3⟩ | ⟨_, _, e1, _⟩ | ⟨_, _, e1, _⟩ <;> cases e1
theorem TR.int {i : Int} (h : TR G H B (.int i) v) : v = .int i := by
  rcases h with h | ⟨a, e, h⟩
  · cases h; rfl
  · rcases h with ⟨ds', vs, e1, e2, e3⟩ | ⟨_, _, e1, _⟩ | ⟨_, _, e1, _⟩ <;> cases e1
theorem TR.bl {b : Bool} (h : TR G H B (.bl b) v) : v = .bl b := by
  rcases h with h | ⟨a, e, h⟩
  · cases h; rfl
  · rcases h with ⟨ds', vs, e1, e2, e3⟩ | ⟨_, _, e1, _⟩ | ⟨_, _, e1, _⟩ <;> cases e1
theorem TR.str {b : Str} (h : TR G H B (.str b) v) : v = .str b := by
  rcases h with h | ⟨a, e, h⟩
  · cases h; rfl
  · rcases h with ⟨ds', vs, e1, e2, e3⟩ | ⟨_, _, e1, _⟩ | ⟨_, _, e1, _⟩ <;> cases e1
theorem TR.non (h : TR G H B .non v) : v = .non := by
  rcases h with h | ⟨a, e, h⟩
  · cases h; rfl
  · rcases h with ⟨ds', vs, e1, e2, e3⟩ | ⟨_, _, e1, _⟩ | ⟨_, _, e1, _⟩ <;> cases e1
end
def Ag.get (ρ : Rho) : Ag → Option D
  | .d x => some x
  | .o i => match ρ[i]? with
    | some s => s.held
    | none => none
def agsGet (ρ : Rho) : List Ag → Option (List D)
  | [] => some []
  | a :: as => match a.get ρ, agsGet ρ as with
    | some d, some ds => some (d :: ds)
    | _, _ => none
def agsDat : List Ag → Option (List D)
  | [] => some []
  | .d x :: as => match agsDat as with
    | some ds => some (x :: ds)
    | none => none
  | .o _ :: _ => none
inductive TRs (G : Gx) (H : Hp) (B : Addr → Prop) : List D → List V → Prop
  | nil : TRs G H B [] []
  | cons {d : D} {ds : List D} {v : V} {vs : List V} : TR G H B d v → TRs G H B ds vs → TRs G H B (d :: ds) (v :: vs)
section
variable {F : Fr0} {σ : L2.St} {ρ ρ' : Rho} {H H' : Hp} {B B' : Addr → Prop}
theorem AgR.tr (s : SR F H σ ρ B) {a : Ag} {v : V} {d : D} (h : AgR F H B σ ρ a v) (e : a.get ρ = some d) : TR F.G H B d v := by
  cases a with
  | d x => cases e; exact .inl h
  | o i =>
    obtain ⟨sl, d', h1, h2, h3⟩ := h
    have e' : sl.held = some d := by
      have q : (Ag.o i).get ρ = sl.held := by
        show (match ρ[i]? with | some s => s.held | none => none) = sl.held
        rw [h1]
      rw [← q]; exact e
    obtain ⟨a, e1, _, e3, _⟩ := s.own i sl d h1 e'
    rw [h3] at e1; cases e1
    exact .inr ⟨a, rfl, e3⟩
theorem AgRs.trs (s : SR F H σ ρ B) : ∀ {as : List Ag} {vs : List V} {ds : List D}, AgRs F H B σ ρ as vs → agsGet ρ as = some ds → TRs F.G H B ds vs
  | [], _, _, h, e => by cases h; cases e; exact .nil
  | a :: as, _, _, h, e => by
    cases h with
    | cons h1 h2 =>
      unfold agsGet at e
      cases e1 : a.get ρ with
      | none => rw [e1] at e; cases e
      | some d =>
        cases e2 : agsGet ρ as with
        | none => rw [e1, e2] at e; cases e
        | some ds =>
          rw [e1, e2] at e; cases e
          exact .cons (h1.tr s e1) (AgRs.trs s h2 e2)
theorem AgRs.drs : ∀ {as : List Ag} {vs : List V} {ds : List D}, AgRs F H B σ ρ as vs → agsDat as = some ds → DRs F.G H B ds vs
  | [], _, _, h, e => by cases h; cases e; exact .nil
  | .d x :: as, _, _, h, e => by
    cases h with
    | cons h1 h2 =>
      unfold agsDat at e
      cases e2 : agsDat as with
      | none => rw [e2] at e; cases e
      | some ds =>
        rw [e2] at e; cases e
        exact .cons h1 (AgRs.drs h2 e2)
  | .o i :: as, _, _, h, e => by cases e
end

def small (n : Nat) : Bool := decide (n ≤ 16777216)
theorem small_ok {n : Nat} (h : small n = true) : n ≤ sizeLine := by rw [sizeLine_eq]; exact of_decide_eq_true h

section
variable {X : Cx} {F : Fr0} {W : WX} {e a b c : Expr} {es : List Expr} {pos : Pos}
/-! displays -/
def eTup (r : Rho → Rs (List Ag)) : Ex := fun ρ => (r ρ).bind fun as ρ1 => match agsDat as with
  | some ds => if small ds.length then .ok (.d (.tup ds)) ρ1 else .bad
  | none => .bad
def eLst (r : Rho → Rs (List Ag)) : Ex := fun ρ => (r ρ).bind fun as ρ1 => match agsDat as with
  | some ds => if small ds.length then .ok (.f (.lst ds)) ρ1 else .bad
  | none => .bad
theorem re_tup {r : Rho → Rs (List Ag)} {x1} (h : PA X es (TAx F W r)) : PE X (.Tuple es x1 pos) (TEx F W (eTup r)) := by
  refine pe_imp (pe_tup h) fun σ H Q h => ?_
  obtain ⟨ρ, B, s, h⟩ := h
  refine ⟨ρ, B, s, AftG.imp (AftG.bind h) fun vs H1 ⟨ρ1, B1, as, st, rp, h1⟩ => ?_⟩
  cases e1 : agsDat as with
  | none => simp only [e1] at h1; exact h1.elim
  | some ds =>
    simp only [e1] at h1
    have hd := AgRs.drs rp e1
    cases e2 : small ds.length with
    | false => rw [e2] at h1; exact h1.elim
    | true =>
      rw [e2, if_pos rfl] at h1
      refine ⟨by rw [← hd.length]; exact small_ok e2, fun p hp => ?_⟩
      obtain ⟨n1, n2⟩ := new_tup st.sr hp hd
      exact h1 _ _ B1 (st.trans s n1) (PdR.back (fun a n => st.dom s n) n2)
theorem re_lst {r : Rho → Rs (List Ag)} (h : PA X es (TAx F W r)) : PE X (.List es pos) (TEx F W (eLst r)) := by
  refine pe_imp (pe_lst h) fun σ H Q h => ?_
  obtain ⟨ρ, B, s, h⟩ := h
  refine ⟨ρ, B, s, AftG.imp (AftG.bind h) fun vs H1 ⟨ρ1, B1, as, st, rp, h1⟩ => ?_⟩
  cases e1 : agsDat as with
  | none => simp only [e1] at h1; exact h1.elim
  | some ds =>
    simp only [e1] at h1
    have hd := AgRs.drs rp e1
    cases e2 : small ds.length with
    | false => rw [e2] at h1; exact h1.elim
    | true =>
      rw [e2, if_pos rfl] at h1
      refine ⟨by rw [← hd.length]; exact small_ok e2, fun p hp => ?_⟩
      obtain ⟨n1, n2⟩ := new_lst st.sr hp hd
      exact h1 _ _ _ (st.trans s n1) (PdR.back (fun a n => st.dom s n) n2)

/-! built-ins by values -/
def CallS (F : Fr0) (r : List V → Hp → VK → Prop) (g : List D → Option Pd) : Prop := ∀ (σ : L2.St) (ρ : Rho) (H : Hp) (B : Addr → Prop) (vs : List V) (ds : List D) (p : Pd) (Q : VK), SR F H σ ρ B → TRs F.G H B ds vs → g ds = some p →
  (∀ u H' B', Stp F σ ρ H B ρ H' B' → PdR F H H' B' σ ρ p u → Q u H') → r vs H Q
def eCB (g : List D → Option Pd) (r : Rho → Rs (List Ag)) : Ex := fun ρ => (r ρ).bind fun as ρ1 => match agsGet ρ1 as with
  | some ds => (match g ds with
    | some p => .ok p ρ1
    | none => .bad)
  | none => .bad
theorem tex_cb {r : List V → Hp → VK → Prop} {g : List D → Option Pd} {t : Rho → Rs (List Ag)} (hg : CallS F r g) {σ : L2.St} {H : Hp} {Q : VK} (h : TEx F W (eCB g t) σ H Q) : TAx F W t σ H fun vs H1 => r vs H1 Q := by
  obtain ⟨ρ, B, s, h⟩ := h
  refine ⟨ρ, B, s, AftG.imp (AftG.bind h) fun vs H1 ⟨ρ1, B1, as, st, rp, h1⟩ => ?_⟩
  cases e1 : agsGet ρ1 as with
  | none => simp only [e1] at h1; exact h1.elim
  | some ds =>
    simp only [e1] at h1
    cases e2 : g ds with
    | none => simp only [e2] at h1; exact h1.elim
    | some p =>
      simp only [e2] at h1
      exact hg σ ρ1 H1 B1 vs ds p Q st.sr (AgRs.trs st.sr rp e1) e2 fun u H' B' st2 ru => h1 u H' B' (st.trans s st2) (PdR.back (fun a n => st.dom s n) ru)
theorem re_callB {x : Str} {pf : Pos} {id : String} {r : List V → Hp → VK → Prop} {g : List D → Option Pd} {t : Rho → Rs (List Ag)} (hc : CallR X (.builtin id) r) (hg : CallS F r g) (hgl : Gl X x) (hm : X.mg x = none) (hv : bootBuiltins x = some (.builtin id)) (ha : PA X (e :: es) (TAx F W t)) (hn : x ≠ "__name__" := by decide) (hdb : (x == ("__debug__" : Str)) = false := by decide)
    (he : starEach (e :: es) X.env = (false, eval e X.env) :: starEach es X.env := by rfl) (hpl : (backTo pos (starEach es X.env)).any (·.1) = false := by rfl) : PE X (.Call (.Name x pf) (e :: es) [] pos) (TEx F W (eCB g t)) :=
  pe_imp (pe_callB hc hgl hm hv ha hn hdb he hpl) fun _ _ _ h => tex_cb hg h
theorem re_callTy {x : Str} {pf : Pos} {T : String} {r : List V → Hp → VK → Prop} {g : List D → Option Pd} {t : Rho → Rs (List Ag)} (hc : CallR X (.type T) r) (hg : CallS F r g) (hgl : Gl X x) (hm : X.mg x = none) (hv : bootBuiltins x = some (.type T)) (ha : PA X (e :: es) (TAx F W t)) (hn : x ≠ "__name__" := by decide) (hdb : (x == ("__debug__" : Str)) = false := by decide)
    (he : starEach (e :: es) X.env = (false, eval e X.env) :: starEach es X.env := by rfl) (hpl : (backTo pos (starEach es X.env)).any (·.1) = false := by rfl) : PE X (.Call (.Name x pf) (e :: es) [] pos) (TEx F W (eCB g t)) :=
  pe_imp (pe_callTy hc hgl hm hv ha hn hdb he hpl) fun _ _ _ h => tex_cb hg h

/-! subscripts -/
theorem re_ix {r : R2} {g : D → D → Option Pd} {ta tb : Ex} (hr : IxR X r) (hg : OpS F r g) (ha : PE X a (TEx F W ta)) (hb : PE X b (TEx F W tb)) (hs : PlainIx b := by exact fun _ _ => rfl) : PE X (.Subscript a b pos) (TEx F W (eBin g ta tb)) :=
  pe_imp (pe_ix hr ha hb hs) fun _ _ _ h => tex_bin hg h

/-! one operand by value -/
def op1 (g : D → Option Pd) (p : Pd) : Ex := fun ρ => match p.get ρ with
  | some x => (match g x with
    | some r => .ok r ρ
    | none => .bad)
  | none => .bad
def eUn (g : D → Option Pd) (ta : Ex) : Ex := fun ρ => (ta ρ).bind fun p ρ1 => op1 g p ρ1
def UnS (F : Fr0) (r : V → Hp → VK → Prop) (g : D → Option Pd) : Prop := ∀ (σ : L2.St) (ρ : Rho) (H : Hp) (B : Addr → Prop) (v : V) (x : D) (p : Pd) (Q : VK), SR F H σ ρ B → TR F.G H B x v → g x = some p →
  (∀ u H' B', Stp F σ ρ H B ρ H' B' → PdR F H H' B' σ ρ p u → Q u H') → r v H Q
theorem tex_un {r : V → Hp → VK → Prop} {g : D → Option Pd} {ta : Ex} (hg : UnS F r g) {σ : L2.St} {H : Hp} {Q : VK} (h : TEx F W (eUn g ta) σ H Q) : TEx F W ta σ H fun x H1 => r x H1 Q := by
  obtain ⟨ρ, B, s, h⟩ := h
  refine ⟨ρ, B, s, AftG.imp (AftG.bind h) fun v H1 ⟨ρ1, B1, p, st, rp, h1⟩ => ?_⟩
  unfold op1 at h1
  cases e1 : p.get ρ1 with
  | none => simp only [e1] at h1; exact h1.elim
  | some x =>
    simp only [e1] at h1
    cases e2 : g x with
    | none => simp only [e2] at h1; exact h1.elim
    | some q =>
      simp only [e2] at h1
      exact hg σ ρ1 H1 B1 v x q Q st.sr (rp.tr st.sr e1) e2 fun u H' B' st2 ru => h1 u H' B' (st.trans s st2) (PdR.back (fun a n => st.dom s n) ru)
theorem re_un {op : UnaryOp} {r : V → Hp → VK → Prop} {g : D → Option Pd} {ta : Ex} (ho : UnR X (unaryOp op) r) (hg : UnS F r g) (ha : PE X a (TEx F W ta)) : PE X (.UnaryOp op a pos) (TEx F W (eUn g ta)) :=
  pe_imp (pe_un ho ha) fun _ _ _ h => tex_un hg h

/-! tests -/
def tB (t : Ex) : Rho → Rs Bool := fun ρ => (t ρ).bind fun p ρ1 => match p.get ρ1 with
  | some (.bl b) => .ok b ρ1
  | _ => .bad
theorem ttx_val {t : Ex} {σ : L2.St} {H : Hp} {Q : Bool → Hp → Prop} (h : TTx F W (tB t) σ H Q) : TEx F W t σ H fun x H1 => ∃ c, x = .bl c ∧ Q c H1 := by
  obtain ⟨ρ, B, s, h⟩ := h
  refine ⟨ρ, B, s, AftG.imp (AftG.bind h) fun v H1 ⟨ρ1, B1, p, st, rp, h1⟩ => ?_⟩
  cases e1 : p.get ρ1 with
  | none => simp only [e1] at h1; exact h1.elim
  | some x =>
    simp only [e1] at h1
    cases x with
    | bl c => exact ⟨c, (rp.tr st.sr e1).bl, h1 c H1 B1 st rfl⟩
    | _ => exact h1.elim
theorem rt_val {t : Ex} (h : PE X e (TEx F W t)) (he : ∀ whole, isTrue e X.env whole = (do let v ← whole; standAt e.pos; holding [v] (truthy v)) := by intro _; rfl) : PT X e (TTx F W (tB t)) :=
  pt_imp (pt_val h he) fun _ _ _ h => ttx_val h
theorem rt_cmp {op : CmpOp} {r : R2} {g : D → D → Option Pd} {ta tb : Ex} (ho : OpR X (compareOp op) r) (hg : OpS F r g) (ha : PE X a (TEx F W ta)) (hb : PE X b (TEx F W tb)) (hm : behindInMarks op b = false := by rfl) : PT X (.Compare a [op] [b] pos) (TTx F W (tB (eBin g ta tb))) :=
  pt_imp (pt_cmpR ho ha hb hm) fun _ _ _ h => tex_bin hg (ttx_val h)
def tAndP (t u : Rho → Rs Bool) : Rho → Rs Bool := fun ρ => (t ρ).bind fun c ρ1 => if c = true then u ρ1 else .ok false ρ1
def tOrP (t u : Rho → Rs Bool) : Rho → Rs Bool := fun ρ => (t ρ).bind fun c ρ1 => if c = true then .ok true ρ1 else u ρ1
def tNotP (t : Rho → Rs Bool) : Rho → Rs Bool := fun ρ => (t ρ).bind fun c ρ1 => .ok (!c) ρ1
theorem rw_one_and {t : Rho → Rs Bool} (ha : PT X a (TTx F W t)) : PW X (.BoolOp .And [a] pos) (TTx F W t) := pw_and1 ha
theorem rw_one_or {t : Rho → Rs Bool} (ha : PT X a (TTx F W t)) : PW X (.BoolOp .Or [a] pos) (TTx F W t) := pw_or1 ha
theorem rw_and {t u : Rho → Rs Bool} (ha : PT X a (TTx F W t)) (hb : PW X (.BoolOp .And (b :: es) pos) (TTx F W u)) : PW X (.BoolOp .And (a :: b :: es) pos) (TTx F W (tAndP t u)) := by
  refine pw_imp (pw_and ha hb) fun σ H Q h => ?_
  obtain ⟨ρ, B, s, h⟩ := h
  refine ⟨ρ, B, s, AftG.imp (AftG.bind h) fun v H1 ⟨ρ1, B1, p, st, rp, h1⟩ => ?_⟩
  subst rp
  cases p with
  | true => exact ⟨ρ1, B1, st.sr, AftG.from_ s st h1⟩
  | false => exact h1 false H1 B1 st rfl
theorem rw_or {t u : Rho → Rs Bool} (ha : PT X a (TTx F W t)) (hb : PW X (.BoolOp .Or (b :: es) pos) (TTx F W u)) : PW X (.BoolOp .Or (a :: b :: es) pos) (TTx F W (tOrP t u)) := by
  refine pw_imp (pw_or ha hb) fun σ H Q h => ?_
  obtain ⟨ρ, B, s, h⟩ := h
  refine ⟨ρ, B, s, AftG.imp (AftG.bind h) fun v H1 ⟨ρ1, B1, p, st, rp, h1⟩ => ?_⟩
  subst rp
  cases p with
  | true => exact h1 true H1 B1 st rfl
  | false => exact ⟨ρ1, B1, st.sr, AftG.from_ s st h1⟩
theorem rt_not {t : Rho → Rs Bool} (ha : PT X a (TTx F W t)) : PT X (.UnaryOp .Not a pos) (TTx F W (tNotP t)) := by
  refine pt_imp (pt_not ha) fun σ H Q h => ?_
  obtain ⟨ρ, B, s, h⟩ := h
  refine ⟨ρ, B, s, AftG.imp (AftG.bind h) fun v H1 ⟨ρ1, B1, p, st, rp, h1⟩ => ?_⟩
  subst rp
  exact h1 (!p) H1 B1 st rfl
/-! bool operations as values -/
def eAnd (ta tb : Ex) : Ex := fun ρ => (ta ρ).bind fun p ρ1 => match p.get ρ1 with
  | some (.bl c) => if c = true then tb ρ1 else .ok (.d (.bl false)) ρ1
  | _ => .bad
def eOr (ta tb : Ex) : Ex := fun ρ => (ta ρ).bind fun p ρ1 => match p.get ρ1 with
  | some (.bl c) => if c = true then .ok (.d (.bl true)) ρ1 else tb ρ1
  | _ => .bad
def gNot : D → Option Pd
  | .bl c => some (.d (.bl !c))
  | _ => none
theorem re_one {op} {t : Ex} (h : PE X a (TEx F W t)) : PE X (.BoolOp op [a] pos) (TEx F W t) := pe_one h
theorem re_and {ta tb : Ex} (ha : PE X a (TEx F W ta)) (hb : PE X (.BoolOp .And (b :: es) pos) (TEx F W tb)) : PE X (.BoolOp .And (a :: b :: es) pos) (TEx F W (eAnd ta tb)) := by
  refine pe_imp (pe_and ha hb) fun σ H Q h => ?_
  obtain ⟨ρ, B, s, h⟩ := h
  refine ⟨ρ, B, s, AftG.imp (AftG.bind h) fun v H1 ⟨ρ1, B1, p, st, rp, h1⟩ => ?_⟩
  cases e1 : p.get ρ1 with
  | none => simp only [e1] at h1; exact h1.elim
  | some x =>
    simp only [e1] at h1
    cases x with
    | bl c =>
      refine ⟨c, (rp.tr st.sr e1).bl, ?_⟩
      cases c with
      | true => exact ⟨ρ1, B1, st.sr, AftG.imp (β := V) (Q := Q) (by
          have h2 : AftG F W σ ρ1 H1 B1 (fun H' B' ρ' => PdR F H H' B' σ ρ') Q (tb ρ1) := AftG.from_ s st h1
          cases e3 : tb ρ1 with
          | ok q ρ2 => rw [e3] at h2; exact fun v' H' B' st' r' => h2 v' H' B' st' (PdR.back (fun a n => st.dom s n) r')
          | er x ρ2 => rw [e3] at h2; exact h2
          | bad => rw [e3] at h2; exact h2) fun _ _ q => q⟩
      | false => exact h1 _ H1 B1 st (.bl false)
    | _ => exact h1.elim
theorem aft_from {t : Rs Pd} {σ : L2.St} {ρ ρ1 : Rho} {H H1 : Hp} {B B1 : Addr → Prop} {Q : VK} (s : SR F H σ ρ B) (st : Stp F σ ρ H B ρ1 H1 B1) (h : AftG F W σ ρ H B (fun H' B' ρ' => PdR F H H' B' σ ρ') Q t) :
    AftG F W σ ρ1 H1 B1 (fun H' B' ρ' => PdR F H1 H' B' σ ρ') Q t := by
  have h2 := AftG.from_ s st h
  cases t with
  | ok q ρ2 => exact fun v' H' B' st' r' => h2 v' H' B' st' (PdR.back (fun a n => st.dom s n) r')
  | er x ρ2 => exact h2
  | bad => exact h2
theorem re_or {ta tb : Ex} (ha : PE X a (TEx F W ta)) (hb : PE X (.BoolOp .Or (b :: es) pos) (TEx F W tb)) : PE X (.BoolOp .Or (a :: b :: es) pos) (TEx F W (eOr ta tb)) := by
  refine pe_imp (pe_or ha hb) fun σ H Q h => ?_
  obtain ⟨ρ, B, s, h⟩ := h
  refine ⟨ρ, B, s, AftG.imp (AftG.bind h) fun v H1 ⟨ρ1, B1, p, st, rp, h1⟩ => ?_⟩
  cases e1 : p.get ρ1 with
  | none => simp only [e1] at h1; exact h1.elim
  | some x =>
    simp only [e1] at h1
    cases x with
    | bl c =>
      refine ⟨c, (rp.tr st.sr e1).bl, ?_⟩
      cases c with
      | true => exact h1 _ H1 B1 st (.bl true)
      | false => exact ⟨ρ1, B1, st.sr, aft_from s st h1⟩
    | _ => exact h1.elim
theorem re_not {ta : Ex} (ha : PE X a (TEx F W ta)) : PE X (.UnaryOp .Not a pos) (TEx F W (eUn gNot ta)) :=
  pe_imp (pe_not ha) fun σ H Q h => tex_un (r := fun x H1 Q => ∃ c, x = .bl c ∧ Q (.bl (!c)) H1) (fun σ ρ H B v x p Q s r e k => by
    cases x with
    | bl c => cases e; exact ⟨c, r.bl, k _ H B (.refl s) (.bl _)⟩
    | _ => cases e) h
def eIf (c : Rho → Rs Bool) (ta tb : Ex) : Ex := fun ρ => (c ρ).bind fun k ρ1 => if k = true then ta ρ1 else tb ρ1
theorem re_if {tc : Rho → Rs Bool} {ta tb : Ex} (hc : PT X c (TTx F W tc)) (ha : PE X a (TEx F W ta)) (hb : PE X b (TEx F W tb)) : PE X (.IfExp c a b pos) (TEx F W (eIf tc ta tb)) := by
  refine pe_imp (pe_ifExp hc ha hb) fun σ H Q h => ?_
  obtain ⟨ρ, B, s, h⟩ := h
  refine ⟨ρ, B, s, AftG.imp (AftG.bind h) fun v H1 ⟨ρ1, B1, p, st, rp, h1⟩ => ?_⟩
  subst rp
  cases p with
  | true => exact ⟨ρ1, B1, st.sr, aft_from s st h1⟩
  | false => exact ⟨ρ1, B1, st.sr, aft_from s st h1⟩
end
end PL
set_option maxHeartbeats 4000000
/-! ### statements -/
namespace PL
open PySem L2

inductive Fl where | nx | rt (p : Pd) | bk | ct
abbrev Sx := Rho → Rs Fl
/-- a statement's step -/
structure SStp (F : Fr0) (σ : L2.St) (ρ : Rho) (H : Hp) (B : Addr → Prop) (σ' : L2.St) (ρ' : Rho) (H' : Hp) (B' : Addr → Prop) : Prop where
  sr : SR F H' σ' ρ' B'
  mono : Mono H B H' B'
  lent : ∀ (i : Nat) d, ρ[i]? = some (.lent d) → ρ'[i]? = some (.lent d) ∧ σ'[i]? = σ[i]?
section
variable {F : Fr0} {σ σ' σ2 : L2.St} {ρ ρ' ρ2 : Rho} {H H' H2 : Hp} {B B' B2 : Addr → Prop}
theorem Mono.trans {H H' H2 : Hp} {B B' B2 : Addr → Prop} (a : Mono H B H' B') (b : Mono H' B' H2 B2) : Mono H B H2 B2 where
  keep := fun x o e n => b.keep x o (a.keep x o e n) (a.notB e n)
  mu := a.mu
  new := fun x h => by
    rcases b.new x h with h | h
    · exact a.new x h
    · cases e : H x with
      | none => exact .inr rfl
      | some o =>
        by_cases n : B x
        · exact .inl n
        · have q := a.keep x o e n
          rw [h] at q; cases q
theorem Mono.refl (s : SR F H σ ρ B) : Mono H B H B := ⟨fun _ _ e _ => e, s.mu, fun _ b => .inl b⟩
theorem SStp.refl (s : SR F H σ ρ B) : SStp F σ ρ H B σ ρ H B := ⟨s, .refl s, fun _ _ e => ⟨e, rfl⟩⟩
theorem SStp.trans (a : SStp F σ ρ H B σ' ρ' H' B') (b : SStp F σ' ρ' H' B' σ2 ρ2 H2 B2) : SStp F σ ρ H B σ2 ρ2 H2 B2 :=
  ⟨b.sr, a.mono.trans b.mono, fun i d e => by
    obtain ⟨h1, h2⟩ := a.lent i d e
    obtain ⟨h3, h4⟩ := b.lent i d h1
    exact ⟨h3, h4.trans h2⟩⟩
theorem Stp.s (s : SR F H σ ρ B) (t : Stp F σ ρ H B ρ' H' B') : SStp F σ ρ H B σ ρ' H' B' :=
  ⟨t.sr, t.mono s, fun i d e => by
    rcases t.sl i with ⟨d1, d2, e1, e2⟩ | e2
    · rw [e] at e1; cases e1
    · exact ⟨by rw [e2, e], rfl⟩⟩
end
def AftS (F : Fr0) (W : WX) (D : Ends) (σ : L2.St) (ρ : Rho) (H : Hp) (B : Addr → Prop) : Rs Fl → Prop
  | .ok .nx ρ' => ∀ σ' H' B', SStp F σ ρ H B σ' ρ' H' B' → D.nx σ' H'
  | .ok (.rt p) ρ' => ∀ v σ' H' B', SStp F σ ρ H B σ' ρ' H' B' → PdR F F.H0 H' B' σ' ρ' p v → D.rt v H'
  | .ok .bk ρ' => ∀ σ' H' B', SStp F σ ρ H B σ' ρ' H' B' → D.bk σ' H'
  | .ok .ct ρ' => ∀ σ' H' B', SStp F σ ρ H B σ' ρ' H' B' → D.ct σ' H'
  | .er x ρ' => ∀ cls dd σ' H' B', SStp F σ ρ H B σ' ρ' H' B' → F.G.xr H' B' x cls dd → W cls dd σ' H'
  | .bad => False
def TSx (F : Fr0) (W : WX) (t : Sx) : TS := fun D σ H => ∃ ρ B, SR F H σ ρ B ∧ AftS F W D σ ρ H B (t ρ)
section
variable {F : Fr0} {W : WX} {D : Ends} {σ σ' σ2 : L2.St} {ρ ρ' ρ2 : Rho} {H H' H2 : Hp} {B B' B2 : Addr → Prop}
theorem AftS.from_ {m : Rs Fl} (st : SStp F σ ρ H B σ' ρ' H' B') (h : AftS F W D σ ρ H B m) : AftS F W D σ' ρ' H' B' m := by
  cases m with
  | ok f ρ2 => cases f with
    | nx => exact fun a b c s => h a b c (st.trans s)
    | rt p => exact fun v a b c s r => h v a b c (st.trans s) r
    | bk => exact fun a b c s => h a b c (st.trans s)
    | ct => exact fun a b c s => h a b c (st.trans s)
  | er x ρ2 => exact fun u v a b c s => h u v a b c (st.trans s)
  | bad => exact h
end
section
variable {X : Cx} {F : Fr0} {W : WX} {e a b c : Expr} {es : List Expr} {pos : Pos} {st : Stmt} {rest sa sb : List Stmt}
theorem ps_imp {t t' : TS} (h : PS X st t) (k : ∀ D σ H, t' D σ H → t D σ H) : PS X st t' := ⟨fun pins s σ H D I q => h.run pins s σ H D I (k D σ H q)⟩
theorem pss_imp {t t' : TS} (h : PSs X rest t) (k : ∀ D σ H, t' D σ H → t D σ H) : PSs X rest t' := ⟨fun pins s σ H D I q => h.run pins s σ H D I (k D σ H q)⟩
def sNext : Sx := fun ρ => .ok .nx ρ
def sBad : Sx := fun _ => .bad
def sSeq (t u : Sx) : Sx := fun ρ => match t ρ with
  | .ok .nx ρ1 => u ρ1
  | r => r
theorem rs_nil : PSs X [] (TSx F W sNext) := pss_imp pss_nil fun D σ H ⟨ρ, B, s, h⟩ => h σ H B (.refl s)
theorem rs_cons {t u : Sx} (h1 : PS X st (TSx F W t)) (h2 : PSs X rest (TSx F W u)) : PSs X (st :: rest) (TSx F W (sSeq t u)) := by
  refine pss_imp (pss_cons h1 h2) fun D σ H ⟨ρ, B, s, h⟩ => ⟨ρ, B, s, ?_⟩
  unfold sSeq at h
  cases e : t ρ with
  | ok f ρ1 =>
    simp only [e] at h
    cases f with
    | nx => exact fun σ' H' B' st' => ⟨ρ1, B', st'.sr, AftS.from_ st' h⟩
    | rt p => exact h
    | bk => exact h
    | ct => exact h
  | er x ρ1 => simp only [e] at h; exact h
  | bad => simp only [e] at h; exact h
theorem rs_one {t : Sx} (h1 : PS X st (TSx F W t)) : PSs X [st] (TSx F W t) := pss_one h1
theorem rs_bad : PSs X rest (TSx F W sBad) := pss_imp pss_never fun D σ H ⟨ρ, B, s, h⟩ => h
theorem rs_badS : PS X st (TSx F W sBad) := ps_imp ps_never fun D σ H ⟨ρ, B, s, h⟩ => h
theorem rs_pass : PS X (.Pass pos) (TSx F W sNext) := ps_imp ps_pass fun D σ H ⟨ρ, B, s, h⟩ => h σ H B (.refl s)
def sBrk : Sx := fun ρ => .ok .bk ρ
def sCnt : Sx := fun ρ => .ok .ct ρ
theorem rs_break : PS X (.Break pos) (TSx F W sBrk) := ps_imp ps_break fun D σ H ⟨ρ, B, s, h⟩ => h σ H B (.refl s)
theorem rs_continue : PS X (.Continue pos) (TSx F W sCnt) := ps_imp ps_continue fun D σ H ⟨ρ, B, s, h⟩ => h σ H B (.refl s)
/-- from an expression to a statement -/
theorem aft_ex {α β : Type} {rel : Hp → (Addr → Prop) → Rho → α → β → Prop} {D : Ends} {σ : L2.St} {ρ : Rho} {H : Hp} {B : Addr → Prop} {m : Rs α} {k : α → Rho → Rs Fl} {Q : β → Hp → Prop} (s : SR F H σ ρ B) (h : AftS F W D σ ρ H B (m.bind k))
    (hQ : ∀ a v ρ1 H1 B1, Stp F σ ρ H B ρ1 H1 B1 → rel H1 B1 ρ1 a v → AftS F W D σ ρ H B (k a ρ1) → Q v H1) : AftG F W σ ρ H B rel Q m := by
  cases m with
  | ok a ρ1 => exact fun v H1 B1 st r => hQ a v ρ1 H1 B1 st r h
  | er x ρ1 => exact fun c d H1 B1 st r => h c d σ H1 B1 (st.s s) r
  | bad => exact h
def sExpr (t : Ex) : Sx := fun ρ => (t ρ).bind fun _ ρ1 => .ok .nx ρ1
theorem rs_expr {t : Ex} (he : PE X e (TEx F W t)) (hs : swapsWith e none pos.line X.env = pure false := by rfl) : PS X (.Expr e pos) (TSx F W (sExpr t)) :=
  ps_imp (ps_expr he hs) fun D σ H ⟨ρ, B, s, h⟩ => ⟨ρ, B, s, aft_ex s h fun a v ρ1 H1 B1 st r q => q σ H1 B1 (st.s s)⟩
def sRet (t : Ex) : Sx := fun ρ => (t ρ).bind fun p ρ1 => .ok (.rt p) ρ1
theorem rs_ret {t : Ex} (he : PE X e (TEx F W t)) : PS X (.Return (some e) pos) (TSx F W (sRet t)) :=
  ps_imp (ps_ret he) fun D σ H ⟨ρ, B, s, h⟩ => ⟨ρ, B, s, aft_ex s h fun a v ρ1 H1 B1 st r q => q v σ H1 B1 (st.s s) (PdR.back (fun _ n => s.dom0 n) r)⟩
def sRetN : Sx := fun ρ => .ok (.rt (.d .non)) ρ
theorem rs_retN : PS X (.Return none pos) (TSx F W sRetN) :=
  ps_imp ps_retN fun D σ H ⟨ρ, B, s, h⟩ => h .non σ H B (.refl s) .non
def sIf (c : Rho → Rs Bool) (t u : Sx) : Sx := fun ρ => (c ρ).bind fun k ρ1 => if k = true then t ρ1 else u ρ1
theorem rs_if {tc : Rho → Rs Bool} {t u : Sx} (hc : PT X c (TTx F W tc)) (ha : PSs X sa (TSx F W t)) (hb : PSs X sb (TSx F W u)) : PS X (.If c sa sb pos) (TSx F W (sIf tc t u)) :=
  ps_imp (ps_if hc ha hb) fun D σ H ⟨ρ, B, s, h⟩ => ⟨ρ, B, s, aft_ex s h fun a v ρ1 H1 B1 st r q => by
    subst r
    cases a with
    | true => exact ⟨ρ1, B1, st.sr, AftS.from_ (st.s s) q⟩
    | false => exact ⟨ρ1, B1, st.sr, AftS.from_ (st.s s) q⟩⟩
end

/-! ### targets -/
def AftT (F : Fr0) (σ : L2.St) (ρ : Rho) (H : Hp) (B : Addr → Prop) (Q : L2.St → Hp → Prop) : Rs Unit → Prop
  | .ok _ ρ' => ∀ σ' H' B', SStp F σ ρ H B σ' ρ' H' B' → Q σ' H'
  | _ => False
def TGx (F : Fr0) (t : Pd → Rho → Rs Unit) : TG := fun v σ H Q => ∃ ρ B p, SR F H σ ρ B ∧ PdR F F.H0 H B σ ρ p v ∧ AftT F σ ρ H B Q (t p ρ)
def TGsx (F : Fr0) (t : List D → Rho → Rs Unit) : TGs := fun vs σ H Q => ∃ ρ B ds, SR F H σ ρ B ∧ DRs F.G H B ds vs ∧ AftT F σ ρ H B Q (t ds ρ)
theorem AftT.from_ {F : Fr0} {σ σ' : L2.St} {ρ ρ' : Rho} {H H' : Hp} {B B' : Addr → Prop} {Q : L2.St → Hp → Prop} {m : Rs Unit} (st : SStp F σ ρ H B σ' ρ' H' B') (h : AftT F σ ρ H B Q m) : AftT F σ' ρ' H' B' Q m := by
  cases m with
  | ok f ρ2 => exact fun a b c s => h a b c (st.trans s)
  | er x ρ2 => exact h
  | bad => exact h
def isLent : Option Sl → Bool
  | some (.lent _) => true
  | _ => false
def putSl (i : Nat) (sl : Sl) (ρ : Rho) : Rs Unit := if isLent ρ[i]? then .bad else .ok () (ρ.set i sl)
def gSet (i : Nat) : Pd → Rho → Rs Unit := fun p ρ => match p with
  | .d x => putSl i (.dat x) ρ
  | .f x => putSl i (.own x) ρ
  | .o _ => .bad
def gSetD (i : Nat) : Pd → Rho → Rs Unit := fun p ρ => match p.dat with
  | some x => putSl i (.dat x) ρ
  | none => .bad
section
variable {F : Fr0} {σ : L2.St} {ρ : Rho} {H : Hp} {B : Addr → Prop} {i : Nat} {v : V}
theorem SR.setDat (s : SR F H σ ρ B) (hio : F.iom[i]? ≠ some true) {d : D} (h : DR F.G H B d v) : SR F H (σ.set i (some v)) (ρ.set i (.dat d)) B := by
  refine ⟨by rw [List.length_set, List.length_set]; exact s.len, fun j x e => ?_, fun j sl x e1 e2 => ?_, fun j k sl tl x y w e1 e2 e3 e4 e5 e6 => ?_, s.keep, s.mu, s.bsub, s.bnew, s.b0, fun j a hj => ?_⟩
  · by_cases hji : i = j
    · subst hji
      by_cases hl : i < ρ.length
      · rw [List.getElem?_set_self hl] at e
        cases e
        exact ⟨v, List.getElem?_set_self (by rw [s.len]; exact hl), h⟩
      · rw [List.getElem?_eq_none (by rw [List.length_set]; omega)] at e; cases e
    · rw [List.getElem?_set_ne hji] at e
      rw [List.getElem?_set_ne hji]
      exact s.dat j x e
  · by_cases hji : i = j
    · subst hji
      by_cases hl : i < ρ.length
      · rw [List.getElem?_set_self hl] at e1
        cases e1; cases e2
      · rw [List.getElem?_eq_none (by rw [List.length_set]; omega)] at e1; cases e1
    · rw [List.getElem?_set_ne hji] at e1
      rw [List.getElem?_set_ne hji]
      exact s.own j sl x e1 e2
  · have nj : i ≠ j := fun z => by
      subst z
      by_cases hl : i < ρ.length
      · rw [List.getElem?_set_self hl] at e1; cases e1; cases e2
      · rw [List.getElem?_eq_none (by rw [List.length_set]; omega)] at e1; cases e1
    have nk : i ≠ k := fun z => by
      subst z
      by_cases hl : i < ρ.length
      · rw [List.getElem?_set_self hl] at e3; cases e3; cases e4
      · rw [List.getElem?_eq_none (by rw [List.length_set]; omega)] at e3; cases e3
    rw [List.getElem?_set_ne nj] at e1 e5
    rw [List.getElem?_set_ne nk] at e3 e6
    exact s.dist j k sl tl x y w e1 e2 e3 e4 e5 e6
  · obtain ⟨h1, sl, x, h2, h3, h4⟩ := s.io j a hj
    have nj : i ≠ j := fun z => by subst z; exact hio hj.1
    refine ⟨h1, sl, x, ?_, h3, ?_⟩
    · rw [List.getElem?_set_ne nj]; exact h2
    · rw [List.getElem?_set_ne nj]; exact h4
theorem SR.setOwn (s : SR F H σ ρ B) (hio : F.iom[i]? ≠ some true) {d : D} {a : Addr} (hb : B a) (h : OwR F.G H B d a) (h0 : F.H0 a = none) (hn : ∀ (i : Nat) (sl : Sl) (d : D), ρ[i]? = some sl → sl.held = some d → σ[i]? ≠ some (some (.ref a))) :
    SR F H (σ.set i (some (.ref a))) (ρ.set i (.own d)) B := by
  refine ⟨by rw [List.length_set, List.length_set]; exact s.len, fun j x e => ?_, fun j sl x e1 e2 => ?_, fun j k sl tl x y w e1 e2 e3 e4 e5 e6 => ?_, s.keep, s.mu, s.bsub, s.bnew, s.b0, fun j a hj => ?_⟩
  · by_cases hji : i = j
    · subst hji
      by_cases hl : i < ρ.length
      · rw [List.getElem?_set_self hl] at e; cases e
      · rw [List.getElem?_eq_none (by rw [List.length_set]; omega)] at e; cases e
    · rw [List.getElem?_set_ne hji] at e
      rw [List.getElem?_set_ne hji]
      exact s.dat j x e
  · by_cases hji : i = j
    · subst hji
      by_cases hl : i < ρ.length
      · rw [List.getElem?_set_self hl] at e1
        cases e1; cases e2
        exact ⟨a, List.getElem?_set_self (by rw [s.len]; exact hl), hb, h, .inl h0⟩
      · rw [List.getElem?_eq_none (by rw [List.length_set]; omega)] at e1; cases e1
    · rw [List.getElem?_set_ne hji] at e1
      rw [List.getElem?_set_ne hji]
      exact s.own j sl x e1 e2
  · have inl : ∀ (z : Nat) (t : Sl), (ρ.set i (.own d))[z]? = some t → i = z → i < ρ.length := fun z t e q => by
      subst q
      by_cases hl : i < ρ.length
      · exact hl
      · rw [List.getElem?_eq_none (by rw [List.length_set]; omega)] at e; cases e
    by_cases nj : i = j
    · by_cases nk : i = k
      · exact nj.symm.trans nk
      · have hl := inl j sl e1 nj
        subst nj
        rw [List.getElem?_set_self (by rw [s.len]; exact hl)] at e5; cases e5
        rw [List.getElem?_set_ne nk] at e3 e6
        exact absurd e6 (hn k tl y e3 e4)
    · by_cases nk : i = k
      · have hl := inl k tl e3 nk
        subst nk
        rw [List.getElem?_set_self (by rw [s.len]; exact hl)] at e6; cases e6
        rw [List.getElem?_set_ne nj] at e1 e5
        exact absurd e5 (hn j sl x e1 e2)
      · rw [List.getElem?_set_ne nj] at e1 e5
        rw [List.getElem?_set_ne nk] at e3 e6
        exact s.dist j k sl tl x y w e1 e2 e3 e4 e5 e6
  · obtain ⟨h1, sl, x, h2, h3, h4⟩ := s.io j a hj
    have nj : i ≠ j := fun z => by subst z; exact hio hj.1
    refine ⟨h1, sl, x, ?_, h3, ?_⟩
    · rw [List.getElem?_set_ne nj]; exact h2
    · rw [List.getElem?_set_ne nj]; exact h4
theorem lent_set {sl : Sl} {w : Option V} (h : isLent ρ[i]? = false) : ∀ (j : Nat) d, ρ[j]? = some (.lent d) → (ρ.set i sl)[j]? = some (.lent d) ∧ (σ.set i w)[j]? = σ[j]? := fun j d e => by
  have nj : i ≠ j := fun z => by subst z; rw [e] at h; cases h
  rw [List.getElem?_set_ne nj, List.getElem?_set_ne nj]
  exact ⟨e, rfl⟩
theorem SR.drop0 (s : SR F H σ ρ B) {p : Pd} {d : D} (h : PdR F F.H0 H B σ ρ p v) (e : p.dat = some d) : ∃ B2, SR F H σ ρ B2 ∧ Mono H B H B2 ∧ DR F.G H B2 d v := by
  cases p with
  | d x => cases e; exact ⟨B, s, .refl s, h⟩
  | f x =>
    cases e
    obtain ⟨a, e, b, o, n, q⟩ := h
    subst e
    have m : Mono H B H (fun b => B b ∧ b ≠ a) := ⟨fun _ _ e _ => e, s.mu, fun _ b => .inl b.1⟩
    exact ⟨_, s.drop n q, m, OwR.dr (fun z => z.2 rfl) (o.mono m rfl)⟩
  | o i => cases e
theorem aft_set {Q : L2.St → Hp → Prop} {p : Pd} (s : SR F H σ ρ B) (hio : F.iom[i]? ≠ some true) (r : PdR F F.H0 H B σ ρ p v) (h : AftT F σ ρ H B Q (gSet i p ρ)) : Q (σ.set i (some v)) H := by
  cases p with
  | d x =>
    change AftT F σ ρ H B Q (putSl i (.dat x) ρ) at h
    unfold putSl at h
    cases e : isLent ρ[i]? with
    | true => rw [e] at h; exact h.elim
    | false =>
      rw [e] at h
      exact h _ H B ⟨s.setDat hio r, .refl s, lent_set e⟩
  | f x =>
    change AftT F σ ρ H B Q (putSl i (.own x) ρ) at h
    unfold putSl at h
    cases e : isLent ρ[i]? with
    | true => rw [e] at h; exact h.elim
    | false =>
      rw [e] at h
      obtain ⟨a, e1, b, o, n, q⟩ := r
      subst e1
      exact h _ H B ⟨s.setOwn hio b o n q, .refl s, lent_set e⟩
  | o j => exact h.elim
theorem aft_setD {Q : L2.St → Hp → Prop} {p : Pd} (s : SR F H σ ρ B) (hio : F.iom[i]? ≠ some true) (r : PdR F F.H0 H B σ ρ p v) (h : AftT F σ ρ H B Q (gSetD i p ρ)) : Q (σ.set i (some v)) H := by
  unfold gSetD at h
  cases e1 : p.dat with
  | none => rw [e1] at h; exact h.elim
  | some x =>
    rw [e1] at h
    change AftT F σ ρ H B Q (putSl i (.dat x) ρ) at h
    unfold putSl at h
    obtain ⟨B2, s2, m, hd⟩ := s.drop0 r e1
    cases e : isLent ρ[i]? with
    | true => rw [e] at h; exact h.elim
    | false =>
      rw [e] at h
      exact h _ H B2 ⟨s2.setDat hio hd, m, lent_set e⟩
end
section
variable {X : Cx} {F : Fr0} {W : WX} {e a b c tg : Expr} {es : List Expr} {pos : Pos} {st : Stmt} {rest sa sb : List Stmt} {i : Nat} {x : Str}
theorem pg_imp {t t' : TG} (h : PG X e t) (k : ∀ v σ H Q, t' v σ H Q → t v σ H Q) : PG X e t' := ⟨fun pins s σ H v u Q I r q => h.run pins s σ H v u Q I r (k v σ H Q q)⟩
theorem pgs_imp {t t' : TGs} (h : PGs X es t) (k : ∀ v σ H Q, t' v σ H Q → t v σ H Q) : PGs X es t' := ⟨fun pins s σ H v u Q I r q => h.run pins s σ H v u Q I r (k v σ H Q q)⟩
theorem rg_set (hN : X.N.Nodup) (hio : F.iom[i]? ≠ some true) (hi : X.N[i]? = some x := by rfl) (hx : Loc X.env.scope x := by first | exact Or.inl rfl | exact Or.inr rfl) (hf : X.fn x = true ∨ X.env.scope.names.lookup x = some .local := by first | exact .inl rfl | exact .inr rfl) :
    PG X (.Name x pos) (TGx F (gSet i)) :=
  pg_imp (pg_name hN hi hx hf) fun v σ H Q ⟨ρ, B, p, s, r, h⟩ => aft_set s hio r h
theorem rg_setD (hN : X.N.Nodup) (hio : F.iom[i]? ≠ some true) (hi : X.N[i]? = some x := by rfl) (hx : Loc X.env.scope x := by first | exact Or.inl rfl | exact Or.inr rfl) (hf : X.fn x = true ∨ X.env.scope.names.lookup x = some .local := by first | exact .inl rfl | exact .inr rfl) :
    PG X (.Name x pos) (TGx F (gSetD i)) :=
  pg_imp (pg_name hN hi hx hf) fun v σ H Q ⟨ρ, B, p, s, r, h⟩ => aft_setD s hio r h
def gsNil : List D → Rho → Rs Unit := fun ds ρ => match ds with
  | [] => .ok () ρ
  | _ => .bad
def gsCons (t : Pd → Rho → Rs Unit) (u : List D → Rho → Rs Unit) : List D → Rho → Rs Unit := fun ds ρ => match ds with
  | d :: ds => (t (.d d) ρ).bind fun _ ρ1 => u ds ρ1
  | [] => .bad
theorem rgs_nil : PGs X [] (TGsx F gsNil) := pgs_imp pgs_nil fun v σ H Q ⟨ρ, B, ds, s, r, h⟩ => by
  cases ds with
  | nil => cases r; exact ⟨rfl, h σ H B (.refl s)⟩
  | cons d ds => exact h.elim
theorem rgs_cons {t : Pd → Rho → Rs Unit} {u : List D → Rho → Rs Unit} (h1 : PG X e (TGx F t)) (h2 : PGs X es (TGsx F u)) (hs : (assignEach (e :: es) X.env).map (·.2) = assign e X.env :: (assignEach es X.env).map (·.2) := by rfl) : PGs X (e :: es) (TGsx F (gsCons t u)) :=
  pgs_imp (pgs_cons h1 h2 hs) fun vs σ H Q ⟨ρ, B, ds, s, r, h⟩ => by
    cases ds with
    | nil => exact h.elim
    | cons d ds =>
      cases r with
      | cons r1 r2 =>
        refine ⟨_, _, rfl, ρ, B, .d d, s, r1, ?_⟩
        change AftT F σ ρ H B Q ((t (.d d) ρ).bind fun _ ρ1 => u ds ρ1) at h
        cases e1 : t (.d d) ρ with
        | ok z ρ1 =>
          rw [e1] at h
          exact fun σ' H' B' st => ⟨ρ1, B', ds, st.sr, r2.mono st.mono, AftT.from_ st h⟩
        | er y ρ1 => rw [e1] at h; exact h.elim
        | bad => rw [e1] at h; exact h.elim
def gTupP (n : Nat) (u : List D → Rho → Rs Unit) : Pd → Rho → Rs Unit := fun p ρ => match p with
  | .d (.tup ds) => if ds.length = n then u ds ρ else .bad
  | _ => .bad
theorem rg_tup {k n : Nat} {u : List D → Rho → Rs Unit} (hc : X.calm = true) (h : PGs X es (TGsx F u)) (hK : F.G.K = X.K) (hn : (assignEach es X.env).length = n := by rfl) (hst : (assignEach es X.env).findIdx? (·.1) = none := by rfl) : PG X (.Tuple es k pos) (TGx F (gTupP n u)) :=
  pg_imp (pg_tup hc h hn hst) fun v σ H Q ⟨ρ, B, p, s, r, h⟩ => by
    cases p with
    | d x =>
      cases x with
      | tup ds =>
        change AftT F σ ρ H B Q (if ds.length = n then u ds ρ else .bad) at h
        by_cases e : ds.length = n
        · rw [if_pos e] at h
          cases r with
          | tup r1 r2 => exact ⟨_, _, rfl, .inl (.inl r1), by rw [← r2.length]; exact e, ρ, B, ds, s, r2, h⟩
        · rw [if_neg e] at h; exact h.elim
      | _ => exact h.elim
    | f x => exact h.elim
    | o j => exact h.elim
/-- an item of a slot's own list -/
def gItem (j : Nat) (t : Ex) : Pd → Rho → Rs Unit := fun p ρ => match p.dat with
  | some d => (match ρ[j]? with
    | some (.own _) => (match t ρ with
      | .ok q ρ1 => (match q.get ρ1 with
        | some (.int k) => (match ρ1[j]? with
          | some (.own (.lst ds)) => (match ixN ds.length k with
            | some m => .ok () (ρ1.set j (.own (.lst (ds.set m d))))
            | none => .bad)
          | _ => .bad)
        | _ => .bad)
      | _ => .bad)
    | _ => .bad)
  | none => .bad
/-- what an own slot's list becomes -/
theorem SR.upOwn {σ : L2.St} {ρ : Rho} {H : Hp} {B : Addr → Prop} {j : Nat} {d d' : D} {a : Addr} {o : HO} (s : SR F H σ ρ B) (hj : ρ[j]? = some (.own d)) (ha : σ[j]? = some (some (.ref a))) (hm : Mut (some o))
    (hd : OwR F.G (upd H a o) B d' a) : SR F (upd H a o) σ (ρ.set j (.own d')) B ∧ Mono H B (upd H a o) B ∧ (∀ b u, H b = some u → b ≠ a → upd H a o b = some u) := by
  have hb := s.ownB hj ha
  have m : Mono H B (upd H a o) B := ⟨fun b u e n => by rw [upd_ne (fun z => n (by rw [z]; exact hb))]; exact e, s.mu, fun _ b => .inl b⟩
  have hl : j < ρ.length := (List.getElem?_eq_some_iff.mp hj).1
  refine ⟨⟨by rw [List.length_set]; exact s.len, fun k x e => ?_, fun k sl x e1 e2 => ?_, fun k l sl tl x y w e1 e2 e3 e4 e5 e6 => ?_, fun b u e n => ?_, fun b hb' => ?_, s.bsub, s.bnew, s.b0, fun k b hk => ?_⟩, m, fun b u e n => by rw [upd_ne n]; exact e⟩
  · have nk : j ≠ k := fun z => by subst z; rw [List.getElem?_set_self hl] at e; cases e
    rw [List.getElem?_set_ne nk] at e
    obtain ⟨v, h1, h2⟩ := s.dat k x e
    exact ⟨v, h1, h2.mono m⟩
  · by_cases nk : j = k
    · subst nk
      rw [List.getElem?_set_self hl] at e1; cases e1; cases e2
      obtain ⟨b, h1, h2, h3, h4⟩ := s.own j _ d hj rfl
      rw [ha] at h1; cases h1
      exact ⟨a, ha, h2, hd, h4⟩
    · rw [List.getElem?_set_ne nk] at e1
      obtain ⟨b, h1, h2, h3, h4⟩ := s.own k sl x e1 e2
      have nb : b ≠ a := fun z => by
        subst z
        exact nk (s.dist j k _ _ d x _ hj rfl e1 e2 ha h1)
      exact ⟨b, h1, h2, h3.mono m (upd_ne nb), h4⟩
  · have get : ∀ (k : Nat) (sl : Sl) (x : D), (ρ.set j (.own d'))[k]? = some sl → sl.held = some x → ∃ sl' x', ρ[k]? = some sl' ∧ sl'.held = some x' := fun k sl x e1 e2 => by
      by_cases nk : j = k
      · subst nk; exact ⟨_, d, hj, rfl⟩
      · rw [List.getElem?_set_ne nk] at e1; exact ⟨sl, x, e1, e2⟩
    obtain ⟨_, _, q1, q2⟩ := get k sl x e1 e2
    obtain ⟨_, _, q3, q4⟩ := get l tl y e3 e4
    exact s.dist k l _ _ _ _ w q1 q2 q3 q4 e5 e6
  · have q := s.keep b u e n
    by_cases z : b = a
    · subst z
      obtain ⟨b', h1, h2, h3, h4⟩ := s.own j _ d hj rfl
      rw [ha] at h1; cases h1
      rcases h4 with h4 | h4
      · rw [h4] at e; cases e
      · exact absurd h4 (n j)
    · rw [upd_ne z]; exact q
  · by_cases z : b = a
    · subst z; rw [upd_same]; exact hm
    · rw [upd_ne z]; exact s.mu b hb'
  · obtain ⟨h1, sl, x, h2, h3, h4⟩ := s.io k b hk
    by_cases nk : j = k
    · subst nk
      exact ⟨h1, _, d', List.getElem?_set_self hl, rfl, h4⟩
    · exact ⟨h1, sl, x, by rw [List.getElem?_set_ne nk]; exact h2, h3, h4⟩
theorem lent_upOwn {σ : L2.St} {ρ : Rho} {j : Nat} {d d' : D} (hj : ρ[j]? = some (.own d)) : ∀ (k : Nat) x, ρ[k]? = some (.lent x) → (ρ.set j (.own d'))[k]? = some (.lent x) ∧ σ[k]? = σ[k]? := fun k x e => by
  have nk : j ≠ k := fun z => by subst z; rw [e] at hj; cases hj
  exact ⟨by rw [List.getElem?_set_ne nk]; exact e, rfl⟩
theorem own_lst {G : Gx} {H : Hp} {B : Addr → Prop} {ds : List D} {a : Addr} (h : OwR G H B (.lst ds) a) : ∃ vs, H a = some (.lst vs) ∧ DRs G H B ds vs := by
  rcases h with ⟨ds', vs, e1, e2, e3⟩ | ⟨_, _, e1, _⟩ | ⟨_, _, e1, _⟩
  · cases e1; exact ⟨vs, e2, e3⟩
  · cases e1
  · cases e1
theorem rg_item (j : Nat) {t : Ex} {ie : Expr} {p2 : Pos} (hi : PE X ie (TEx F (fun _ _ _ _ => False) t)) (hN : X.N[j]? = some x := by rfl) (hv : Vis X.env.scope x := by first | exact Or.inl rfl | exact Or.inr (Or.inl rfl) | exact Or.inr (Or.inr rfl)) (hd : (x == ("__debug__" : Str)) = false := by decide)
    (hcd : (x == ("__classdict__" : Str)) = false := by decide) (ha : ∀ v, assign (.Subscript (.Name x p2) ie pos) X.env v = (do
      let ov ← holding [v] (eval (.Name x p2) X.env)
      let iv ← holding [v, ov] (eval ie X.env)
      standAt pos
      holding [v, ov, iv] (setItem ov iv v)
      release [v, ov, iv] []) := by intro _; rfl) : PG X (.Subscript (.Name x p2) ie pos) (TGx F (gItem j t)) :=
  pg_imp (pg_sub (pv j hN hv hd hcd) hi set_list ha) fun v σ H Q ⟨ρ, B, p, s, r, h⟩ => by
    unfold gItem at h
    cases e1 : p.dat with
    | none => simp only [e1] at h; exact h.elim
    | some d =>
      simp only [e1] at h
      obtain ⟨B2, s2, m2, hd2⟩ := s.drop0 r e1
      cases e0 : ρ[j]? with
      | none => simp only [e0] at h; exact h.elim
      | some sl0 =>
        cases sl0 with
        | own d0 =>
          simp only [e0] at h
          obtain ⟨a, ha0, hb0, _, _⟩ := s2.own j _ d0 e0 rfl
          refine ⟨.ref a, ha0, ρ, B2, s2, ?_⟩
          cases e2 : t ρ with
          | er y ρ1 => simp only [e2] at h; exact h.elim
          | bad => simp only [e2] at h; exact h.elim
          | ok q ρ1 =>
            simp only [e2] at h
            intro w H1 B1 st rq
            cases e3 : q.get ρ1 with
            | none => simp only [e3] at h; exact h.elim
            | some z =>
              cases z with
              | int k =>
                simp only [e3] at h
                cases e4 : ρ1[j]? with
                | none => simp only [e4] at h; exact h.elim
                | some sl =>
                  cases sl with
                  | own dl =>
                    cases dl with
                    | lst ds =>
                      simp only [e4] at h
                      cases e5 : ixN ds.length k with
                      | none => simp only [e5] at h; exact h.elim
                      | some m =>
                        simp only [e5] at h
                        obtain ⟨a', h1, h2, h3, _⟩ := st.sr.own j _ _ e4 rfl
                        rw [ha0] at h1; cases h1
                        obtain ⟨vs, e6, e7⟩ := own_lst h3
                        have hw := (rq.tr st.sr e3).int
                        have hd3 : DR F.G H1 B1 d v := hd2.mono (st.mono s2)
                        have mm : Mono H1 B1 (upd H1 a (.lst (vs.set m v))) B1 := ⟨fun b u e n => by rw [upd_ne (fun z => n (by rw [z]; exact h2))]; exact e, st.sr.mu, fun _ b => .inl b⟩
                        have ow : OwR F.G (upd H1 a (.lst (vs.set m v))) B1 (.lst (ds.set m d)) a := .inl ⟨_, _, rfl, upd_same, (DRs.set hd3 m e7).mono mm⟩
                        obtain ⟨u1, u2, u3⟩ := st.sr.upOwn (o := .lst (vs.set m v)) e4 ha0 trivial ow
                        refine ⟨a, vs, k, m, rfl, hw, e6, by rw [← e7.length]; exact e5, ?_⟩
                        refine h σ _ B1 ⟨u1, (m2.trans (st.mono s2)).trans u2, fun i y e => ?_⟩
                        have q1 : ρ1[i]? = some (.lent y) := by
                          rcases st.sl i with ⟨d1, d2, f1, f2⟩ | f2
                          · rw [e] at f1; cases f1
                          · rw [f2, e]
                        exact lent_upOwn e4 i y q1
                    | _ => simp only [e4] at h; exact h.elim
                  | _ => simp only [e4] at h; exact h.elim
              | _ => simp only [e3] at h; exact h.elim
        | _ => simp only [e0] at h; exact h.elim
/-! assignment -/
def sAsg (t : Ex) (g : Pd → Rho → Rs Unit) : Sx := fun ρ => (t ρ).bind fun p ρ1 => (g p ρ1).bind fun _ ρ2 => .ok .nx ρ2
theorem aft_asg {D : Ends} {σ : L2.St} {ρ : Rho} {H : Hp} {B : Addr → Prop} {m : Rs Unit} (h : AftS F W D σ ρ H B (m.bind fun _ ρ2 => .ok .nx ρ2)) (hn : ∀ x ρ', m ≠ .er x ρ') : AftT F σ ρ H B D.nx m := by
  cases m with
  | ok z ρ2 => exact h
  | er x ρ2 => exact absurd rfl (hn x ρ2)
  | bad => exact h
/-- a target that lets nothing out -/
def Quiet (g : Pd → Rho → Rs Unit) : Prop := ∀ p ρ x ρ', g p ρ ≠ .er x ρ'
theorem rs_asg {t : Ex} {g : Pd → Rho → Rs Unit} (hq : Quiet g) (he : PE X e (TEx F W t)) (hg : PG X tg (TGx F g)) (hs : swapsWithSole [tg] e pos.line X.env = pure false := by rfl) (hw : swappedStores [tg] e X.env = pure none := by rfl)
    (h1 : (assignEach [tg] X.env).map (·.2) = [assign tg X.env] := by rfl) : PS X (.Assign [tg] e pos) (TSx F W (sAsg t g)) :=
  ps_imp (ps_asg he hg hs hw h1) fun D σ H ⟨ρ, B, s, h⟩ => ⟨ρ, B, s, aft_ex s h fun a v ρ1 H1 B1 st r q => ⟨ρ1, B1, a, st.sr, PdR.back (fun _ n => s.dom0 n) r, AftT.from_ (st.s s) (aft_asg q (hq _ _))⟩⟩
theorem q_put (i : Nat) (sl : Sl) (ρ : Rho) : ∀ x ρ', putSl i sl ρ ≠ .er x ρ' := fun x ρ' z => by
  unfold putSl at z; split at z <;> cases z
theorem q_set (i : Nat) : Quiet (gSet i) := fun p ρ x ρ' z => by
  cases p with
  | d y => exact q_put i _ ρ x ρ' z
  | f y => exact q_put i _ ρ x ρ' z
  | o j => cases z
theorem q_setD (i : Nat) : Quiet (gSetD i) := fun p ρ x ρ' z => by
  unfold gSetD at z
  split at z
  · exact q_put i _ ρ x ρ' z
  · cases z
def QuietL (u : List D → Rho → Rs Unit) : Prop := ∀ p ρ x ρ', u p ρ ≠ .er x ρ'
theorem q_nil : QuietL gsNil := fun ds ρ x ρ' z => by cases ds <;> cases z
theorem q_cons {t : Pd → Rho → Rs Unit} {u : List D → Rho → Rs Unit} (h1 : Quiet t) (h2 : QuietL u) : QuietL (gsCons t u) := fun ds ρ x ρ' z => by
  cases ds with
  | nil => cases z
  | cons d ds =>
    change (t (.d d) ρ).bind (fun _ ρ1 => u ds ρ1) = .er x ρ' at z
    cases e : t (.d d) ρ with
    | ok a ρ1 => rw [e] at z; exact h2 _ _ _ _ z
    | er y ρ1 => exact h1 _ _ _ _ e
    | bad => rw [e] at z; cases z
theorem q_tup {n : Nat} {u : List D → Rho → Rs Unit} (h : QuietL u) : Quiet (gTupP n u) := fun p ρ x ρ' z => by
  unfold gTupP at z
  split at z
  · split at z
    · exact h _ _ _ _ z
    · cases z
  · cases z
theorem q_item (j : Nat) (t : Ex) : Quiet (gItem j t) := fun p ρ x ρ' z => by
  unfold gItem at z
  repeat' split at z
  all_goals cases z
end
end PL
set_option maxHeartbeats 4000000
/-! ### freezing, assignments side by side, loops -/
namespace PL
open PySem L2
section
variable {X : Cx} {F : Fr0} {W : WX} {e a b c tg : Expr} {es : List Expr} {pos : Pos} {st : Stmt} {rest sa sb : List Stmt} {x y : Str}
/-- from here on slot i's own object is data -/
def sFrz (i : Nat) (t : Sx) : Sx := fun ρ => match ρ[i]? with
  | some (.own d) => t (ρ.set i (.dat d))
  | some (.dat _) => t ρ
  | _ => .bad
theorem SR.freeze {σ : L2.St} {ρ : Rho} {H : Hp} {B : Addr → Prop} {i : Nat} {d : D} (s : SR F H σ ρ B) (hio : F.iom[i]? ≠ some true) (hi : ρ[i]? = some (.own d)) : ∃ B2, SStp F σ ρ H B σ (ρ.set i (.dat d)) H B2 := by
  obtain ⟨a, h1, h2, h3, h4⟩ := s.own i _ d hi rfl
  have hl : i < ρ.length := (List.getElem?_eq_some_iff.mp hi).1
  have h0 : F.H0 a = none := h4.elim id fun z => absurd z.1 hio
  have m : Mono H B H (fun b => B b ∧ b ≠ a) := ⟨fun _ _ e _ => e, s.mu, fun _ b => .inl b.1⟩
  have get : ∀ (k : Nat) (sl : Sl) (y : D), (ρ.set i (.dat d))[k]? = some sl → sl.held = some y → i ≠ k ∧ ρ[k]? = some sl := fun k sl y e1 e2 => by
    by_cases nk : i = k
    · subst nk; rw [List.getElem?_set_self hl] at e1; cases e1; cases e2
    · rw [List.getElem?_set_ne nk] at e1; exact ⟨nk, e1⟩
  refine ⟨_, ⟨by rw [List.length_set]; exact s.len, fun k y e => ?_, fun k sl y e1 e2 => ?_, fun k l sl tl y z w e1 e2 e3 e4 e5 e6 => ?_, s.keep, fun b hb => s.mu b hb.1, fun b hb => ⟨s.bsub b hb, fun z => s.b0 b hb (by rw [z]; exact h0)⟩, fun b hb => s.bnew b hb.1, s.b0, fun k b hk => ?_⟩, m, fun k y e => ?_⟩
  · by_cases nk : i = k
    · subst nk
      rw [List.getElem?_set_self hl] at e; cases e
      exact ⟨.ref a, h1, OwR.dr (fun z => z.2 rfl) (h3.mono m rfl)⟩
    · rw [List.getElem?_set_ne nk] at e
      obtain ⟨v, q1, q2⟩ := s.dat k y e
      exact ⟨v, q1, q2.mono m⟩
  · obtain ⟨nk, e1⟩ := get k sl y e1 e2
    obtain ⟨b, q1, q2, q3, q4⟩ := s.own k sl y e1 e2
    exact ⟨b, q1, ⟨q2, fun z => by subst z; exact nk (s.dist i k _ _ d y _ hi rfl e1 e2 h1 q1)⟩, q3.mono m rfl, q4⟩
  · exact s.dist k l sl tl y z w (get k sl y e1 e2).2 e2 (get l tl z e3 e4).2 e4 e5 e6
  · obtain ⟨q1, sl, y, q2, q3, q4⟩ := s.io k b hk
    have nk : i ≠ k := fun z => by subst z; exact hio hk.1
    exact ⟨q1, sl, y, by rw [List.getElem?_set_ne nk]; exact q2, q3, q4⟩
  · have nk : i ≠ k := fun z => by subst z; rw [e] at hi; cases hi
    exact ⟨by rw [List.getElem?_set_ne nk]; exact e, rfl⟩
theorem rs_frz {t : Sx} (i : Nat) (hio : F.iom[i]? ≠ some true) (h : PSs X rest (TSx F W t)) : PSs X rest (TSx F W (sFrz i t)) :=
  pss_imp h fun D σ H ⟨ρ, B, s, h⟩ => by
    unfold sFrz at h
    cases e : ρ[i]? with
    | none => simp only [e] at h; exact h.elim
    | some sl =>
      cases sl with
      | own d =>
        simp only [e] at h
        obtain ⟨B2, st⟩ := s.freeze hio e
        exact ⟨_, B2, st.sr, AftS.from_ st h⟩
      | dat d => simp only [e] at h; exact ⟨ρ, B, s, h⟩
      | _ => simp only [e] at h; exact h.elim
/-- own or data -/
def gS (o : Bool) (i : Nat) : Pd → Rho → Rs Unit := fun p ρ => if o then gSet i p ρ else gSetD i p ρ
theorem q_s (o : Bool) (i : Nat) : Quiet (gS o i) := fun p ρ x ρ' z => by
  unfold gS at z
  cases o
  · exact q_setD i p ρ x ρ' z
  · exact q_set i p ρ x ρ' z
theorem rg_s (o : Bool) {i : Nat} (hN : X.N.Nodup) (hio : F.iom[i]? ≠ some true) (hi : X.N[i]? = some x := by rfl) (hx : Loc X.env.scope x := by first | exact Or.inl rfl | exact Or.inr rfl) (hf : X.fn x = true ∨ X.env.scope.names.lookup x = some .local := by first | exact .inl rfl | exact .inr rfl) :
    PG X (.Name x pos) (TGx F (gS o i)) := by
  cases o
  · exact rg_setD hN hio hi hx hf
  · exact rg_set hN hio hi hx hf
/-- the slot's store, with what is left -/
theorem gS_out {σ : L2.St} {ρ ρ' : Rho} {H : Hp} {B : Addr → Prop} {o : Bool} {i : Nat} {p : Pd} {v : V} (s : SR F H σ ρ B) (hio : F.iom[i]? ≠ some true) (r : PdR F F.H0 H B σ ρ p v) (e : gS o i p ρ = .ok () ρ') :
    (∃ B2, SStp F σ ρ H B (σ.set i (some v)) ρ' H B2 ∧ ∀ (q : Pd) (w : V), PdR F F.H0 H B σ ρ q w → (∀ j, q ≠ .o j) → (∀ z y, q = .f z → p = .f y → w ≠ v) → PdR F F.H0 H B2 (σ.set i (some v)) ρ' q w) := by
  have key : ∀ (sl : Sl) (B2 : Addr → Prop), Mono H B H B2 → (∀ a, B a → ((∃ y, p = .f y) → .ref a ≠ v) → B2 a) → putSl i sl ρ = .ok () ρ' → (∀ y, sl.held = some y → ∃ y, p = .f y) → (SR F H (σ.set i (some v)) (ρ.set i sl) B2) → SStp F σ ρ H B (σ.set i (some v)) ρ' H B2 ∧ ∀ (q : Pd) (w : V), PdR F F.H0 H B σ ρ q w → (∀ j, q ≠ .o j) → (∀ z y, q = .f z → p = .f y → w ≠ v) → PdR F F.H0 H B2 (σ.set i (some v)) ρ' q w := by
    intro sl B2 m hB hp hh s2
    unfold putSl at hp
    cases el : isLent ρ[i]? with
    | true => rw [el] at hp; cases hp
    | false =>
      rw [el] at hp
      obtain rfl : ρ.set i sl = ρ' := by injection hp
      refine ⟨⟨s2, m, lent_set el⟩, fun q w rq ho hf => ?_⟩
      cases q with
      | d z => exact DR.mono m z rq
      | o j => exact absurd rfl (ho j)
      | f z =>
        obtain ⟨a, e1, h1, h2, h3, h4⟩ := rq
        subst e1
        refine ⟨a, rfl, hB a h1 (fun ⟨y, hy⟩ => hf z y rfl hy), h2.mono m rfl, h3, fun k t y k1 k2 => ?_⟩
        by_cases nk : i = k
        · subst nk
          have hl : i < ρ.length := by
            by_cases hl : i < ρ.length
            · exact hl
            · rw [List.getElem?_eq_none (by rw [List.length_set]; omega)] at k1; cases k1
          rw [List.getElem?_set_self hl] at k1; cases k1
          obtain ⟨y', hy⟩ := hh y k2
          have hne := hf z y' rfl hy
          rw [List.getElem?_set_self (by rw [s.len]; exact hl)]
          exact fun z => hne (by injection z with z; injection z with z; exact z.symm)
        · rw [List.getElem?_set_ne nk] at k1
          rw [List.getElem?_set_ne nk]
          exact h4 k t y k1 k2
  cases o with
  | true =>
    cases p with
    | d z => exact ⟨B, key (.dat z) B (.refl s) (fun _ b _ => b) e (fun _ z => nomatch z) (s.setDat hio r)⟩
    | f z =>
      obtain ⟨a, e1, h1, h2, h3, h4⟩ := r
      subst e1
      exact ⟨B, key (.own z) B (.refl s) (fun _ b _ => b) e (fun _ _ => ⟨z, rfl⟩) (s.setOwn hio h1 h2 h3 h4)⟩
    | o j => cases e
  | false =>
    change gSetD i p ρ = .ok () ρ' at e
    unfold gSetD at e
    cases p with
    | d z => exact ⟨B, key (.dat z) B (.refl s) (fun _ b _ => b) e (fun _ z => nomatch z) (s.setDat hio r)⟩
    | f z =>
      obtain ⟨a, e1, h1, h2, h3, h4⟩ := r
      subst e1
      have m : Mono H B H (fun b => B b ∧ b ≠ a) := ⟨fun _ _ e _ => e, s.mu, fun _ b => .inl b.1⟩
      exact ⟨_, key (.dat z) _ m (fun b hb hn => ⟨hb, fun q => hn ⟨z, rfl⟩ (by rw [q])⟩) e (fun _ z => nomatch z) ((s.drop h3 h4).setDat hio (OwR.dr (fun z => z.2 rfl) (h2.mono m rfl)))⟩
    | o j => cases e
def sPar2 (o1 : Bool) (i : Nat) (o2 : Bool) (j : Nat) (ta tb : Ex) : Sx := fun ρ => (ta ρ).bind fun p ρ1 => (tb ρ1).bind fun q ρ2 => match q with
  | .o _ => .bad
  | _ => (gS o1 i p ρ2).bind fun _ ρ3 => (gS o2 j q ρ3).bind fun _ ρ4 => .ok .nx ρ4
theorem rs_par2 {o1 o2 : Bool} {i j : Nat} {ta tb : Ex} {px py pt : Pos} {kt k2 pt2} (hc : X.calm = true) (hN : X.N.Nodup) (hij : i ≠ j) (hi1 : F.iom[i]? ≠ some true) (hj1 : F.iom[j]? ≠ some true)
    (ha : PE X a (TEx F W ta)) (hb : PE X b (TEx F W tb)) (hi : X.N[i]? = some x := by rfl) (hj : X.N[j]? = some y := by rfl)
    (hx : X.env.scope.names.lookup x = some .local := by rfl) (hy : X.env.scope.names.lookup y = some .local := by rfl)
    (hw : swappedStores [.Tuple [.Name x px, .Name y py] kt pt] (.Tuple [a, b] k2 pt2) X.env = pure (some [x, y]) := by rfl)
    (hs : swapsWithSole [.Tuple [.Name x px, .Name y py] kt pt] (.Tuple [a, b] k2 pt2) pos.line X.env = pure false := by rfl)
    (hs1 : starEach (a :: [b]) X.env = (false, eval a X.env) :: starEach [b] X.env := by rfl) (hs2 : starEach (b :: []) X.env = (false, eval b X.env) :: starEach [] X.env := by rfl) :
    PS X (.Assign [.Tuple [.Name x px, .Name y py] kt pt] (.Tuple [a, b] k2 pt2) pos) (TSx F W (sPar2 o1 i o2 j ta tb)) :=
  ps_imp (ps_par hc hN hi hj hij hx hy (pa_cons ha (pa_cons hb pa_nil hs2) hs1) hw hs) fun D σ H ⟨ρ, B, s, h⟩ => ⟨ρ, B, s, aft_ex s h fun p v ρ1 H1 B1 st r q => by
    refine ⟨ρ1, B1, st.sr, aft_ex st.sr (AftS.from_ (st.s s) q) fun p2 w ρ2 H2 B2 st2 r2 q2 => ?_⟩
    refine ⟨v, w, rfl, ?_⟩
    have rp := PdR.back (fun a n => s.dom0 n) (PdR.step st.sr st2 r)
    have rq := PdR.back (fun a n => st.sr.dom0 n) r2
    have nq : ∀ k, p2 ≠ .o k := fun k z => by subst z; exact q2.elim
    have q3 : AftS F W D σ ρ1 H1 B1 ((gS o1 i p ρ2).bind fun _ ρ3 => (gS o2 j p2 ρ3).bind fun _ ρ4 => .ok .nx ρ4) := by
      cases p2 with
      | o k => exact q2.elim
      | d z => exact q2
      | f z => exact q2
    cases e1 : gS o1 i p ρ2 with
    | er y ρ' => exact absurd e1 (q_s o1 i p ρ2 y ρ')
    | bad => rw [e1] at q3; exact q3.elim
    | ok z ρ3 =>
      rw [e1] at q3
      obtain ⟨B3, st3, k3⟩ := gS_out st2.sr hi1 rp e1
      have hdis : ∀ z y, p2 = .f z → p = .f y → w ≠ v := fun z y ez ey hv => by
        subst ez; subst ey
        obtain ⟨a2, f1, f2, f3, f4, f5⟩ := r2
        obtain ⟨a1, g1, g2, g3, g4, g5⟩ := r
        rw [← hv, f1] at g1; cases g1
        obtain ⟨u, hu⟩ := st.sr.bdom g2
        rw [f4] at hu; cases hu
      have rq3 := k3 p2 w rq nq hdis
      have q4 : AftS F W D σ ρ1 H1 B1 ((gS o2 j p2 ρ3).bind fun _ ρ4 => .ok .nx ρ4) := q3
      cases e2 : gS o2 j p2 ρ3 with
      | er y ρ' => exact absurd e2 (q_s o2 j p2 ρ3 y ρ')
      | bad => rw [e2] at q4; exact q4.elim
      | ok z ρ4 =>
        rw [e2] at q4
        obtain ⟨B4, st4, _⟩ := gS_out st3.sr hj1 rq3 e2
        exact q4 _ H2 B4 (((st2.s st.sr).trans st3).trans st4)⟩
end
end PL
set_option maxHeartbeats 4000000
/-! ### what is walked; for, while -/
namespace PL
open PySem L2
/-- the iterator J yields the data xs, wherever the state has come to -/
def WalkR (F : Fr0) (J : It) (xs : List D) (σ : L2.St) (ρ : Rho) (H : Hp) (B : Addr → Prop) : Prop :=
  ∃ P : L2.St → Rho → Hp → (Addr → Prop) → Prop, P σ ρ H B ∧ (∀ σ1 ρ1 H1 B1 σ2 ρ2 H2 B2, P σ1 ρ1 H1 B1 → SStp F σ1 ρ1 H1 B1 σ2 ρ2 H2 B2 → P σ2 ρ2 H2 B2) ∧
    ∀ i σ1 ρ1 H1 B1, P σ1 ρ1 H1 B1 → SR F H1 σ1 ρ1 B1 → (∀ d, xs[i]? = some d → J.go i H1 ∧ ∀ x H2, J.yld i H1 x H2 → Stp F σ1 ρ1 H1 B1 ρ1 H2 B1 ∧ DR F.G H2 B1 d x) ∧ (xs.length ≤ i → J.stop i H1)
abbrev Itx := Rho → Rs (List D × Option Nat)
/-- a slot is lent while it is walked -/
def LendR (l : Option Nat) (ρ ρ' : Rho) : Prop := (l = none ∧ ρ' = ρ) ∨ ∃ j d, l = some j ∧ ρ[j]? = some (.own d) ∧ ρ' = ρ.set j (.lent d)
def AftI (F : Fr0) (W : WX) (σ : L2.St) (ρ : Rho) (H : Hp) (B : Addr → Prop) (R : It → Hp → Prop) : Rs (List D × Option Nat) → Prop
  | .ok (xs, l) ρ' => ∀ J ρm H' B', Stp F σ ρ H B ρm H' B' → LendR l ρm ρ' → WalkR F J xs σ ρ' H' B' → R J H'
  | .er x ρ' => ∀ cls dd H' B', Stp F σ ρ H B ρ' H' B' → F.G.xr H' B' x cls dd → W cls dd σ H'
  | .bad => False
def TIx (F : Fr0) (W : WX) (t : Itx) : TI := fun σ H R => ∃ ρ B, SR F H σ ρ B ∧ AftI F W σ ρ H B R (t ρ)

section
variable {X : Cx} {F : Fr0} {W : WX} {e a b c tg it : Expr} {es : List Expr} {pos : Pos}
theorem pi_imp {t t' : TI} (h : PI X tg it t) (k : ∀ σ H R, t' σ H R → t σ H R) : PI X tg it t' := ⟨fun pins s σ H R I q => h.run pins s σ H R I (k σ H R q)⟩
theorem pi_or {t t' : TI} (h : PI X tg it t) (h' : PI X tg it t') : PI X tg it (fun σ H R => t σ H R ∨ t' σ H R) := ⟨fun pins s σ H R I q => q.elim (h.run pins s σ H R I) (h'.run pins s σ H R I)⟩
theorem aft_it {α β : Type} {rel : Hp → (Addr → Prop) → Rho → α → β → Prop} {σ : L2.St} {ρ : Rho} {H : Hp} {B : Addr → Prop} {m : Rs α} {k : α → Rho → Rs (List D × Option Nat)} {Q : β → Hp → Prop} {R : It → Hp → Prop} (s : SR F H σ ρ B) (h : AftI F W σ ρ H B R (m.bind k))
    (hQ : ∀ a v ρ1 H1 B1, Stp F σ ρ H B ρ1 H1 B1 → rel H1 B1 ρ1 a v → AftI F W σ ρ H B R (k a ρ1) → Q v H1) : AftG F W σ ρ H B rel Q m := by
  cases m with
  | ok a ρ1 => exact fun v H1 B1 st r => hQ a v ρ1 H1 B1 st r h
  | er x ρ1 => exact fun c d H1 B1 st r => h c d H1 B1 st r
  | bad => exact h
/-- a list, a tuple -/
def itSeq (t : Ex) : Itx := fun ρ => (t ρ).bind fun p ρ1 => match p with
  | .d (.lst ds) => .ok (ds, none) ρ1
  | .f (.lst ds) => .ok (ds, none) ρ1
  | .d (.tup ds) => .ok (ds, none) ρ1
  | .o j => (match ρ1[j]? with
    | some (.own (.lst ds)) => .ok (ds, some j) (ρ1.set j (.lent (.lst ds)))
    | some (.lent (.lst ds)) => .ok (ds, none) ρ1
    | _ => .bad)
  | _ => .bad
theorem walk_lst {K : PySem.W.Frag} {σ : L2.St} {ρ : Rho} {H : Hp} {B : Addr → Prop} {ad : Addr} {vs : List V} {ds : List D} (n : ¬ B ad) (hr : Rd H ad (.lst vs)) (hd : DRs F.G H B ds vs) : WalkR F (Itl K ad) ds σ ρ H B := by
  refine ⟨fun _ _ H B => (¬ B ad ∧ Rd H ad (.lst vs)) ∧ DRs F.G H B ds vs, ⟨⟨n, hr⟩, hd⟩, fun _ _ _ _ _ _ _ _ p st => ⟨st.mono.rdl p.1.1 p.1.2, p.2.mono st.mono⟩, fun i σ1 ρ1 H1 B1 p s => ⟨fun d e => ?_, fun hl => ⟨vs, .inl p.1.2, by rw [← p.2.length]; exact hl⟩⟩⟩
  obtain ⟨v, e1, e2⟩ := p.2.get e
  refine ⟨⟨vs, v, .inl p.1.2, e1⟩, fun x H2 y => ?_⟩
  obtain ⟨rfl, y⟩ := y
  have e3 := y vs (.inl p.1.2)
  rw [e1] at e3; cases e3
  exact ⟨.refl s, e2⟩
theorem walk_tup {K : PySem.W.Frag} {σ : L2.St} {ρ : Rho} {H : Hp} {B : Addr → Prop} {ad : Addr} {vs : List V} {ds : List D} (hr : SqT K H ad vs) (hd : DRs F.G H B ds vs) : WalkR F (Itt K ad) ds σ ρ H B := by
  refine ⟨fun _ _ H B => SqT K H ad vs ∧ DRs F.G H B ds vs, ⟨hr, hd⟩, fun _ _ _ _ _ _ _ _ p st => ⟨st.mono.sqt p.1, p.2.mono st.mono⟩, fun i σ1 ρ1 H1 B1 p s => ⟨fun d e => ?_, fun hl => ⟨vs, p.1, by rw [← p.2.length]; exact hl⟩⟩⟩
  obtain ⟨v, e1, e2⟩ := p.2.get e
  refine ⟨⟨vs, v, p.1, e1⟩, fun x H2 y => ?_⟩
  obtain ⟨rfl, y⟩ := y
  have e3 := y vs p.1
  rw [e1] at e3; cases e3
  exact ⟨.refl s, e2⟩
theorem walk_slot {K : PySem.W.Frag} {σ : L2.St} {ρ : Rho} {H : Hp} {B : Addr → Prop} {ad : Addr} {ds : List D} {j : Nat} (h1 : ρ[j]? = some (.lent (.lst ds))) (h2 : σ[j]? = some (some (.ref ad))) : WalkR F (Itl K ad) ds σ ρ H B := by
  refine ⟨fun σ ρ _ _ => ρ[j]? = some (.lent (.lst ds)) ∧ σ[j]? = some (some (.ref ad)), ⟨h1, h2⟩, fun _ _ _ _ _ _ _ _ p st => ⟨(st.lent j _ p.1).1, (st.lent j _ p.1).2.trans p.2⟩, fun i σ1 ρ1 H1 B1 p s => ?_⟩
  obtain ⟨a', e1, e2, e3, _⟩ := s.own j _ _ p.1 rfl
  rw [p.2] at e1; cases e1
  obtain ⟨vs, e4, e5⟩ := own_lst e3
  have hs : SqL K H1 ad vs := .inl (.inl e4)
  refine ⟨fun d e => ?_, fun hl => ⟨vs, hs, by rw [← e5.length]; exact hl⟩⟩
  obtain ⟨v, f1, f2⟩ := e5.get e
  refine ⟨⟨vs, v, hs, f1⟩, fun x H2 y => ?_⟩
  obtain ⟨rfl, y⟩ := y
  have f3 := y vs hs
  rw [f1] at f3; cases f3
  exact ⟨.refl s, f2⟩
/-- an own slot is lent -/
theorem SR.lend {σ : L2.St} {ρ : Rho} {H : Hp} {B : Addr → Prop} {j : Nat} {d : D} (s : SR F H σ ρ B) (hj : ρ[j]? = some (.own d)) : SStp F σ ρ H B σ (ρ.set j (.lent d)) H B := by
  have hl : j < ρ.length := (List.getElem?_eq_some_iff.mp hj).1
  have get : ∀ (k : Nat) (sl : Sl) (y : D), (ρ.set j (.lent d))[k]? = some sl → sl.held = some y → ∃ sl', ρ[k]? = some sl' ∧ sl'.held = some y := fun k sl y e1 e2 => by
    by_cases nk : j = k
    · subst nk; rw [List.getElem?_set_self hl] at e1; cases e1; exact ⟨_, hj, e2⟩
    · rw [List.getElem?_set_ne nk] at e1; exact ⟨sl, e1, e2⟩
  refine ⟨⟨by rw [List.length_set]; exact s.len, fun k y e => ?_, fun k sl y e1 e2 => ?_, fun k l sl tl y z w e1 e2 e3 e4 e5 e6 => ?_, s.keep, s.mu, s.bsub, s.bnew, s.b0, fun k b hk => ?_⟩, .refl s, fun k y e => ?_⟩
  · have nk : j ≠ k := fun z => by subst z; rw [List.getElem?_set_self hl] at e; cases e
    rw [List.getElem?_set_ne nk] at e
    exact s.dat k y e
  · obtain ⟨sl', q1, q2⟩ := get k sl y e1 e2
    exact s.own k sl' y q1 q2
  · obtain ⟨_, q1, q2⟩ := get k sl y e1 e2
    obtain ⟨_, q3, q4⟩ := get l tl z e3 e4
    exact s.dist k l _ _ y z w q1 q2 q3 q4 e5 e6
  · obtain ⟨q1, sl, y, q2, q3, q4⟩ := s.io k b hk
    by_cases nk : j = k
    · subst nk; exact ⟨q1, _, d, List.getElem?_set_self hl, rfl, q4⟩
    · exact ⟨q1, sl, y, by rw [List.getElem?_set_ne nk]; exact q2, q3, q4⟩
  · have nk : j ≠ k := fun z => by subst z; rw [e] at hj; cases hj
    exact ⟨by rw [List.getElem?_set_ne nk]; exact e, rfl⟩
theorem SR.unlend {σ : L2.St} {ρ : Rho} {H : Hp} {B : Addr → Prop} {j : Nat} {d : D} (s : SR F H σ ρ B) (hj : ρ[j]? = some (.lent d)) : SR F H σ (ρ.set j (.own d)) B := by
  have hl : j < ρ.length := (List.getElem?_eq_some_iff.mp hj).1
  have get : ∀ (k : Nat) (sl : Sl) (y : D), (ρ.set j (.own d))[k]? = some sl → sl.held = some y → ∃ sl', ρ[k]? = some sl' ∧ sl'.held = some y := fun k sl y e1 e2 => by
    by_cases nk : j = k
    · subst nk; rw [List.getElem?_set_self hl] at e1; cases e1; exact ⟨_, hj, e2⟩
    · rw [List.getElem?_set_ne nk] at e1; exact ⟨sl, e1, e2⟩
  refine ⟨by rw [List.length_set]; exact s.len, fun k y e => ?_, fun k sl y e1 e2 => ?_, fun k l sl tl y z w e1 e2 e3 e4 e5 e6 => ?_, s.keep, s.mu, s.bsub, s.bnew, s.b0, fun k b hk => ?_⟩
  · have nk : j ≠ k := fun z => by subst z; rw [List.getElem?_set_self hl] at e; cases e
    rw [List.getElem?_set_ne nk] at e
    exact s.dat k y e
  · obtain ⟨sl', q1, q2⟩ := get k sl y e1 e2
    exact s.own k sl' y q1 q2
  · obtain ⟨_, q1, q2⟩ := get k sl y e1 e2
    obtain ⟨_, q3, q4⟩ := get l tl z e3 e4
    exact s.dist k l _ _ y z w q1 q2 q3 q4 e5 e6
  · obtain ⟨q1, sl, y, q2, q3, q4⟩ := s.io k b hk
    by_cases nk : j = k
    · subst nk; exact ⟨q1, _, d, List.getElem?_set_self hl, rfl, q4⟩
    · exact ⟨q1, sl, y, by rw [List.getElem?_set_ne nk]; exact q2, q3, q4⟩
theorem Stp.lent' {σ : L2.St} {ρ ρm ρ1 : Rho} {H H1 : Hp} {B B1 : Addr → Prop} {l : Option Nat} (s : SR F H σ ρ B) (st : Stp F σ ρ H B ρm H1 B1) (hl : LendR l ρm ρ1) : SStp F σ ρ H B σ ρ1 H1 B1 := by
  rcases hl with ⟨_, rfl⟩ | ⟨j, d, _, e, rfl⟩
  · exact st.s s
  · exact (st.s s).trans (st.sr.lend e)
theorem Stp.notLent {σ : L2.St} {ρ ρm ρ1 : Rho} {H H1 : Hp} {B B1 : Addr → Prop} {l : Option Nat} (st : Stp F σ ρ H B ρm H1 B1) (hl : LendR l ρm ρ1) : ∀ j, l = some j → isLent ρ[j]? = false := fun j e => by
  rcases hl with ⟨z, _⟩ | ⟨k, d, z, e1, _⟩
  · rw [z] at e; cases e
  · rw [z] at e; cases e
    rcases st.sl j with ⟨d1, d2, g1, g2⟩ | g2
    · rw [g1]; rfl
    · rw [← g2, e1]; rfl
theorem ri_seq {t : Ex} (hK : F.G.K = X.K) (h : PE X it (TEx F W t)) : PI X tg it (TIx F W (itSeq t)) := by
  refine pi_imp (pi_or (pi_list h) (pi_tup h)) fun σ H R ⟨ρ, B, s, h⟩ => ?_
  unfold itSeq at h
  -- which of the two
  have key : ∀ (Q : V → Hp → Prop), (∀ p v ρ1 H1 B1, Stp F σ ρ H B ρ1 H1 B1 → PdR F H H1 B1 σ ρ1 p v → t ρ = .ok p ρ1 → Q v H1) → (TEx F W t σ H Q) := fun Q hQ => by
    refine ⟨ρ, B, s, ?_⟩
    cases e : t ρ with
    | ok p ρ1 => exact fun v H1 B1 st r => hQ p v ρ1 H1 B1 st r e
    | er x ρ1 => rw [e] at h; exact fun c d H1 B1 st r => h c d H1 B1 st r
    | bad => rw [e] at h; exact h.elim
  cases e : t ρ with
  | er x ρ1 => exact .inl (key _ fun p v ρ1' H1 B1 st r e' => by rw [e] at e'; cases e')
  | bad => rw [e] at h; exact h.elim
  | ok p ρ1 =>
    rw [e] at h
    have lists : ∀ ds, (p = .d (.lst ds) ∨ p = .f (.lst ds)) → AftI F W σ ρ H B R (.ok (ds, none) ρ1) → iList X.K (TEx F W t) σ H R := fun ds hp h => key _ fun p' v ρ1' H1 B1 st r e' => by
      rw [e] at e'; cases e'
      have hpd : p.dat = some (.lst ds) := by rcases hp with z | z <;> subst z <;> rfl
      obtain ⟨B2, st2, hd⟩ := PdR.toDat s st r hpd
      cases hd with
      | lst n rd hs =>
        refine ⟨_, rfl, ⟨_, .inl (.inl rd)⟩, h _ ρ1 H1 B2 st2 (.inl ⟨rfl, rfl⟩) (walk_lst n (.inl rd) hs)⟩
    cases p with
    | d x =>
      cases x with
      | lst ds => exact .inl (lists ds (.inl rfl) h)
      | tup ds =>
        refine .inr (key _ fun p' v ρ1' H1 B1 st r e' => ?_)
        rw [e] at e'; cases e'
        cases r with
        | tup rd0 hs =>
          have rd : SqT X.K H1 _ _ := .inl (.inl rd0)
          exact ⟨_, rfl, ⟨_, rd⟩, h _ ρ1 H1 B1 st (.inl ⟨rfl, rfl⟩) (walk_tup rd hs)⟩
      | _ => exact h.elim
    | f x =>
      cases x with
      | lst ds => exact .inl (lists ds (.inr rfl) h)
      | _ => exact h.elim
    | o j =>
      refine .inl (key _ fun p' v ρ1' H1 B1 st r e' => ?_)
      rw [e] at e'; cases e'
      change AftI F W σ ρ H B R (match ρ1[j]? with
        | some (.own (.lst ds)) => .ok (ds, some j) (ρ1.set j (.lent (.lst ds)))
        | some (.lent (.lst ds)) => .ok (ds, none) ρ1
        | _ => .bad) at h
      obtain ⟨sl, d, h1, h2, h3⟩ := r
      cases sl with
      | own d' =>
        cases h2
        cases d with
        | lst ds =>
          rw [h1] at h
          obtain ⟨ad, f1, f2, f3, _⟩ := st.sr.own j _ _ h1 rfl
          rw [h3] at f1; cases f1
          obtain ⟨vs, f4, f5⟩ := own_lst f3
          have hl : j < ρ1.length := (List.getElem?_eq_some_iff.mp h1).1
          exact ⟨ad, rfl, ⟨vs, .inl (.inl f4)⟩, h _ ρ1 H1 B1 st (.inr ⟨j, _, rfl, h1, rfl⟩) (walk_slot (List.getElem?_set_self hl) h3)⟩
        | _ => rw [h1] at h; exact h.elim
      | lent d' =>
        cases h2
        cases d with
        | lst ds =>
          rw [h1] at h
          obtain ⟨ad, f1, f2, f3, _⟩ := st.sr.own j _ _ h1 rfl
          rw [h3] at f1; cases f1
          obtain ⟨vs, f4, f5⟩ := own_lst f3
          exact ⟨ad, rfl, ⟨vs, .inl (.inl f4)⟩, h _ ρ1 H1 B1 st (.inl ⟨rfl, rfl⟩) (walk_slot h1 h3)⟩
        | _ => rw [h1] at h; exact h.elim
      | _ => cases h2
/-! ranges -/
def rngD (lo : Int) (n : Nat) : List D := (List.range n).map fun (k : Nat) => D.int (lo + (k : Int))
theorem walk_rng {σ : L2.St} {ρ : Rho} {H : Hp} {B : Addr → Prop} {lo : Int} {n : Nat} : WalkR F (Itr lo n) (rngD lo n) σ ρ H B := by
  refine ⟨fun _ _ _ _ => True, trivial, fun _ _ _ _ _ _ _ _ _ _ => trivial, fun i σ1 ρ1 H1 B1 _ s => ⟨fun d e => ?_, fun hl => ?_⟩⟩
  · unfold rngD at e
    rw [List.getElem?_map] at e
    by_cases hi : i < n
    · rw [List.getElem?_range hi] at e
      cases e
      refine ⟨hi, fun x H2 y => ?_⟩
      obtain ⟨rfl, rfl⟩ := y
      exact ⟨.refl s, .int _⟩
    · rw [List.getElem?_eq_none (by rw [List.length_range]; omega)] at e; cases e
  · unfold rngD at hl
    rw [List.length_map, List.length_range] at hl
    exact hl
def inLine (j : Int) : Bool := decide (-(2 ^ 62) ≤ j ∧ j < 2 ^ 62)
def itRng1 (r : Rho → Rs (List Ag)) : Itx := fun ρ => (r ρ).bind fun as ρ1 => match as with
  | [.d (.int j)] => if inLine j then .ok (rngD 0 j.toNat, none) ρ1 else .bad
  | _ => .bad
def itRng2 (r : Rho → Rs (List Ag)) : Itx := fun ρ => (r ρ).bind fun as ρ1 => match as with
  | [.d (.int i), .d (.int j)] => if inLine i && inLine j then .ok (rngD i (j - i).toNat, none) ρ1 else .bad
  | _ => .bad
theorem ri_rng1 {r : Rho → Rs (List Ag)} {p : Pos} (ha : PA X [a] (TAx F W r)) (hg : Gl X "range" := by rfl) (hm : X.mg "range" = none) (hs : starEach [a] X.env = [(false, eval a X.env)] := by rfl) : PI X tg (.Call (.Name "range" p) [a] [] pos) (TIx F W (itRng1 r)) := by
  refine pi_imp (pi_range1 hg hm ha hs) fun σ H R ⟨ρ, B, s, h⟩ => ⟨ρ, B, s, aft_it s h fun as vs ρ1 H1 B1 st ra q => ?_⟩
  split at q
  · rename_i j
    cases e : inLine j with
    | false => rw [e] at q; exact q.elim
    | true =>
      rw [e, if_pos rfl] at q
      have hj : -(2 ^ 62) ≤ j ∧ j < 2 ^ 62 := of_decide_eq_true e
      cases ra with
      | cons r1 r2 =>
        cases r2
        cases r1
        exact ⟨j, rfl, hj.1, hj.2, q _ ρ1 H1 B1 st (.inl ⟨rfl, rfl⟩) walk_rng⟩
  · exact q.elim
theorem ri_rng2 {r : Rho → Rs (List Ag)} {p : Pos} (ha : PA X [a, b] (TAx F W r)) (hg : Gl X "range" := by rfl) (hm : X.mg "range" = none) (hs : starEach [a, b] X.env = [(false, eval a X.env), (false, eval b X.env)] := by rfl) (hs2 : starEach [b] X.env = [(false, eval b X.env)] := by rfl) : PI X tg (.Call (.Name "range" p) [a, b] [] pos) (TIx F W (itRng2 r)) := by
  refine pi_imp (pi_range2 hg hm ha hs hs2) fun σ H R ⟨ρ, B, s, h⟩ => ⟨ρ, B, s, aft_it s h fun as vs ρ1 H1 B1 st ra q => ?_⟩
  split at q
  · rename_i i j
    cases e : (inLine i && inLine j) with
    | false => rw [e] at q; exact q.elim
    | true =>
      rw [e, if_pos rfl] at q
      rw [Bool.and_eq_true] at e
      have hi : -(2 ^ 62) ≤ i ∧ i < 2 ^ 62 := of_decide_eq_true e.1
      have hj : -(2 ^ 62) ≤ j ∧ j < 2 ^ 62 := of_decide_eq_true e.2
      cases ra with
      | cons r1 r2 =>
        cases r2 with
        | cons r2 r3 =>
          cases r3
          cases r1
          cases r2
          exact ⟨i, j, rfl, ⟨hi.1, hi.2, hj.1, hj.2⟩, q _ ρ1 H1 B1 st (.inl ⟨rfl, rfl⟩) walk_rng⟩
  · exact q.elim
/-! zip -/
def zipD : List D → List D → List D
  | x :: xs, y :: ys => .tup [x, y] :: zipD xs ys
  | _, _ => []
theorem zipD_get : ∀ {xs ys : List D} {i : Nat} {d : D}, (zipD xs ys)[i]? = some d → ∃ x y, xs[i]? = some x ∧ ys[i]? = some y ∧ d = .tup [x, y]
  | [], _, _, _, e => by simp [zipD] at e
  | _ :: _, [], _, _, e => by simp [zipD] at e
  | x :: xs, y :: ys, 0, _, e => by
    simp [zipD] at e; subst e; exact ⟨x, y, rfl, rfl, rfl⟩
  | x :: xs, y :: ys, i + 1, _, e => by
    obtain ⟨a, b, h1, h2, h3⟩ := zipD_get (xs := xs) (ys := ys) (i := i) (by simpa [zipD] using e)
    exact ⟨a, b, by simpa using h1, by simpa using h2, h3⟩
theorem zipD_len : ∀ {xs ys : List D} {i : Nat}, (zipD xs ys).length ≤ i → xs.length ≤ i ∨ ys.length ≤ i
  | [], _, _, _ => .inl (Nat.zero_le _)
  | _ :: _, [], _, _ => .inr (Nat.zero_le _)
  | x :: xs, y :: ys, 0, h => by simp [zipD] at h
  | x :: xs, y :: ys, i + 1, h => by
    have h' : (zipD xs ys).length ≤ i := by simpa [zipD] using h
    rcases zipD_len h' with z | z
    · exact .inl (by simpa using z)
    · exact .inr (by simpa using z)
def itZip (r : Rho → Rs (List Ag)) : Itx := fun ρ => (r ρ).bind fun as ρ1 => match as with
  | [.d (.lst xs), .d (.lst ys)] => .ok (zipD xs ys, none) ρ1
  | [.d (.tup xs), .d (.tup ys)] => .ok (zipD xs ys, none) ρ1
  | _ => .bad
theorem ri_zip {r : Rho → Rs (List Ag)} {p tpos : Pos} {elts : List Expr} {kk : Nat} (hK : F.G.K = X.K) (ha : PA X [a, b] (TAx F W r)) (hg : Gl X "zip" := by rfl) (hm : X.mg "zip" = none) (hs : starEach [a, b] X.env = (false, eval a X.env) :: starEach [b] X.env := by rfl) (hpl : (backTo pos (starEach [b] X.env)).any (·.1) = false := by rfl) :
    PI X (.Tuple elts kk tpos) (.Call (.Name "zip" p) [a, b] [] pos) (TIx F W (itZip r)) := by
  refine pi_imp (RZ.pi_zipA hg hm ha hs hpl) fun σ H R ⟨ρ, B, s, h⟩ => ⟨ρ, B, s, aft_it s h fun as vs ρ1 H1 B1 st ra q => ?_⟩
  split at q
  · rename_i xs ys
    cases ra with
    | cons r1 r2 =>
      cases r2 with
      | cons r2 r3 =>
        cases r3
        cases r1 with
        | lst n1 rd1 hs1 =>
          cases r2 with
          | lst n2 rd2 hs2 =>
            rename_i a1 vs1 a2 vs2
            refine ⟨a1, a2, vs1, vs2, rfl, .inl ⟨.inl (.inl rd1), .inl (.inl rd2), q _ ρ1 H1 B1 st (.inl ⟨rfl, rfl⟩) ?_⟩⟩
            refine ⟨fun _ _ H B => ((¬ B a1 ∧ Rd H a1 (.lst vs1)) ∧ DRs F.G H B xs vs1) ∧ ((¬ B a2 ∧ Rd H a2 (.lst vs2)) ∧ DRs F.G H B ys vs2), ⟨⟨⟨n1, .inl rd1⟩, hs1⟩, ⟨n2, .inl rd2⟩, hs2⟩, fun _ _ _ _ _ _ _ _ p st => ⟨⟨st.mono.rdl p.1.1.1 p.1.1.2, p.1.2.mono st.mono⟩, st.mono.rdl p.2.1.1 p.2.1.2, p.2.2.mono st.mono⟩, fun i σ2 ρ2 H2 B2 p s2 => ⟨fun d e => ?_, fun hl => ⟨vs1, vs2, .inl p.1.1.2, .inl p.2.1.2, ?_⟩⟩⟩
            · obtain ⟨x, y, f1, f2, rfl⟩ := zipD_get e
              obtain ⟨v1, g1, g2⟩ := p.1.2.get f1
              obtain ⟨v2, g3, g4⟩ := p.2.2.get f2
              refine ⟨⟨vs1, vs2, v1, v2, .inl p.1.1.2, .inl p.2.1.2, g1, g3⟩, fun z H3 yy => ?_⟩
              obtain ⟨T, w1, w2, rfl, hT, rfl, k1, k2⟩ := yy
              have k3 := k1 vs1 (.inl p.1.1.2)
              have k4 := k2 vs2 (.inl p.2.1.2)
              rw [g1] at k3; cases k3
              rw [g3] at k4; cases k4
              exact new_tup s2 hT (.cons g2 (.cons g4 .nil))
            · rw [← p.1.2.length, ← p.2.2.length]; exact zipD_len hl
  · rename_i xs ys
    cases ra with
    | cons r1 r2 =>
      cases r2 with
      | cons r2 r3 =>
        cases r3
        cases r1 with
        | tup rd1 hs1 =>
          cases r2 with
          | tup rd2 hs2 =>
            rename_i a1 vs1 a2 vs2
            have rd1 : SqT X.K H1 a1 vs1 := .inl (.inl rd1)
            have rd2 : SqT X.K H1 a2 vs2 := .inl (.inl rd2)
            refine ⟨a1, a2, vs1, vs2, rfl, .inr ⟨rd1, rd2, q _ ρ1 H1 B1 st (.inl ⟨rfl, rfl⟩) ?_⟩⟩
            refine ⟨fun _ _ H B => (SqT X.K H a1 vs1 ∧ DRs F.G H B xs vs1) ∧ (SqT X.K H a2 vs2 ∧ DRs F.G H B ys vs2), ⟨⟨rd1, hs1⟩, rd2, hs2⟩, fun _ _ _ _ _ _ _ _ p st => ⟨⟨st.mono.sqt p.1.1, p.1.2.mono st.mono⟩, st.mono.sqt p.2.1, p.2.2.mono st.mono⟩, fun i σ2 ρ2 H2 B2 p s2 => ⟨fun d e => ?_, fun hl => ⟨vs1, vs2, p.1.1, p.2.1, ?_⟩⟩⟩
            · obtain ⟨x, y, f1, f2, rfl⟩ := zipD_get e
              obtain ⟨v1, g1, g2⟩ := p.1.2.get f1
              obtain ⟨v2, g3, g4⟩ := p.2.2.get f2
              refine ⟨⟨vs1, vs2, v1, v2, p.1.1, p.2.1, g1, g3⟩, fun z H3 yy => ?_⟩
              obtain ⟨T, w1, w2, rfl, hT, rfl, k1, k2⟩ := yy
              have k3 := k1 vs1 p.1.1
              have k4 := k2 vs2 p.2.1
              rw [g1] at k3; cases k3
              rw [g3] at k4; cases k4
              exact new_tup s2 hT (.cons g2 (.cons g4 .nil))
            · rw [← p.1.2.length, ← p.2.2.length]; exact zipD_len hl
  · exact q.elim

/-! ### for -/
def unlend : Option Nat → Rho → Rho
  | none, ρ => ρ
  | some j, ρ => match ρ[j]? with
    | some (.lent d) => ρ.set j (.own d)
    | _ => ρ
def loopG (tg : Pd → Rho → Rs Unit) (body : Sx) : List D → Rho → Rs Fl
  | [], ρ => .ok .nx ρ
  | d :: ds, ρ => match tg (.d d) ρ with
    | .ok _ ρ1 => (match body ρ1 with
      | .ok .nx ρ2 => loopG tg body ds ρ2
      | .ok .ct ρ2 => loopG tg body ds ρ2
      | r => r)
    | _ => .bad
/-- behind a loop: break ends it -/
def endL (l : Option Nat) : Rs Fl → Rs Fl
  | .ok .bk ρ => .ok .nx (unlend l ρ)
  | .ok .ct ρ => .bad
  | .ok .nx ρ => .ok .nx (unlend l ρ)
  | .ok (.rt p) ρ => .ok (.rt p) (unlend l ρ)
  | .er x ρ => .er x (unlend l ρ)
  | .bad => .bad
def sFor (it : Itx) (tg : Pd → Rho → Rs Unit) (body : Sx) : Sx := fun ρ => (it ρ).bind fun z ρ1 => endL z.2 (loopG tg body z.1 ρ1)
theorem SStp.unl {σ σ' : L2.St} {ρ ρ' : Rho} {H H' : Hp} {B B' : Addr → Prop} {l : Option Nat} (st : SStp F σ ρ H B σ' ρ' H' B') (hl : ∀ j, l = some j → isLent ρ[j]? = false) : SStp F σ ρ H B σ' (unlend l ρ') H' B' := by
  cases l with
  | none => exact st
  | some j =>
    unfold unlend
    have nl := hl j rfl
    cases e : ρ'[j]? with
    | none => simp only [e]; exact st
    | some sl =>
      cases sl with
      | lent d =>
        simp only [e]
        refine ⟨st.sr.unlend e, st.mono, fun k y hk => ?_⟩
        have nk : j ≠ k := fun z => by subst z; rw [hk] at nl; cases nl
        obtain ⟨h1, h2⟩ := st.lent k y hk
        exact ⟨by rw [List.getElem?_set_ne nk]; exact h1, h2⟩
      | _ => simp only [e]; exact st
theorem pdr_unl {σ : L2.St} {ρ : Rho} {Hs H : Hp} {B : Addr → Prop} {p : Pd} {v : V} {l : Option Nat} (r : PdR F Hs H B σ ρ p v) : PdR F Hs H B σ (unlend l ρ) p v := by
  cases l with
  | none => exact r
  | some j =>
    unfold unlend
    cases e : ρ[j]? with
    | none => simp only [e]; exact r
    | some sl =>
      cases sl with
      | lent d =>
        simp only [e]
        have hl : j < ρ.length := (List.getElem?_eq_some_iff.mp e).1
        cases p with
        | d x => exact r
        | f x =>
          obtain ⟨a, h1, h2, h3, h4, h5⟩ := r
          refine ⟨a, h1, h2, h3, h4, fun i s y k1 k2 => ?_⟩
          by_cases nk : j = i
          · subst nk
            exact h5 j _ d e rfl
          · rw [List.getElem?_set_ne nk] at k1; exact h5 i s y k1 k2
        | o i =>
          obtain ⟨s, y, k1, k2, k3⟩ := r
          by_cases nk : j = i
          · subst nk
            exact ⟨_, d, List.getElem?_set_self hl, rfl, k3⟩
          · exact ⟨s, y, by rw [List.getElem?_set_ne nk]; exact k1, k2, k3⟩
      | _ => simp only [e]; exact r
theorem rs_for {t : Itx} {g : Pd → Rho → Rs Unit} {body : Sx} {sb : List Stmt} (hp : PassesOwn (model X.prog X.w) X.A X.env X.xe) (hc : X.calm = true) (hi : PI X tg it (TIx F W t)) (hg : PG X tg (TGx F g)) (hb : PSs X sb (TSx F W body))
    (hs : ∀ x, foldedSetIterable it X.env x = pure x := by intro _; rfl) : PS X (.For tg it sb [] pos) (TSx F W (sFor t g body)) := by
  refine ps_imp (ps_for hp hc hi hg hb hs) fun D σ H ⟨ρ, B, s, h⟩ => ⟨ρ, B, s, ?_⟩
  unfold sFor at h
  cases e : t ρ with
  | er x ρ1 => rw [e] at h; exact fun c d H' B' st r => h c d σ H' B' (st.s s) r
  | bad => rw [e] at h; exact h.elim
  | ok z ρ1 =>
    rw [e] at h
    obtain ⟨xs, l⟩ := z
    change AftS F W D σ ρ H B (endL l (loopG g body xs ρ1)) at h
    intro J ρm H1 B1 stm hlr wk
    obtain ⟨P, p0, pst, pgo⟩ := wk
    have st := stm.lent' s hlr
    have hl' := stm.notLent hlr
    refine ⟨fun i m σ2 H2 => m = xs.length - i ∧ i ≤ xs.length ∧ ∃ ρ2 B2, SStp F σ ρ H B σ2 ρ2 H2 B2 ∧ P σ2 ρ2 H2 B2 ∧ AftS F W D σ ρ H B (endL l (loopG g body (xs.drop i) ρ2)),
      ⟨xs.length, by simp, Nat.zero_le _, ρ1, B1, st, p0, by simpa using h⟩, ?_⟩
    rintro i m σ2 H2 ⟨rfl, hi, ρ2, B2, st2, p2, h2⟩
    obtain ⟨g1, g2⟩ := pgo i σ2 ρ2 H2 B2 p2 st2.sr
    by_cases hlt : i < xs.length
    · have hx : xs[i]? = some xs[i] := by simp [hlt]
      obtain ⟨go, yl⟩ := g1 _ hx
      refine .inr ⟨go, fun σ3 H3 => ∃ ρ3 B3, SStp F σ ρ H B σ3 ρ3 H3 B3 ∧ P σ3 ρ3 H3 B3 ∧ AftS F W D σ ρ H B (endL l (loopG g body (xs.drop (i + 1)) ρ3)), fun σ' H' ⟨ρ3, B3, q⟩ => ⟨xs.length - (i + 1), by omega, rfl, hlt, ρ3, B3, q⟩, fun x H3 y => ?_⟩
      obtain ⟨y1, y2⟩ := yl x H3 y
      have hdrop : xs.drop i = xs[i] :: xs.drop (i + 1) := List.drop_eq_getElem_cons hlt
      rw [hdrop] at h2
      refine ⟨ρ2, B2, .d xs[i], y1.sr, y2, ?_⟩
      cases e2 : g (.d xs[i]) ρ2 with
      | er z ρ3 => simp only [loopG, e2] at h2; exact h2.elim
      | bad => simp only [loopG, e2] at h2; exact h2.elim
      | ok z ρ3 =>
        simp only [loopG, e2] at h2
        intro σ4 H4 B4 st4
        have st04 := (st2.trans (y1.s st2.sr)).trans st4
        have p4 := pst _ _ _ _ _ _ _ _ (pst _ _ _ _ _ _ _ _ p2 (y1.s st2.sr)) st4
        refine ⟨ρ3, B4, st4.sr, ?_⟩
        cases e3 : body ρ3 with
        | bad => simp only [e3] at h2; exact h2.elim
        | er x' ρ4 =>
          simp only [e3] at h2
          intro c d σ5 H5 B5 st5 r5
          exact h2 c d σ5 H5 B5 ((st04.trans st5).unl hl') r5
        | ok f ρ4 =>
          simp only [e3] at h2
          cases f with
          | nx => exact fun σ5 H5 B5 st5 => ⟨ρ4, B5, st04.trans st5, pst _ _ _ _ _ _ _ _ p4 st5, h2⟩
          | ct => exact fun σ5 H5 B5 st5 => ⟨ρ4, B5, st04.trans st5, pst _ _ _ _ _ _ _ _ p4 st5, h2⟩
          | bk => exact fun σ5 H5 B5 st5 => h2 σ5 H5 B5 ((st04.trans st5).unl hl')
          | rt p => exact fun v σ5 H5 B5 st5 r5 => h2 v σ5 H5 B5 ((st04.trans st5).unl hl') (pdr_unl r5)
    · have ei : i = xs.length := by omega
      subst ei
      refine .inl ⟨g2 (Nat.le_refl _), ?_⟩
      rw [List.drop_length] at h2
      exact h2 σ2 H2 B2 (st2.unl hl')

/-! ### while -/
def whileG (c : Rho → Rs Bool) (body : Sx) : Nat → Rho → Rs Fl
  | 0, _ => .bad
  | n + 1, ρ => (c ρ).bind fun b ρ1 => if b = true then (match body ρ1 with
      | .ok .nx ρ2 => whileG c body n ρ2
      | .ok .ct ρ2 => whileG c body n ρ2
      | .ok .bk ρ2 => .ok .nx ρ2
      | r => r) else .ok .nx ρ1
def sWhile (n : Nat) (c : Rho → Rs Bool) (body : Sx) : Sx := fun ρ => whileG c body n ρ
theorem rs_while {tc : Rho → Rs Bool} {body : Sx} {sb : List Stmt} (n : Nat) (hp : PassesOwn (model X.prog X.w) X.A X.env X.xe) (hc : PT X c (TTx F W tc)) (hb : PSs X sb (TSx F W body)) : PS X (.While c sb [] pos) (TSx F W (sWhile n tc body)) := by
  refine ps_imp (ps_while hp hc hb) fun D σ H ⟨ρ, B, s, h⟩ => ?_
  refine ⟨fun m σ2 H2 => ∃ ρ2 B2, SR F H2 σ2 ρ2 B2 ∧ AftS F W D σ2 ρ2 H2 B2 (whileG tc body m ρ2), ⟨n, ρ, B, s, h⟩, ?_⟩
  rintro m σ2 H2 ⟨ρ2, B2, s2, h2⟩
  cases m with
  | zero => exact h2.elim
  | succ m =>
    refine ⟨ρ2, B2, s2, aft_ex s2 h2 fun b v ρ3 H3 B3 st3 r q => ?_⟩
    subst r
    have st := st3.s s2
    cases b with
    | false => exact q σ2 H3 B3 st
    | true =>
      rw [if_pos rfl] at q ⊢
      refine ⟨fun σ' H' => ∃ ρ' B', SR F H' σ' ρ' B' ∧ AftS F W D σ' ρ' H' B' (whileG tc body m ρ'), fun σ' H' q => ⟨m, Nat.lt_succ_self _, q⟩, ρ3, B3, st3.sr, ?_⟩
      cases e3 : body ρ3 with
      | bad => simp only [e3] at q; exact q.elim
      | er x' ρ4 => simp only [e3] at q; exact AftS.from_ st q
      | ok f ρ4 =>
        simp only [e3] at q
        cases f with
        | nx => exact fun σ5 H5 B5 st5 => ⟨ρ4, B5, st5.sr, AftS.from_ (st.trans st5) q⟩
        | ct => exact fun σ5 H5 B5 st5 => ⟨ρ4, B5, st5.sr, AftS.from_ (st.trans st5) q⟩
        | bk => exact fun σ5 H5 B5 st5 => q σ5 H5 B5 (st.trans st5)
        | rt p => exact fun v σ5 H5 B5 st5 r5 => q v σ5 H5 B5 (st.trans st5) r5
end
end PL
set_option maxHeartbeats 4000000
/-! ### list comprehensions -/
namespace PL
open PySem L2
inductive CT where | one (i : Nat) | many (is : List Nat)
def CT.slots : CT → List Nat
  | .one i => [i]
  | .many is => is
def setMany : List Nat → List D → Rho → Option Rho
  | [], [], ρ => some ρ
  | i :: is, d :: ds, ρ => setMany is ds (ρ.set i (.dat d))
  | _, _, _ => none
def cStore : CT → D → Rho → Option Rho
  | .one i, d, ρ => some (ρ.set i (.dat d))
  | .many is, .tup ds, ρ => setMany is ds ρ
  | .many _, _, _ => none
def wipeR (ρ : Rho) : List Nat → Rho
  | [] => ρ
  | v :: vs => (wipeR ρ vs).set v .un
def restR (ρ0 : Rho) : List Nat → Rho → Rho
  | [], ρ => ρ
  | v :: vs, ρ => (restR ρ0 vs ρ).set v (ρ0.getD v .un)
def freeR (ρ : Rho) (vs : List Nat) : Bool := vs.all fun i => match ρ[i]? with
  | some s => s.held.isNone
  | none => true
def compG (ct : CT) (cond : Rho → Rs Bool) (elt : Ex) : List D → Rho → List D → Rs (List D)
  | [], ρ, acc => .ok acc ρ
  | d :: ds, ρ, acc => match cStore ct d ρ with
    | none => .bad
    | some ρ1 => (match cond ρ1 with
      | .ok true ρ2 => (match elt ρ2 with
        | .ok p ρ3 => (match p.dat with
          | some y => compG ct cond elt ds (wipeR ρ3 ct.slots) (acc ++ [y])
          | none => .bad)
        | _ => .bad)
      | .ok false ρ2 => compG ct cond elt ds (wipeR ρ2 ct.slots) acc
      | _ => .bad)
def eComp (it : Itx) (ct : CT) (cond : Rho → Rs Bool) (elt : Ex) : Ex := fun ρ => (it ρ).bind fun z ρ1 => if freeR ρ1 ct.slots then (match compG ct cond elt z.1 (wipeR ρ1 ct.slots) [] with
    | .ok ds ρ2 => if small ds.length then .ok (.f (.lst ds)) (unlend z.2 (restR ρ1 ct.slots ρ2)) else .bad
    | _ => .bad) else .bad

section
variable {F : Fr0} {σ σ2 : L2.St} {ρ ρ1 ρ2 ρ3 : Rho} {H H1 H2 : Hp} {B B1 B2 : Addr → Prop} {vs : List Nat}
theorem wipeR_length (ρ : Rho) : ∀ vs : List Nat, (wipeR ρ vs).length = ρ.length
  | [] => rfl
  | v :: vs => by unfold wipeR; rw [List.length_set, wipeR_length ρ vs]
theorem wipeR_out {i : Nat} : ∀ {vs : List Nat}, i ∉ vs → (wipeR ρ vs)[i]? = ρ[i]?
  | [], _ => rfl
  | v :: vs, h => by
    unfold wipeR
    rw [List.getElem?_set_ne (fun z => h (by rw [z]; exact List.mem_cons_self)), wipeR_out (fun z => h (List.mem_cons_of_mem _ z))]
theorem wipeR_in {i : Nat} {s : Sl} : ∀ {vs : List Nat}, i ∈ vs → (wipeR ρ vs)[i]? = some s → s = .un
  | v :: vs, h, e => by
    unfold wipeR at e
    by_cases hv : v = i
    · subst hv
      by_cases hl : v < (wipeR ρ vs).length
      · rw [List.getElem?_set_self hl] at e; cases e; rfl
      · rw [List.getElem?_eq_none (by rw [List.length_set]; omega)] at e; cases e
    · rw [List.getElem?_set_ne hv] at e
      rcases List.mem_cons.mp h with z | z
      · exact absurd z.symm hv
      · exact wipeR_in z e
theorem wipeR_get {i : Nat} {s : Sl} (e : (wipeR ρ vs)[i]? = some s) : s = .un ∨ (i ∉ vs ∧ ρ[i]? = some s) := by
  by_cases h : i ∈ vs
  · exact .inl (wipeR_in h e)
  · exact .inr ⟨h, by rw [← wipeR_out h]; exact e⟩
theorem wipe_out' {i : Nat} : ∀ {vs : List Nat}, i ∉ vs → (wipe σ vs)[i]? = σ[i]?
  | [], _ => rfl
  | v :: vs, h => by
    unfold wipe
    rw [List.getElem?_set_ne (fun z => h (by rw [z]; exact List.mem_cons_self)), wipe_out' (fun z => h (List.mem_cons_of_mem _ z))]
theorem free_out (hf : freeR ρ vs = true) {i : Nat} {s : Sl} {d : D} (e : ρ[i]? = some s) (h : s.held = some d) : i ∉ vs := fun hm => by
  have q := List.all_eq_true.mp hf i hm
  simp only [e] at q
  rw [h] at q; cases q
theorem SR.wiped (s : SR F H σ ρ B) (hf : freeR ρ vs = true) : SR F H (wipe σ vs) (wipeR ρ vs) B := by
  have hd : ∀ (k : Nat) (sl : Sl) (y : D), (wipeR ρ vs)[k]? = some sl → sl.held = some y → k ∉ vs ∧ ρ[k]? = some sl := fun k sl y e1 e2 => by
    rcases wipeR_get e1 with z | z
    · subst z; cases e2
    · exact z
  refine ⟨by rw [wipe_length, wipeR_length]; exact s.len, fun k y e => ?_, fun k sl y e1 e2 => ?_, fun k l sl tl y z w e1 e2 e3 e4 e5 e6 => ?_, s.keep, s.mu, s.bsub, s.bnew, s.b0, fun k b hk => ?_⟩
  · rcases wipeR_get e with z | ⟨z1, z2⟩
    · cases z
    · rw [wipe_out' z1]; exact s.dat k y z2
  · obtain ⟨z1, z2⟩ := hd k sl y e1 e2
    rw [wipe_out' z1]; exact s.own k sl y z2 e2
  · obtain ⟨z1, z2⟩ := hd k sl y e1 e2
    obtain ⟨z3, z4⟩ := hd l tl z e3 e4
    rw [wipe_out' z1] at e5
    rw [wipe_out' z3] at e6
    exact s.dist k l sl tl y z w z2 e2 z4 e4 e5 e6
  · obtain ⟨h1, sl, y, h2, h3, h4⟩ := s.io k b hk
    have n := free_out hf h2 h3
    exact ⟨h1, sl, y, by rw [wipeR_out n]; exact h2, h3, by rw [wipe_out' n]; exact h4⟩
theorem SStp.wiped (s : SR F H σ ρ B) (hf : freeR ρ vs = true) : SStp F σ ρ H B (wipe σ vs) (wipeR ρ vs) H B :=
  ⟨s.wiped hf, .refl s, fun k y e => by
    have n := free_out hf e rfl
    exact ⟨by rw [wipeR_out n]; exact e, wipe_out' n⟩⟩
theorem restR_length (ρ0 : Rho) : ∀ (vs : List Nat) (ρ : Rho), (restR ρ0 vs ρ).length = ρ.length
  | [], _ => rfl
  | v :: vs, ρ => by unfold restR; rw [List.length_set, restR_length ρ0 vs ρ]
theorem restR_out {ρ0 : Rho} {i : Nat} : ∀ {vs : List Nat}, i ∉ vs → (restR ρ0 vs ρ)[i]? = ρ[i]?
  | [], _ => rfl
  | v :: vs, h => by
    unfold restR
    rw [List.getElem?_set_ne (fun z => h (by rw [z]; exact List.mem_cons_self)), restR_out (fun z => h (List.mem_cons_of_mem _ z))]
theorem restR_in {ρ0 : Rho} {i : Nat} (hl : i < ρ.length) : ∀ {vs : List Nat}, i ∈ vs → (restR ρ0 vs ρ)[i]? = some (ρ0.getD i .un)
  | v :: vs, h => by
    unfold restR
    by_cases hv : v = i
    · subst hv
      exact List.getElem?_set_self (by rw [restR_length]; exact hl)
    · rw [List.getElem?_set_ne hv]
      rcases List.mem_cons.mp h with z | z
      · exact absurd z.symm hv
      · exact restR_in hl z
theorem wipe_same {σ : L2.St} {i : Nat} {w : Option V} : ∀ {vs : List Nat}, i ∈ vs → wipe (σ.set i w) vs = wipe σ vs := fun {vs} h => by
  induction vs with
  | nil => cases h
  | cons v vs ih =>
    show (wipe (σ.set i w) vs).set v none = (wipe σ vs).set v none
    by_cases hm : i ∈ vs
    · rw [ih hm]
    · have e : i = v := (List.mem_cons.mp h).resolve_right hm
      subst e
      have : ∀ (us : List Nat), i ∉ us → wipe (σ.set i w) us = (wipe σ us).set i w := fun us => by
        induction us with
        | nil => intro _; rfl
        | cons u us ih2 =>
          intro hn
          show (wipe (σ.set i w) us).set u none = ((wipe σ us).set u none).set i w
          rw [ih2 (fun z => hn (List.mem_cons_of_mem _ z)), List.set_comm _ _ (fun z => hn (by rw [z]; exact List.mem_cons_self))]
      rw [this vs hm, List.set_set]
theorem wipe_idem (σ : L2.St) (vs : List Nat) : wipe (wipe σ vs) vs = wipe σ vs := by
  have key : ∀ us ws : List Nat, (∀ u ∈ us, u ∈ ws) → wipe (wipe σ us) ws = wipe σ ws := fun us => by
    induction us with
    | nil => intro ws _; rfl
    | cons u us ih =>
      intro ws h
      show wipe ((wipe σ us).set u none) ws = _
      rw [wipe_same (h u List.mem_cons_self), ih ws fun z hz => h z (List.mem_cons_of_mem _ hz)]
  exact key vs vs fun _ h => h
end

/-- the store of a comprehension's target -/
def gNames : List Nat → TGs
  | [] => gNil
  | i :: is => gCons (gName i) (gNames is)
def gCT (K : PySem.W.Frag) : CT → TG
  | .one i => gName i
  | .many is => gTup K is.length (gNames is)
section
variable {F : Fr0} {vs : List Nat}
theorem names_out : ∀ {is : List Nat} {σ : L2.St} {ρ ρ' : Rho} {H : Hp} {B : Addr → Prop} {ds : List D} {us : List V} {Q : L2.St → Hp → Prop}, SR F H σ ρ B → (∀ i ∈ is, i ∈ vs) → (∀ i ∈ is, F.iom[i]? ≠ some true) → (freeR ρ vs = true) → DRs F.G H B ds us → setMany is ds ρ = some ρ' →
    (∀ σ2, SR F H σ2 ρ' B → wipe σ2 vs = wipe σ vs → (∀ k, k ∉ vs → σ2[k]? = σ[k]? ∧ ρ'[k]? = ρ[k]?) → freeR ρ' vs = true → Q σ2 H) → gNames is us σ H Q
  | [], σ, ρ, ρ', H, B, ds, us, Q, s, _, _, hf, r, e, k => by
    cases ds with
    | nil =>
      cases r; cases e
      exact ⟨rfl, k σ s rfl (fun _ _ => ⟨rfl, rfl⟩) hf⟩
    | cons d ds => cases e
  | i :: is, σ, ρ, ρ', H, B, ds, us, Q, s, hv, hio, hf, r, e, k => by
    cases ds with
    | nil => cases e
    | cons d ds =>
      cases r with
      | cons r1 r2 =>
        refine ⟨_, _, rfl, ?_⟩
        have hi := hv i List.mem_cons_self
        have s2 := s.setDat (hio i List.mem_cons_self) r1
        have hf2 : freeR (ρ.set i (.dat d)) vs = true := by
          refine List.all_eq_true.mpr fun j hj => ?_
          have q := List.all_eq_true.mp hf j hj
          by_cases hij : i = j
          · subst hij
            by_cases hl : i < ρ.length
            · rw [List.getElem?_set_self hl]; rfl
            · rw [List.getElem?_eq_none (by rw [List.length_set]; omega)]
          · rw [List.getElem?_set_ne hij]; exact q
        refine names_out s2 (fun j hj => hv j (List.mem_cons_of_mem _ hj)) (fun j hj => hio j (List.mem_cons_of_mem _ hj)) hf2 r2 e fun σ2 q1 q2 q3 q4 => k σ2 q1 (q2.trans (wipe_same hi)) (fun j hj => ?_) q4
        have nj : i ≠ j := fun z => hj (by rw [← z]; exact hi)
        obtain ⟨w1, w2⟩ := q3 j hj
        exact ⟨by rw [w1, List.getElem?_set_ne nj], by rw [w2, List.getElem?_set_ne nj]⟩
theorem ct_out {ct : CT} {σ : L2.St} {ρ ρ' : Rho} {H : Hp} {B : Addr → Prop} {d : D} {v : V} {Q : L2.St → Hp → Prop} {K : PySem.W.Frag} (hK : F.G.K = K) (s : SR F H σ ρ B) (hio : ∀ i ∈ ct.slots, F.iom[i]? ≠ some true) (hf : freeR ρ ct.slots = true) (r : DR F.G H B d v) (e : cStore ct d ρ = some ρ')
    (k : ∀ σ2, SR F H σ2 ρ' B → wipe σ2 ct.slots = wipe σ ct.slots → (∀ k, k ∉ ct.slots → σ2[k]? = σ[k]? ∧ ρ'[k]? = ρ[k]?) → freeR ρ' ct.slots = true → Q σ2 H) : gCT K ct v σ H Q := by
  cases ct with
  | one i =>
    have hi : i ∈ (CT.one i).slots := List.mem_cons_self
    have e2 : ρ.set i (.dat d) = ρ' := Option.some.inj e
    subst e2
    refine k _ (s.setDat (hio i hi) r) (wipe_same hi) (fun j hj => ?_) ?_
    · have nj : i ≠ j := fun z => hj (by rw [← z]; exact hi)
      exact ⟨List.getElem?_set_ne nj, List.getElem?_set_ne nj⟩
    · refine List.all_eq_true.mpr fun j hj => ?_
      have hj' : j = i := List.mem_singleton.mp hj
      subst hj'
      by_cases hl : j < ρ.length
      · rw [List.getElem?_set_self hl]; rfl
      · rw [List.getElem?_eq_none (by rw [List.length_set]; omega)]
  | many is =>
    cases d with
    | tup ds =>
      cases r with
      | tup rd hs =>
        have hlen : ∀ (is : List Nat) (ds : List D) (ρ ρ' : Rho), setMany is ds ρ = some ρ' → ds.length = is.length := fun is => by
          induction is with
          | nil => intro ds ρ ρ' e; cases ds with
            | nil => rfl
            | cons _ _ => cases e
          | cons i is ih => intro ds ρ ρ' e; cases ds with
            | nil => cases e
            | cons _ ds => simp [ih ds _ _ e]
        refine ⟨_, _, rfl, .inl (.inl rd), by rw [← hs.length]; exact hlen is ds ρ ρ' e, ?_⟩
        exact names_out s (fun i h => h) hio hf hs e k
    | _ => cases e
end
section
variable {X : Cx} {F : Fr0} {W : WX} {elt tg it : Expr} {ifs : List Expr} {scope : Scope} {own : List (Str × Nat)} {pos : Pos} {t : Itx} {ct : CT} {cond : Rho → Rs Bool} {te : Ex}
/-- inside a comprehension nothing is let out -/
abbrev WF : WX := fun _ _ _ _ => False
/-- a turn of the block -/
structure Turned (F : Fr0) (σ σ2 : L2.St) (ρ ρ2 : Rho) (vs : List Nat) : Prop where
  wi : wipe σ2 vs = wipe σ vs
  out : ∀ k, k ∉ vs → σ2[k]? = σ[k]? ∧ ρ2[k]? = ρ[k]?
  fr : freeR ρ2 vs = true
theorem free_stp {σ : L2.St} {ρ ρ' : Rho} {H H' : Hp} {B B' : Addr → Prop} {vs : List Nat} (hf : freeR ρ vs = true) (st : Stp F σ ρ H B ρ' H' B') : freeR ρ' vs = true := by
  refine List.all_eq_true.mpr fun j hj => ?_
  have q := List.all_eq_true.mp hf j hj
  rcases st.sl j with ⟨d1, d2, e1, e2⟩ | e2
  · rw [e1] at q; cases q
  · rw [e2]; exact q
/-- from a turn's step to the block's -/
theorem Turned.back {σ σ2 : L2.St} {ρ ρ2 ρ3 : Rho} {H H' : Hp} {B B' : Addr → Prop} {vs : List Nat} (hw : wipe σ vs = σ) (hfr : freeR ρ vs = true) (hun : ∀ (k : Nat) s, k ∈ vs → ρ[k]? = some s → s = .un) (hlen : ρ2.length = ρ.length) (t : Turned F σ σ2 ρ ρ2 vs) (st : Stp F σ2 ρ2 H B ρ3 H' B') : Stp F σ ρ H B (wipeR ρ3 vs) H' B' := by
  have hf3 := free_stp t.fr st
  have hs : SR F H' σ (wipeR ρ3 vs) B' := by
    have q := st.sr.wiped hf3
    rw [t.wi, hw] at q; exact q
  refine ⟨hs, fun a o e n => st.keep a o e fun i d hi q => ?_, st.bsub, st.bnew, fun i => ?_⟩
  · have ni := free_out t.fr hi rfl
    obtain ⟨w1, w2⟩ := t.out i ni
    exact n i d (by rw [← w2]; exact hi) (by rw [← w1]; exact q)
  · by_cases hi : i ∈ vs
    · refine .inr ?_
      have l3 : ρ3.length = ρ2.length := by
        rw [← st.sr.len]
        have h1 : SR F H' σ2 ρ3 B' := st.sr
        -- both are σ2's
        exact (by
          have := st.sl
          refine Classical.byContradiction fun hne => ?_
          have hlt : σ2.length ≠ ρ2.length := fun z => hne z
          rcases Nat.lt_or_ge ρ2.length ρ3.length with hl | hl
          · rcases st.sl ρ2.length with ⟨d1, d2, e1, e2⟩ | e2
            · rw [List.getElem?_eq_none (Nat.le_refl _)] at e1; cases e1
            · rw [List.getElem?_eq_none (Nat.le_refl _)] at e2
              rw [List.getElem?_eq_none_iff] at e2; omega
          · rcases Nat.lt_or_ge ρ3.length ρ2.length with hl2 | hl2
            · rcases st.sl ρ3.length with ⟨d1, d2, e1, e2⟩ | e2
              · rw [List.getElem?_eq_none (Nat.le_refl _)] at e2; cases e2
              · rw [List.getElem?_eq_none (Nat.le_refl _)] at e2
                have e3 := List.getElem?_eq_none_iff.mp e2.symm; omega
            · have := h1.len; omega)
      by_cases hl : i < ρ.length
      · have e1 : ∃ s, ρ[i]? = some s := ⟨ρ[i], by simp [hl]⟩
        obtain ⟨s, e1⟩ := e1
        have hs1 := hun i s hi e1
        subst hs1
        have hl3 : i < (wipeR ρ3 vs).length := by rw [wipeR_length]; omega
        have e2 : (wipeR ρ3 vs)[i]? = some (wipeR ρ3 vs)[i] := by simp [hl3]
        rw [e1, e2, wipeR_in hi e2]
      · rw [List.getElem?_eq_none (by rw [wipeR_length]; omega), List.getElem?_eq_none (by omega)]
    · obtain ⟨w1, w2⟩ := t.out i hi
      rw [wipeR_out hi, ← w2]
      exact st.sl i
end
end PL
set_option maxHeartbeats 4000000
namespace PL
open PySem L2
section
variable {X : Cx} {F : Fr0} {W : WX} {elt tg it : Expr} {ifs : List Expr} {scope : Scope} {own : List (Str × Nat)} {pos : Pos} {t : Itx} {ct : CT} {cond : Rho → Rs Bool} {te : Ex}
theorem setMany_len : ∀ {is : List Nat} {ds : List D} {ρ ρ' : Rho}, setMany is ds ρ = some ρ' → ρ'.length = ρ.length
  | [], [], ρ, _, e => by cases e; rfl
  | [], _ :: _, _, _, e => by cases e
  | _ :: _, [], _, _, e => by cases e
  | i :: is, d :: ds, ρ, ρ', e => by
    have q := setMany_len (is := is) (ds := ds) e
    rw [q, List.length_set]
theorem cStore_len {ct : CT} {d : D} {ρ ρ' : Rho} (e : cStore ct d ρ = some ρ') : ρ'.length = ρ.length := by
  cases ct with
  | one i => cases e; exact List.length_set
  | many is => cases d with
    | tup ds => exact setMany_len e
    | _ => cases e
/-- a floating object is written -/
theorem Stp.floatSet {σ : L2.St} {ρ1 ρ' : Rho} {H1 H' : Hp} {B1 B' : Addr → Prop} {Df : Addr} {o : HO} (s : SR F H1 σ ρ1 B1) (st : Stp F σ ρ1 H1 B1 ρ' H' B') (hD : H1 Df = none) (hB : B' Df) (hn : ∀ (k : Nat) (sl : Sl) (d : D), ρ'[k]? = some sl → sl.held = some d → σ[k]? ≠ some (some (.ref Df))) (hm : Mut (some o)) :
    Stp F σ ρ1 H1 B1 ρ' (upd H' Df o) B' ∧ Mono H' B' (upd H' Df o) B' := by
  have m : Mono H' B' (upd H' Df o) B' := ⟨fun b u e n => by rw [upd_ne (fun z => n (by rw [z]; exact hB))]; exact e, st.sr.mu, fun _ b => .inl b⟩
  refine ⟨⟨?_, fun a u e n => by rw [upd_ne (ne_free e hD)]; exact st.keep a u e n, st.bsub, st.bnew, st.sl⟩, m⟩
  refine st.sr.mono m (fun a u e n => ?_) (fun i sl d a e1 e2 e3 => ?_) (fun a b => ?_) st.sr.bsub st.sr.bnew
  · rw [upd_ne (ne_free e (s.dom0 hD))]; exact st.sr.keep a u e n
  · refine ⟨upd_ne fun z => hn i sl d e1 e2 (by rw [e3, z]), ?_⟩
    obtain ⟨b, h1, h2, _⟩ := st.sr.own i sl d e1 e2
    rw [e3] at h1; cases h1; exact h2
  · by_cases z : a = Df
    · subst z; rw [upd_same]; exact hm
    · rw [upd_ne z]; exact st.sr.mu a b
/-- back from the block -/
theorem comp_back {σ : L2.St} {ρm ρ1 ρi : Rho} {H1 Hi : Hp} {B1 Bi : Addr → Prop} {l : Option Nat} {vs : List Nat} (s1 : SR F H1 σ ρ1 B1) (sm : SR F H1 σ ρm B1) (hl : LendR l ρm ρ1) (hf : freeR ρ1 vs = true) (st : Stp F (wipe σ vs) (wipeR ρ1 vs) H1 B1 ρi Hi Bi) :
    Stp F σ ρm H1 B1 (unlend l (restR ρ1 vs ρi)) Hi Bi := by
  have sw := s1.wiped hf
  have li : ρi.length = ρ1.length := by
    have h1 := st.sr.len
    rw [wipe_length, s1.len] at h1
    exact h1.symm
  have m : Mono H1 B1 Hi Bi := st.mono sw
  -- the restored slots
  have hr : SR F Hi σ (restR ρ1 vs ρi) Bi := by
    have get : ∀ (k : Nat) sl, (restR ρ1 vs ρi)[k]? = some sl → (k ∈ vs ∧ ρ1[k]? = some sl) ∨ (k ∉ vs ∧ ρi[k]? = some sl) := fun k sl e => by
      by_cases hk : k ∈ vs
      · have hlt : k < ρi.length := by
          have q := (List.getElem?_eq_some_iff.mp e).1
          rw [restR_length] at q; exact q
        rw [restR_in hlt hk] at e
        refine .inl ⟨hk, ?_⟩
        have hlt1 : k < ρ1.length := by omega
        rw [List.getD_eq_getElem?_getD] at e
        rw [List.getElem?_eq_getElem hlt1] at e ⊢
        simpa using e
      · rw [restR_out hk] at e
        exact .inr ⟨hk, e⟩
    have hd : ∀ (k : Nat) (sl : Sl) (y : D), (restR ρ1 vs ρi)[k]? = some sl → sl.held = some y → k ∉ vs ∧ ρi[k]? = some sl := fun k sl y e1 e2 => by
      rcases get k sl e1 with ⟨z1, z2⟩ | z
      · exact absurd z1 (free_out hf z2 e2)
      · exact z
    refine ⟨by rw [restR_length, li]; exact s1.len, fun k y e => ?_, fun k sl y e1 e2 => ?_, fun k l sl tl y z w e1 e2 e3 e4 e5 e6 => ?_, st.sr.keep, st.sr.mu, st.sr.bsub, st.sr.bnew, s1.b0, fun k b hk => ?_⟩
    · rcases get k _ e with ⟨z1, z2⟩ | ⟨z1, z2⟩
      · obtain ⟨v, h1, h2⟩ := s1.dat k y z2
        exact ⟨v, h1, h2.mono m⟩
      · obtain ⟨v, h1, h2⟩ := st.sr.dat k y z2
        rw [wipe_out' z1] at h1
        exact ⟨v, h1, h2⟩
    · obtain ⟨z1, z2⟩ := hd k sl y e1 e2
      obtain ⟨a, h1, h2⟩ := st.sr.own k sl y z2 e2
      rw [wipe_out' z1] at h1
      exact ⟨a, h1, h2⟩
    · obtain ⟨z1, z2⟩ := hd k sl y e1 e2
      obtain ⟨z3, z4⟩ := hd l tl z e3 e4
      exact st.sr.dist k l sl tl y z w z2 e2 z4 e4 (by rw [wipe_out' z1]; exact e5) (by rw [wipe_out' z3]; exact e6)
    · obtain ⟨h1, sl, y, h2, h3, h4⟩ := s1.io k b hk
      have n := free_out hf h2 h3
      obtain ⟨g1, sl', y', g2, g3, g4⟩ := st.sr.io k b hk
      exact ⟨h1, sl', y', by rw [restR_out n]; exact g2, g3, h4⟩
  -- lent back
  have held_m : ∀ (k : Nat) d, ρm[k]? = some (.own d) → k ∉ vs := fun k d e => by
    rcases hl with ⟨_, rfl⟩ | ⟨j, d', _, e1, rfl⟩
    · exact free_out hf e rfl
    · by_cases z : j = k
      · subst z
        exact free_out hf (List.getElem?_set_self (List.getElem?_eq_some_iff.mp e1).1) rfl
      · exact free_out hf (by rw [List.getElem?_set_ne z]; exact e) rfl
  have keep : ∀ a o, H1 a = some o → (∀ (i : Nat) d, ρm[i]? = some (.own d) → σ[i]? ≠ some (some (.ref a))) → Hi a = some o := fun a o e n => st.keep a o e fun i d hi q => by
    rcases wipeR_get hi with z | ⟨z1, z2⟩
    · cases z
    · rw [wipe_out' z1] at q
      rcases hl with ⟨_, rfl⟩ | ⟨j, d', _, e1, rfl⟩
      · exact n i d z2 q
      · by_cases z : j = i
        · subst z
          rw [List.getElem?_set_self (List.getElem?_eq_some_iff.mp e1).1] at z2; cases z2
        · rw [List.getElem?_set_ne z] at z2; exact n i d z2 q
  have slr : ∀ k : Nat, (∃ d d', ρ1[k]? = some (.own d) ∧ (restR ρ1 vs ρi)[k]? = some (.own d')) ∨ (restR ρ1 vs ρi)[k]? = ρ1[k]? := fun k => by
    by_cases hk : k ∈ vs
    · refine .inr ?_
      by_cases hlt : k < ρi.length
      · rw [restR_in hlt hk, List.getD_eq_getElem?_getD]
        have hlt1 : k < ρ1.length := by omega
        rw [List.getElem?_eq_getElem hlt1]; rfl
      · rw [List.getElem?_eq_none (by rw [restR_length]; omega), List.getElem?_eq_none (by omega)]
    · rw [restR_out hk]
      have q := st.sl k
      rw [wipeR_out hk] at q
      exact q
  rcases hl with ⟨rfl, rfl⟩ | ⟨j, d', rfl, e1, rfl⟩
  · exact ⟨hr, keep, st.bsub, st.bnew, slr⟩
  · have hjl : j < ρm.length := (List.getElem?_eq_some_iff.mp e1).1
    have e2 : (ρm.set j (.lent d'))[j]? = some (.lent d') := List.getElem?_set_self hjl
    have e3 : (restR (ρm.set j (.lent d')) vs ρi)[j]? = some (.lent d') := by
      rcases slr j with ⟨d1, d2, g1, g2⟩ | g2
      · rw [e2] at g1; cases g1
      · rw [g2, e2]
    have eu : unlend (some j) (restR (ρm.set j (.lent d')) vs ρi) = (restR (ρm.set j (.lent d')) vs ρi).set j (.own d') := by
      show (match (restR (ρm.set j (.lent d')) vs ρi)[j]? with | some (.lent d) => _ | _ => _) = _
      rw [e3]
    rw [eu]
    refine ⟨hr.unlend e3, keep, st.bsub, st.bnew, fun k => ?_⟩
    by_cases z : j = k
    · subst z
      exact .inl ⟨d', d', e1, List.getElem?_set_self (List.getElem?_eq_some_iff.mp e3).1⟩
    · rw [List.getElem?_set_ne z]
      have q := slr k
      rw [List.getElem?_set_ne z] at q
      exact q
theorem tex_comp {vs : List Nat} {K : PySem.W.Frag} (hK : F.G.K = K) (hvs : vs = ct.slots) (hio : ∀ i ∈ ct.slots, F.iom[i]? ≠ some true) {σ : L2.St} {H : Hp} {Q : VK} (hq : TEx F W (eComp t ct cond te) σ H Q) : tLc (TIx F W t) (gCT K ct) (TTx F WF cond) (TEx F WF te) vs σ H Q := by
  obtain ⟨ρ, B, s, h⟩ := hq
  rw [hvs]
  refine ⟨ρ, B, s, ?_⟩
  unfold eComp at h
  cases e : t ρ with
  | er x ρ1 => rw [e] at h; exact fun c d H' B' st r => h c d H' B' st r
  | bad => rw [e] at h; exact h.elim
  | ok z ρ1 =>
    rw [e] at h
    obtain ⟨xs, l⟩ := z
    change AftG F W σ ρ H B _ Q (if freeR ρ1 ct.slots then _ else _) at h
    intro J ρm H1 B1 stm hlr wk
    cases hf : freeR ρ1 ct.slots with
    | false => rw [hf] at h; exact h.elim
    | true =>
      rw [hf, if_pos rfl] at h
      obtain ⟨P, p0, pst, pgo⟩ := wk
      have st1 := stm.lent' s hlr
      have sw := st1.sr.wiped (vs := ct.slots) hf
      have hww : wipe (wipe σ ct.slots) ct.slots = wipe σ ct.slots := wipe_idem σ ct.slots
      intro Df hD
      have pw : P (wipe σ ct.slots) (wipeR ρ1 ct.slots) H1 B1 := pst _ _ _ _ _ _ _ _ p0 (SStp.wiped st1.sr hf)
      have fin : ∀ r, AftG F W σ ρ H B (fun H' B' ρ' => PdR F H H' B' σ ρ') Q (match r with
          | .ok ds ρ2 => if small ds.length = true then .ok (.f (.lst ds)) (unlend l (restR ρ1 ct.slots ρ2)) else .bad
          | _ => .bad) → ∀ acc ρ2, r = Rs.ok acc ρ2 → small acc.length = true ∧ ∀ v H' B', Stp F σ ρ H B (unlend l (restR ρ1 ct.slots ρ2)) H' B' → PdR F H H' B' σ (unlend l (restR ρ1 ct.slots ρ2)) (.f (.lst acc)) v → Q v H' := fun r hr acc ρ2 er => by
        subst er
        cases e2 : small acc.length with
        | false => simp only [e2] at hr; exact hr.elim
        | true => simp only [e2] at hr; exact ⟨rfl, hr⟩
      have fin0 := fin (compG ct cond te xs (wipeR ρ1 ct.slots) []) h
      -- the new list
      have s0 := Stp.allocB (o := .lst []) sw hD trivial
      refine ⟨fun i m Hi => m = xs.length - i ∧ i ≤ xs.length ∧ ∃ ρi Bi acc vacc, Stp F (wipe σ ct.slots) (wipeR ρ1 ct.slots) H1 B1 ρi Hi Bi ∧ freeR ρi ct.slots = true ∧ (∀ (k : Nat) sl, k ∈ ct.slots → ρi[k]? = some sl → sl = .un) ∧ P (wipe σ ct.slots) ρi Hi Bi ∧ Bi Df ∧ Hi Df = some (.lst vacc) ∧
          DRs F.G Hi Bi acc vacc ∧ compG ct cond te (xs.drop i) ρi acc = compG ct cond te xs (wipeR ρ1 ct.slots) [],
        ⟨xs.length, by simp, Nat.zero_le _, wipeR ρ1 ct.slots, fun b => B1 b ∨ b = Df, [], [], s0, ?_, fun k sl hk e => wipeR_in hk e, pst _ _ _ _ _ _ _ _ pw (s0.s sw), .inr rfl, upd_same, .nil, by rw [List.drop_zero]⟩, ?_⟩
      · refine List.all_eq_true.mpr fun j hj => ?_
        cases ej : (wipeR ρ1 ct.slots)[j]? with
        | none => rfl
        | some sl => rw [wipeR_in hj ej]; rfl
      rintro i m Hi ⟨rfl, hile, ρi, Bi, acc, vacc, sti, fri, uni, pi, bD, hDi, dacc, ceq⟩
      have cne : compG ct cond te xs (wipeR ρ1 ct.slots) [] ≠ .bad := fun z => by rw [z] at h; exact h.elim
      obtain ⟨g1, g2⟩ := pgo i _ ρi Hi Bi pi sti.sr
      have lni : ρi.length = (wipeR ρ1 ct.slots).length := by rw [← sti.sr.len, ← sw.len]
      -- D is no slot's
      have nD : ∀ {ρk : Rho} {Hk : Hp} {Bk : Addr → Prop}, Stp F (wipe σ ct.slots) (wipeR ρ1 ct.slots) H1 B1 ρk Hk Bk → ∀ (k : Nat) (sl : Sl) (d : D), ρk[k]? = some sl → sl.held = some d → (wipe σ ct.slots)[k]? ≠ some (some (.ref Df)) := fun {ρk Hk Bk} stk k sl d e1 e2 e3 => by
        obtain ⟨sl', d', q1, q2⟩ := stk.held' e1 e2
        obtain ⟨b, w1, w2, _⟩ := sw.own k sl' d' q1 q2
        rw [e3] at w1; cases w1
        obtain ⟨u, hu⟩ := sw.bdom w2
        rw [hD] at hu; cases hu
      by_cases hlt : i < xs.length
      · have hx : xs[i]? = some xs[i] := by simp [hlt]
        have hdrop : xs.drop i = xs[i] :: xs.drop (i + 1) := List.drop_eq_getElem_cons hlt
        obtain ⟨go, yl⟩ := g1 _ hx
        rw [hdrop] at ceq
        let NX : Hp → Prop := fun H' => ∃ ρk Bk acc' vacc', Stp F (wipe σ ct.slots) (wipeR ρ1 ct.slots) H1 B1 ρk H' Bk ∧ freeR ρk ct.slots = true ∧ (∀ (k : Nat) sl, k ∈ ct.slots → ρk[k]? = some sl → sl = .un) ∧ P (wipe σ ct.slots) ρk H' Bk ∧ Bk Df ∧ H' Df = some (.lst vacc') ∧
            DRs F.G H' Bk acc' vacc' ∧ compG ct cond te (xs.drop (i + 1)) ρk acc' = compG ct cond te xs (wipeR ρ1 ct.slots) []
        refine .inr ⟨go, NX, fun H' ⟨ρk, Bk, acc', vacc', q⟩ => ⟨xs.length - (i + 1), by omega, rfl, hlt, ρk, Bk, acc', vacc', q⟩, fun x H2 y => ?_⟩
        obtain ⟨y1, y2⟩ := yl x H2 y
        have st2 := sti.trans sw y1
        have hD2 : H2 Df = some (.lst vacc) := y1.keep Df _ hDi fun k d e1 e2 => nD sti k _ d e1 rfl e2
        have dacc2 := dacc.mono (y1.mono sti.sr)
        have bD2 := y1.bsub Df bD
        cases ec : cStore ct xs[i] ρi with
        | none => simp only [compG, ec] at ceq; exact absurd ceq.symm cne
        | some ρ2 =>
          simp only [compG, ec] at ceq
          refine ct_out hK y1.sr hio fri y2 ec fun σ2 s3 w1 w2 f3 => ⟨by rw [w1, hww], ?_⟩
          have tn : Turned F (wipe σ ct.slots) σ2 ρi ρ2 ct.slots := ⟨w1, w2, f3⟩
          have ln2 : ρ2.length = ρi.length := cStore_len ec
          -- the end of a turn
          have back : ∀ {ρ4 : Rho} {H4 : Hp} {B4 : Addr → Prop}, Stp F σ2 ρ2 H2 Bi ρ4 H4 B4 → Stp F (wipe σ ct.slots) ρi H2 Bi (wipeR ρ4 ct.slots) H4 B4 := fun {ρ4 H4 B4} st4 => Turned.back hww fri uni ln2 tn st4
          have frW : ∀ ρ4 : Rho, freeR (wipeR ρ4 ct.slots) ct.slots = true := fun ρ4 => List.all_eq_true.mpr fun j hj => by
            cases ej : (wipeR ρ4 ct.slots)[j]? with
            | none => rfl
            | some sl => rw [wipeR_in hj ej]; rfl
          refine ⟨ρ2, Bi, s3, ?_⟩
          cases econd : cond ρ2 with
          | bad => simp only [econd] at ceq; exact absurd ceq.symm cne
          | er x' ρ4 => simp only [econd] at ceq; exact absurd ceq.symm cne
          | ok b ρ4 =>
            simp only [econd] at ceq
            intro b' H4 B4 st4 eb
            subst eb
            have bk4 := back st4
            have stc := st2.trans sw bk4
            have hD4 : H4 Df = some (.lst vacc) := bk4.keep Df _ hD2 fun k d e1 e2 => nD sti k _ d e1 rfl e2
            cases b with
            | false =>
              rw [if_neg Bool.false_ne_true]
              exact ⟨wipeR ρ4 ct.slots, B4, acc, vacc, stc, frW ρ4, fun k sl hk e => wipeR_in hk e, pst _ _ _ _ _ _ _ _ (pst _ _ _ _ _ _ _ _ pi (y1.s sti.sr)) (bk4.s y1.sr), bk4.bsub Df bD2, hD4, dacc2.mono (bk4.mono y1.sr), ceq⟩
            | true =>
              rw [if_pos rfl]
              refine ⟨ρ4, B4, st4.sr, ?_⟩
              cases ee : te ρ4 with
              | bad => simp only [ee] at ceq; exact absurd ceq.symm cne
              | er x' ρ5 => simp only [ee] at ceq; exact absurd ceq.symm cne
              | ok p ρ5 =>
                simp only [ee] at ceq
                intro yv H5 B5 st5 rp
                cases ep : p.dat with
                | none => simp only [ep] at ceq; exact absurd ceq.symm cne
                | some yd =>
                  simp only [ep] at ceq
                  obtain ⟨B6, st6, hd6⟩ := PdR.toDat st4.sr st5 rp ep
                  have bk6 := back (st4.trans s3 st6)
                  have stf := st2.trans sw bk6
                  have hD6 : H5 Df = some (.lst vacc) := bk6.keep Df _ hD2 fun k d e1 e2 => nD sti k _ d e1 rfl e2
                  have bD6 := bk6.bsub Df bD2
                  have dacc6 := dacc2.mono (bk6.mono y1.sr)
                  obtain ⟨f1, f2⟩ := Stp.floatSet (o := .lst (vacc ++ [yv])) sw stf hD bD6 (nD stf) trivial
                  refine ⟨vacc, hD6, ?_, wipeR ρ5 ct.slots, B6, acc ++ [yd], vacc ++ [yv], f1, frW ρ5, fun k sl hk e => wipeR_in hk e, ?_, bD6, upd_same, (dacc6.app (.one hd6)).mono f2, ceq⟩
                  · -- the list stays within the line
                    have lens : ∀ (zs : List D) (ρz : Rho) (az : List D) (out : List D) (ρo : Rho), compG ct cond te zs ρz az = .ok out ρo → az.length ≤ out.length := fun zs => by
                      induction zs with
                      | nil => intro ρz az out ρo q; cases q; exact Nat.le_refl _
                      | cons z zs ih =>
                        intro ρz az out ρo q
                        unfold compG at q
                        split at q
                        · cases q
                        · split at q
                          · split at q
                            · split at q
                              · have := ih _ _ _ _ q
                                rw [List.length_append] at this
                                omega
                              · cases q
                            · cases q
                          · exact ih _ _ _ _ q
                          · cases q
                    cases eout : compG ct cond te xs (wipeR ρ1 ct.slots) [] with
                    | bad => exact absurd eout cne
                    | er _ _ => rw [eout] at h; exact h.elim
                    | ok out ρo =>
                      rw [eout] at ceq
                      have l1 := lens _ _ _ _ _ ceq
                      obtain ⟨sm, _⟩ := fin0 out ρo eout
                      have l2 := small_ok sm
                      rw [List.length_append] at l1
                      have l3 := dacc.length
                      have l4 : [yd].length = 1 := rfl
                      omega
                  · exact pst _ _ _ _ _ _ _ _ (pst _ _ _ _ _ _ _ _ (pst _ _ _ _ _ _ _ _ pi (y1.s sti.sr)) (bk6.s y1.sr)) ⟨f1.sr, f2, fun k d e => ⟨e, rfl⟩⟩
      · have ei : i = xs.length := by omega
        subst ei
        refine .inl ⟨g2 (Nat.le_refl _), ?_⟩
        rw [List.drop_length] at ceq
        obtain ⟨sm, kq⟩ := fin0 acc ρi ceq.symm
        have cb := comp_back st1.sr stm.sr hlr hf sti
        refine kq _ Hi Bi (stm.trans s cb) ⟨Df, rfl, bD, .inl ⟨acc, vacc, rfl, hDi, dacc⟩, stm.dom s hD, fun k sl d e1 e2 e3 => ?_⟩
        obtain ⟨sl', d', q1, q2⟩ := cb.held' e1 e2
        obtain ⟨b, w1, w2, _⟩ := stm.sr.own k sl' d' q1 q2
        rw [e3] at w1; cases w1
        obtain ⟨u, hu⟩ := stm.sr.bdom w2
        rw [hD] at hu; cases hu
theorem re_comp (hK : F.G.K = X.K) (hc : X.calm = true) (hN : X.N.Nodup) (hi : PI X tg it (TIx F W t)) (ok : BlkOk X.N X.env.scope scope own) (hvs : own.map (·.2) = ct.slots) (hio : ∀ i ∈ ct.slots, F.iom[i]? ≠ some true)
    (hg : ∀ (s : Shared) (H : Hp) (C : Addr) (cl : List (Str × Addr)) (fp : List Addr), PG (X.blk s H scope (compEnvC scope cl C X.env) fp) tg (gCT X.K ct))
    (ht : ∀ (s : Shared) (H : Hp) (C : Addr) (cl : List (Str × Addr)) (fp : List Addr), PTs (X.blk s H scope (compEnvC scope cl C X.env) fp) ifs (TTx F WF cond))
    (he : ∀ (s : Shared) (H : Hp) (C : Addr) (cl : List (Str × Addr)) (fp : List Addr), PE (X.blk s H scope (compEnvC scope cl C X.env) fp) elt (TEx F WF te)) (hs : ∀ x, foldedSetIterable it X.env x = pure x := by intro _; rfl) :
    PE X (.ListComp elt [⟨tg, it, ifs, 0⟩] scope pos) (TEx F W (eComp t ct cond te)) := by
  refine pe_imp (pe_lc hc hN hi ok hg ht he hs) fun _ _ _ h => tex_comp hK hvs hio h

end
end PL
set_option maxHeartbeats 4000000
/-! ### defs and calls -/
namespace PL
open PySem L2 PySem.Spec PyProof.Rows

inductive FR where | ok (d : D) (fresh : Bool) (out : D) | er (x : D) (out : D) | bad
abbrev FT := List D → FR
structure CExt (G : Gx) (H : Hp) (B : Addr → Prop) (H' : Hp) (B' : Addr → Prop) (io : Option Nat) (vs : List V) (out : D) : Prop where
  keep : ∀ a o, H a = some o → (∀ i : Nat, io = some i → vs[i]? ≠ some (.ref a)) → H' a = some o
  bsub : ∀ a, B a → B' a
  bnew : ∀ a, B' a → B a ∨ H a = none
  mu : ∀ a, B' a → Mut (H' a)
  out : ∀ (i : Nat) a, io = some i → vs[i]? = some (.ref a) → OwR G H' B' out a
def ResR (G : Gx) (H H' : Hp) (B' : Addr → Prop) (fresh : Bool) (d : D) (v : V) : Prop := match fresh with
  | true => ∃ b, v = .ref b ∧ B' b ∧ H b = none ∧ OwR G H' B' d b
  | false => DR G H' B' d v
def PostF (G : Gx) (io : Option Nat) (H : Hp) (B : Addr → Prop) (vs : List V) (Q : VK) (E : XK) : FR → Prop
  | .ok d fr out => ∀ v H' B', CExt G H B H' B' io vs out → ResR G H H' B' fr d v → Q v H'
  | .er x out => ∀ cls dd H' B', CExt G H B H' B' io vs out → G.xr H' B' x cls dd → E cls dd H'
  | .bad => False
structure PreF (G : Gx) (n : Nat) (io : Option Nat) (ds : List D) (vs : List V) (H : Hp) (B : Addr → Prop) : Prop where
  len : vs.length = n
  len' : ds.length = n
  dat : ∀ (i : Nat) d, ds[i]? = some d → io ≠ some i → ∃ v, vs[i]? = some v ∧ DR G H B d v
  own : ∀ (i : Nat) d, ds[i]? = some d → io = some i → ∃ a, vs[i]? = some (.ref a) ∧ B a ∧ OwR G H B d a
  mu : ∀ a, B a → Mut (H a)
def spOf (G : Gx) (n : Nat) (io : Option Nat) (f : FT) : Sp := fun vs H Q E => ∃ ds B, PreF G n io ds vs H B ∧ PostF G io H B vs Q E (f ds)

/-! the entry -/
def sl0 (io : Option Nat) (i : Nat) (d : D) : Sl := if io = some i then .own d else .dat d
def rho0 (io : Option Nat) (N : Nat) (ds : List D) : Rho := ds.mapIdx (sl0 io) ++ List.replicate (N - ds.length) .un
def outOf (io : Option Nat) (ρ : Rho) : D := match io with
  | none => .non
  | some i => match ρ[i]? with
    | some s => (match s.held with | some d => d | none => .non)
    | none => .non
def runF (N : Nat) (io : Option Nat) (body : Sx) : FT := fun ds => match body (rho0 io N ds) with
  | .ok .nx ρ => .ok .non false (outOf io ρ)
  | .ok (.rt (.d x)) ρ => .ok x false (outOf io ρ)
  | .ok (.rt (.f x)) ρ => .ok x true (outOf io ρ)
  | .ok (.rt (.o i)) ρ => if io = some i then .bad else (match ρ[i]? with
    | some s => (match s.held with | some d => .ok d true (outOf io ρ) | none => .bad)
    | none => .bad)
  | .er x ρ => .er x (outOf io ρ)
  | _ => .bad
def maskOf (N : Nat) (io : Option Nat) : List Bool := (List.range N).map fun i => decide (io = some i)
theorem mask_at {N : Nat} {io : Option Nat} {i : Nat} (h : (maskOf N io)[i]? = some true) : io = some i := by
  unfold maskOf at h
  rw [List.getElem?_map] at h
  cases e : (List.range N)[i]? with
  | none => rw [e] at h; cases h
  | some j =>
    rw [e] at h
    have : j = i := by
      rw [List.getElem?_range] at e
      · cases e; rfl
      · have := List.getElem?_eq_some_iff.mp e
        obtain ⟨h1, _⟩ := this
        simpa using h1
    subst this
    simpa using h
theorem mask_is {N : Nat} {io : Option Nat} {i : Nat} (h : io = some i) (hl : i < N) : (maskOf N io)[i]? = some true := by
  unfold maskOf
  rw [List.getElem?_map, List.getElem?_range hl]
  simp [h]
theorem mask_not {N : Nat} {io : Option Nat} {i : Nat} (h : io ≠ some i) : (maskOf N io)[i]? ≠ some true := fun z => h (mask_at z)
/-- the frame of a def's entry -/
def frOf (G : Gx) (N : Nat) (io : Option Nat) (H : Hp) (B : Addr → Prop) (vs : List V) : Fr0 := ⟨G, H, B, maskOf N io, fun i => match vs[i]? with
  | some (.ref a) => a
  | _ => 0⟩
section
variable {G : Gx} {n N : Nat} {io : Option Nat} {ds : List D} {vs : List V} {H : Hp} {B : Addr → Prop}
theorem io_at (p : PreF G n io ds vs H B) (hn : n ≤ N) {i : Nat} {a : Addr} (h : (frOf G N io H B vs).Io i a) (hio : ∀ i, io = some i → i < n) : io = some i ∧ vs[i]? = some (.ref a) ∧ i < n := by
  obtain ⟨h1, h2⟩ := h
  have e := mask_at h1
  have hl := hio i e
  obtain ⟨d, hd⟩ : ∃ d, ds[i]? = some d := ⟨_, List.getElem?_eq_getElem (by rw [p.len']; exact hl)⟩
  obtain ⟨b, e1, _, _⟩ := p.own i d hd e
  refine ⟨e, ?_, hl⟩
  have : (frOf G N io H B vs).ioa i = b := by
    show (match vs[i]? with | some (.ref a) => a | _ => 0) = b
    rw [e1]
  rw [this] at h2; subst h2; exact e1
theorem rho0_at (p : PreF G n io ds vs H B) {i : Nat} {s : Sl} (h : (rho0 io N ds)[i]? = some s) : (i < n ∧ ∃ d, ds[i]? = some d ∧ s = sl0 io i d) ∨ s = .un := by
  unfold rho0 at h
  by_cases hl : i < n
  · rw [List.getElem?_append_left (by rw [List.length_mapIdx, p.len']; exact hl), List.getElem?_mapIdx] at h
    cases e : ds[i]? with
    | none => rw [e] at h; cases h
    | some d =>
      rw [e] at h; cases h
      exact .inl ⟨hl, d, rfl, rfl⟩
  · rw [List.getElem?_append_right (by rw [List.length_mapIdx, p.len']; omega), List.getElem?_replicate] at h
    split at h
    · cases h; exact .inr rfl
    · cases h
theorem start_at {N : List Str} (hl : i < vs.length) : (L2.start N vs)[i]? = (vs[i]?).map some := by
  unfold L2.start
  rw [List.getElem?_append_left (by simpa using hl), List.getElem?_map]
theorem sr_start {N : List Str} (p : PreF G n io ds vs H B) (hn : n ≤ N.length) (hio : ∀ i, io = some i → i < n) : SR (frOf G N.length io H B vs) H (L2.start N vs) (rho0 io N.length ds) B := by
  refine ⟨?_, fun i d e => ?_, fun i s d e hd => ?_, fun i j s t d e v h1 h2 h3 h4 h5 h6 => ?_, fun a o e _ => e, p.mu, fun _ b => b, fun _ b => .inl b, fun a b => ?_, fun i a h => ?_⟩
  · unfold L2.start rho0
    rw [List.length_append, List.length_append, List.length_map, List.length_mapIdx, List.length_replicate, List.length_replicate, p.len, p.len']
  · rcases rho0_at p e with ⟨hl, x, hx, hs⟩ | hs
    · unfold sl0 at hs
      split at hs
      · cases hs
      · rename_i hne
        cases hs
        obtain ⟨v, h1, h2⟩ := p.dat i _ hx hne
        exact ⟨v, by rw [start_at (by rw [p.len]; exact hl), h1]; rfl, h2⟩
    · cases hs
  · rcases rho0_at p e with ⟨hl, x, hx, hs⟩ | hs
    · unfold sl0 at hs
      split at hs
      · rename_i hne
        subst hs
        cases hd
        obtain ⟨a, h1, h2, h3⟩ := p.own i _ hx hne
        refine ⟨a, by rw [start_at (by rw [p.len]; exact hl), h1]; rfl, h2, h3, .inr ⟨mask_is hne (by omega), ?_⟩⟩
        show (match vs[i]? with | some (.ref a) => a | _ => 0) = a
        rw [h1]
      · subst hs; cases hd
    · subst hs; cases hd
  · have key : ∀ (i : Nat) (s : Sl) d, (rho0 io N.length ds)[i]? = some s → s.held = some d → io = some i := fun i s d h1 h2 => by
      rcases rho0_at p h1 with ⟨hl, x, hx, hs⟩ | hs
      · unfold sl0 at hs
        split at hs
        · assumption
        · subst hs; cases h2
      · subst hs; cases h2
    have a := key i s d h1 h2
    have b := key j t e h3 h4
    rw [a] at b; cases b; rfl
  · intro z
    have m := p.mu a b
    have z' : H a = none := z
    rw [z'] at m; exact m
  · obtain ⟨e, hv, hl⟩ := io_at p hn h hio
    obtain ⟨d, hd⟩ : ∃ d, ds[i]? = some d := ⟨_, List.getElem?_eq_getElem (by rw [p.len']; exact hl)⟩
    obtain ⟨b, e1, e2, e3⟩ := p.own i d hd e
    rw [hv] at e1; cases e1
    refine ⟨e2, .own d, d, ?_, rfl, by rw [start_at (by rw [p.len]; exact hl), hv]; rfl⟩
    unfold rho0
    rw [List.getElem?_append_left (by rw [List.length_mapIdx, p.len']; exact hl), List.getElem?_mapIdx, hd]
    show some (sl0 io i d) = _
    unfold sl0
    rw [if_pos e]
/-- the def's end -/
theorem cext_end {σ' : L2.St} {ρ' : Rho} {H' : Hp} {B' : Addr → Prop} {N : Nat} (p : PreF G n io ds vs H B) (hn : n ≤ N) (hio : ∀ i, io = some i → i < n) (s : SR (frOf G N io H B vs) H' σ' ρ' B') : CExt G H B H' B' io vs (outOf io ρ') := by
  refine ⟨fun a o e k => s.keep a o e fun i h => ?_, s.bsub, s.bnew, s.mu, fun i a e hv => ?_⟩
  · obtain ⟨e, hv, _⟩ := io_at p hn h hio
    exact k i e hv
  · have hI : (frOf G N io H B vs).Io i a := ⟨mask_is e (by have := hio i e; omega), by
      show (match vs[i]? with | some (.ref a) => a | _ => 0) = a
      rw [hv]⟩
    obtain ⟨_, sl, d, h1, h2, h3⟩ := s.io i a hI
    obtain ⟨b, q1, _, q3, _⟩ := s.own i sl d h1 h2
    rw [h3] at q1; cases q1
    have : outOf io ρ' = d := by
      unfold outOf
      subst e
      simp only [h1, h2]
    rw [this]; exact q3
theorem post_end {E : XK} {Q : VK} {N : Nat} {body : Sx} {Nl : List Str} (hN : Nl.length = N) (p : PreF G n io ds vs H B) (hn : n ≤ N) (hio : ∀ i, io = some i → i < n) (h : PostF G io H B vs Q E (runF N io body ds)) :
    TSx (frOf G N io H B vs) (fun cls d _ H => E cls d H) body { nx := fun _ H' => Q .non H', rt := Q } (L2.start Nl vs) H := by
  subst hN
  have s := sr_start p hn hio
  refine ⟨_, B, s, ?_⟩
  unfold runF at h
  cases e : body (rho0 io Nl.length ds) with
  | bad => rw [e] at h; exact h.elim
  | er x ρ' => rw [e] at h; exact fun cls dd σ' H' B' st hx => h cls dd H' B' (cext_end p hn hio st.sr) hx
  | ok fl ρ' =>
    rw [e] at h
    cases fl with
    | nx => exact fun σ' H' B' st => h _ H' B' (cext_end p hn hio st.sr) .non
    | bk => exact h.elim
    | ct => exact h.elim
    | rt q =>
      cases q with
      | d x => exact fun v σ' H' B' st r => h v H' B' (cext_end p hn hio st.sr) r
      | f x =>
        intro v σ' H' B' st r
        obtain ⟨a, e1, e2, e3, e4, _⟩ := r
        exact h v H' B' (cext_end p hn hio st.sr) ⟨a, e1, e2, e4, e3⟩
      | o i =>
        intro v σ' H' B' st r
        obtain ⟨sl, d, h1, h2, h3⟩ := r
        simp only [h1, h2] at h
        split at h
        · exact h.elim
        · rename_i hne
          obtain ⟨a, q1, q2, q3, q4⟩ := st.sr.own i sl d h1 h2
          rw [h3] at q1; cases q1
          refine h _ H' B' (cext_end p hn hio st.sr) ⟨a, rfl, q2, ?_, q3⟩
          rcases q4 with q4 | q4
          · exact q4
          · exact absurd (mask_at q4.1) hne
end
/-- a def's promise where no guard (of a repr under way) stands -/
structure FnG (P : Program) (w : World) (K : PySem.W.Frag) (mg : Str → Option Value) (base : Heap) (k : Nat) (f : Addr) (fd : FuncData) (ps : List Str) (sp : Sp) : Prop where
  len : ∀ vs H Q E, sp vs H Q E → vs.length = ps.length
  run : ∀ (A : Around) (outer : List Env) (s : Shared) (H : Hp) (args : Args) (us : List Value) (vs : List V) (Q : VK) (E : XK), A.guards = some [] → Room k A → Env0 P w K mg base A outer s H → BindsTo s fd args (ps.zip us) → Vals vs us → sp vs H Q E →
    codeAny (model P w) A (.call (.ref f) args) (CR (L2.CX P w) outer P w H s Q E) s
theorem FnG.mono {P : Program} {w : World} {K : PySem.W.Frag} {mg : Str → Option Value} {base : Heap} {j k : Nat} {f : Addr} {fd : FuncData} {ps : List Str} {sp : Sp} (F : FnG P w K mg base j f fd ps sp) (h : j ≤ k) : FnG P w K mg base k f fd ps sp :=
  ⟨F.len, fun A outer s H args us vs Q E hg hr => F.run A outer s H args us vs Q E hg (hr.mono h)⟩
theorem fn_body {P : Program} {w : World} {K : PySem.W.Frag} {mg : Str → Option Value} {base : Heap} {x qual : Str} {params : Arguments} {body : List Stmt} {scope : Scope} {dvs : List V} {kws : List (Str × V)} {f : Addr} {fd : FuncData}
    {N ps : List Str} {k : Nat} {sp : Sp} (F : FunD K x qual params body scope dvs kws f fd) (S : FnScope N ps scope) (len : ∀ vs H Q E, sp vs H Q E → vs.length = ps.length)
    (hbody : ∀ (cdv : Value) (A : Around) (outer : List Env) (s : Shared) (H : Hp) (vs : List V) (Q : VK) (E : XK), A.guards = some [] → Room k (A.deeper (envOfC qual scope s.heap.objs.size f cdv)) → sp vs H Q E →
      ∃ t, PSs (cxOf (L2.CX P w) P w K mg base N qual scope f cdv A outer s H E) body t ∧ t { nx := fun _ H' => Q .non H', rt := Q } (L2.start N vs) H) : FnG P w K mg base (k + 1) f fd ps sp := by
  obtain ⟨oc, od, dV, kV, doc, pm, an, cdv, ct, osl, rfl, lk, hcd, _, _⟩ := F.ex
  refine ⟨len, fun A outer s H args us vs Q E hgd hr e0 hb r hsp => ?_⟩
  have hl := len _ _ _ _ hsp
  have inK : K.In s.heap := e0.mod.kin.keeps fun b o e => (e0.bs b o e).1
  have par : ∀ y ∈ ps.zip us, scope.names.lookup y.1 = some .local ∨ (scope.names.lookup y.1 = some .cell ∧ ((cellsFrom (s.heap.objs.size + 1) scope.names []).lookup y.1).isSome = true) := fun ⟨n, v⟩ hy =>
    (S.par n (List.of_mem_zip hy).1).imp id fun q => ⟨q, PySem.W.cellsFrom_some _ _ _ (.inl q)⟩
  refine codeAny_call_function hr.depth (inK _ _ lk) rfl S.co S.gen rfl (PySem.W.codeRec_of inK hcd) (hb _ _ _ _ ?_)
  refine wpAny_newFunctionEnv_cells S.kind par fun env he s1 x => ?_
  subst he
  refine ⟨(e0.mod.nolimit.keeps fun b o e => (e0.bs b o e).1 : s.heap.NoLimit).keeps x.toInCall.keep, codeAny_func ?_⟩
  obtain ⟨t, ht, hq⟩ := hbody cdv A outer s H vs Q E hgd (hr.deeper _) hsp
  refine wpAny_mono (ht.run [] s1 (L2.start N vs) H _ (inv_start S hr.hd e0 hl r x) hq) (fun fl s' hs => ?_) fun e s' hs => hs
  cases fl with
  | ret u =>
    obtain ⟨v, σ', H', J, rv, q⟩ := hs
    exact ⟨v, H', J.os, J.bare, J.base, J.hok, rv, q⟩
  | next =>
    obtain ⟨σ', H', J, q⟩ := hs
    exact ⟨.non, H', J.os, J.bare, J.base, J.hok, rfl, q⟩
  | brk =>
    obtain ⟨_, _, _, q⟩ := hs
    exact False.elim q
  | cont =>
    obtain ⟨_, _, _, q⟩ := hs
    exact False.elim q
/-- THE RULE for a def -/
theorem def_ok {P : Program} {w : World} {K : PySem.W.Frag} {mg : Str → Option Value} {base : Heap} {x qual : Str} {params : Arguments} {body : List Stmt} {scope : Scope} {dvs : List V} {kws : List (Str × V)} {f : Addr} {fd : FuncData}
    {N ps : List Str} {k : Nat} {G : Gx} {io : Option Nat} {t : Sx} (F : FunD K x qual params body scope dvs kws f fd) (S : FnScope N ps scope) (hio : ∀ i, io = some i → i < ps.length)
    (hb : ∀ (cdv : Value) (A : Around) (outer : List Env) (s : Shared) (H : Hp) (E : XK) (Fr : Fr0), A.guards = some [] → Room k (A.deeper (envOfC qual scope s.heap.objs.size f cdv)) → Fr.G = G → Fr.iom = maskOf N.length io →
      PSs (cxOf (L2.CX P w) P w K mg base N qual scope f cdv A outer s H E) body (TSx Fr (fun cls d _ H => E cls d H) t)) : FnG P w K mg base (k + 1) f fd ps (spOf G ps.length io (runF N.length io t)) := by
  have hpl : ps.length ≤ N.length := by have := congrArg List.length S.pre; rw [List.length_take] at this; omega
  refine fn_body F S (fun vs H Q E ⟨ds, B, p, _⟩ => p.len) fun cdv A outer s H vs Q E hgd hr ⟨ds, B, p, h⟩ => ⟨_, hb cdv A outer s H E (frOf G N.length io H B vs) hgd hr rfl rfl, ?_⟩
  exact post_end rfl p hpl hio h

/-! ### the call -/
inductive Src where | arg (i : Nat) | dfl (d : D) (v : V)
def srcA (as : List Ag) : List Src → Option (List Ag)
  | [] => some []
  | .arg i :: ss => match as[i]?, srcA as ss with
    | some a, some r => some (a :: r)
    | _, _ => none
  | .dfl d _ :: ss => match srcA as ss with
    | some r => some (.d d :: r)
    | none => none
def srcV (vs : List V) (ss : List Src) : List V := ss.map fun s => match s with
  | .arg i => vs.getD i .non
  | .dfl _ v => v
def SrcOk (G : Gx) (ss : List Src) : Prop := ∀ d v, Src.dfl d v ∈ ss → ∀ H B, DR G H B d v
/-- the callee's data -/
def agF (io : Option Nat) (ρ : Rho) : Nat → List Ag → Option (List D)
  | _, [] => some []
  | i, .d x :: as => if io = some i then none else (match agF io ρ (i + 1) as with
    | some ds => some (x :: ds)
    | none => none)
  | i, .o j :: as => if io = some i then (match ρ[j]? with
    | some (.own d) => (match agF io ρ (i + 1) as with
      | some ds => some (d :: ds)
      | none => none)
    | _ => none) else none
def putIo (io : Option Nat) (as : List Ag) (out : D) (ρ : Rho) : Rho := match io with
  | none => ρ
  | some i => match as[i]? with
    | some (.o j) => ρ.set j (.own out)
    | _ => ρ
def eCallF (io : Option Nat) (f : FT) (ss : List Src) (r : Rho → Rs (List Ag)) : Ex := fun ρ => (r ρ).bind fun as ρ1 => match srcA as ss with
  | none => .bad
  | some as' => match agF io ρ1 0 as' with
    | none => .bad
    | some ds => match f ds with
      | .ok d true out => .ok (.f d) (putIo io as' out ρ1)
      | .ok d false out => .ok (.d d) (putIo io as' out ρ1)
      | .er x out => .er x (putIo io as' out ρ1)
      | .bad => .bad
section
variable {F : Fr0} {σ : L2.St} {ρ : Rho} {H H' : Hp} {B B' : Addr → Prop}
theorem AgRs.get : ∀ {as : List Ag} {vs : List V} {i : Nat} {a : Ag}, AgRs F H B σ ρ as vs → as[i]? = some a → ∃ v, vs[i]? = some v ∧ AgR F H B σ ρ a v
  | [], _, _, _, h, e => by simp at e
  | b :: as, _, 0, _, h, e => by
    cases h with
    | cons h1 h2 => simp at e; subst e; exact ⟨_, rfl, h1⟩
  | b :: as, _, i + 1, _, h, e => by
    cases h with
    | cons h1 h2 =>
      obtain ⟨v, e1, e2⟩ := AgRs.get h2 (i := i) (by simpa using e)
      exact ⟨v, by simpa using e1, e2⟩
theorem srcA_ok {as : List Ag} {vs : List V} (r : AgRs F H B σ ρ as vs) : ∀ {ss : List Src} {as' : List Ag}, SrcOk F.G ss → srcA as ss = some as' → AgRs F H B σ ρ as' (srcV vs ss)
  | [], _, _, e => by cases e; exact .nil
  | .arg i :: ss, _, ok, e => by
    unfold srcA at e
    cases e1 : as[i]? with
    | none => simp [e1] at e
    | some a =>
      cases e2 : srcA as ss with
      | none => simp [e1, e2] at e
      | some r' =>
        simp only [e1, e2] at e
        cases e
        obtain ⟨v, h1, h2⟩ := r.get e1
        have : vs.getD i .non = v := by rw [List.getD_eq_getElem?_getD, h1]; rfl
        show AgRs F H B σ ρ (a :: r') (vs.getD i .non :: srcV vs ss)
        rw [this]
        exact .cons h2 (srcA_ok r (fun d v hm => ok d v (List.mem_cons_of_mem _ hm)) e2)
  | .dfl d v :: ss, _, ok, e => by
    unfold srcA at e
    cases e2 : srcA as ss with
    | none => simp [e2] at e
    | some r' =>
      simp only [e2] at e
      cases e
      exact .cons (a := .d d) (ok d v (List.mem_cons_self ..) H B) (srcA_ok r (fun d v hm => ok d v (List.mem_cons_of_mem _ hm)) e2)
theorem agF_len {io : Option Nat} : ∀ {as : List Ag} {i : Nat} {ds : List D}, agF io ρ i as = some ds → ds.length = as.length
  | [], _, _, e => by cases e; rfl
  | .d x :: as, i, ds, e => by
    unfold agF at e
    split at e
    · cases e
    · cases e2 : agF io ρ (i + 1) as with
      | none => simp [e2] at e
      | some r => simp only [e2] at e; cases e; simp [agF_len e2]
  | .o j :: as, i, ds, e => by
    unfold agF at e
    split at e
    · split at e
      · cases e2 : agF io ρ (i + 1) as with
        | none => simp [e2] at e
        | some r => simp only [e2] at e; cases e; simp [agF_len e2]
      · cases e
    · cases e
theorem agF_get {io : Option Nat} : ∀ {as : List Ag} {i : Nat} {ds : List D} {k : Nat} {d : D}, agF io ρ i as = some ds → ds[k]? = some d → (io ≠ some (i + k) ∧ as[k]? = some (.d d)) ∨ (io = some (i + k) ∧ ∃ j, as[k]? = some (.o j) ∧ ρ[j]? = some (.own d))
  | [], _, _, _, _, e, h => by cases e; simp at h
  | .d x :: as, i, ds, k, d, e, h => by
    unfold agF at e
    split at e
    · cases e
    · rename_i hne
      cases e2 : agF io ρ (i + 1) as with
      | none => simp [e2] at e
      | some r =>
        simp only [e2] at e; cases e
        cases k with
        | zero => simp at h; subst h; exact .inl ⟨hne, rfl⟩
        | succ k =>
          have q := agF_get (k := k) e2 (by simpa using h)
          rw [show i + 1 + k = i + (k + 1) by omega] at q
          simpa using q
  | .o j :: as, i, ds, k, d, e, h => by
    unfold agF at e
    split at e
    · rename_i hi
      split at e
      · rename_i dd hj
        cases e2 : agF io ρ (i + 1) as with
        | none => simp [e2] at e
        | some r =>
          simp only [e2] at e; cases e
          cases k with
          | zero => simp at h; subst h; exact .inr ⟨hi, j, rfl, hj⟩
          | succ k =>
            have q := agF_get (k := k) e2 (by simpa using h)
            rw [show i + 1 + k = i + (k + 1) by omega] at q
            simpa using q
      · cases e
    · cases e
theorem AgRs.len : ∀ {as : List Ag} {vs : List V}, AgRs F H B σ ρ as vs → as.length = vs.length
  | [], _, h => by cases h; rfl
  | a :: as, _, h => by
    cases h with
    | cons h1 h2 => simp [AgRs.len h2]
theorem pre_call {io : Option Nat} {as : List Ag} {vs : List V} {ds : List D} (s : SR F H σ ρ B) (r : AgRs F H B σ ρ as vs) (e : agF io ρ 0 as = some ds) : PreF F.G ds.length io ds vs H B := by
  refine ⟨by rw [agF_len e]; exact r.len.symm, rfl, fun i d hd hne => ?_, fun i d hd hi => ?_, s.mu⟩
  · rcases agF_get e hd with ⟨_, h⟩ | ⟨h, _⟩
    · obtain ⟨v, h1, h2⟩ := r.get h
      exact ⟨v, h1, h2⟩
    · rw [Nat.zero_add] at h; exact absurd h hne
  · rcases agF_get e hd with ⟨h, _⟩ | ⟨_, j, h1, h2⟩
    · rw [Nat.zero_add] at h; exact absurd hi h
    · obtain ⟨v, h3, sl, d', h4, h5, h6⟩ := r.get h1
      rw [h2] at h4; cases h4; cases h5
      obtain ⟨a, q1, q2, q3, _⟩ := s.own j _ d h2 rfl
      rw [h6] at q1; cases q1
      exact ⟨a, h3, q2, q3⟩
/-- the slots behind a call -/
theorem SR.called0 {io : Option Nat} {vs : List V} {out : D} (s : SR F H σ ρ B) (c : CExt F.G H B H' B' io vs out) (hio : io = none) : Stp F σ ρ H B ρ H' B' := by
  subst hio
  have k : ∀ a o, H a = some o → H' a = some o := fun a o e => c.keep a o e fun i z => nomatch z
  have m : Mono H B H' B' := ⟨fun a o e _ => k a o e, s.mu, c.bnew⟩
  refine ⟨s.mono m (fun a o e n => k a o (s.keep a o e n)) (fun i sl d a e1 e2 e3 => ?_) c.mu (fun a b => c.bsub a (s.bsub a b)) fun a b => ?_, fun a o e _ => k a o e, c.bsub, c.bnew, fun i => .inr rfl⟩
  · obtain ⟨b, q1, q2, q3, _⟩ := s.own i sl d e1 e2
    rw [e3] at q1; cases q1
    obtain ⟨o, ho⟩ := s.bdom q2
    exact ⟨by rw [ho]; exact k a o ho, c.bsub a q2⟩
  · rcases c.bnew a b with h | h
    · exact s.bnew a h
    · exact .inr (s.dom0 h)
theorem SR.called1 {io : Option Nat} {i j : Nat} {a : Addr} {d : D} {vs : List V} {out : D} (s : SR F H σ ρ B) (c : CExt F.G H B H' B' io vs out) (hio : io = some i) (hv : vs[i]? = some (.ref a)) (hj : ρ[j]? = some (.own d)) (hs : σ[j]? = some (some (.ref a))) :
    Stp F σ ρ H B (ρ.set j (.own out)) H' B' := by
  have k : ∀ b o, H b = some o → b ≠ a → H' b = some o := fun b o e ne => c.keep b o e fun i' z q => by
    rw [hio] at z; cases z
    rw [hv] at q; cases q; exact ne rfl
  obtain ⟨aa, q1, q2, q3, q4⟩ := s.own j _ d hj rfl
  rw [hs] at q1; cases q1
  have hjl : j < ρ.length := (List.getElem?_eq_some_iff.mp hj).1
  have m : Mono H B H' B' := ⟨fun b o e nb => k b o e fun z => nb (by rw [z]; exact q2), s.mu, c.bnew⟩
  have other : ∀ (l : Nat) (sl : Sl) (e : D) b, l ≠ j → ρ[l]? = some sl → sl.held = some e → σ[l]? = some (some (.ref b)) → b ≠ a := fun l sl e b hl h1 h2 h3 z => by
    subst z
    exact hl (s.dist l j sl _ e d _ h1 h2 hj rfl h3 hs)
  have nn : ∀ b, H b = none → F.H0 b = none := fun b h => s.dom0 h
  refine ⟨⟨by rw [List.length_set]; exact s.len, fun l e he => ?_, fun l sl e h1 h2 => ?_, fun l l' sl sl' e e' v h1 h2 h3 h4 h5 h6 => ?_, fun b o e n => k b o (s.keep b o e n) fun z => ?_, c.mu, fun b h => c.bsub b (s.bsub b h), fun b h => ?_, s.b0, fun l b h => ?_⟩, fun b o e n => k b o e fun z => n j d hj (by rw [z]; exact hs), c.bsub, c.bnew, fun l => ?_⟩
  · by_cases z : j = l
    · subst z; rw [List.getElem?_set_self hjl] at he; cases he
    · rw [List.getElem?_set_ne z] at he
      obtain ⟨v, h1, h2⟩ := s.dat l e he
      exact ⟨v, h1, h2.mono m⟩
  · by_cases z : j = l
    · subst z
      rw [List.getElem?_set_self hjl] at h1; cases h1; cases h2
      exact ⟨a, hs, c.bsub a q2, c.out i a hio hv, q4⟩
    · rw [List.getElem?_set_ne z] at h1
      obtain ⟨b, p1, p2, p3, p4⟩ := s.own l sl e h1 h2
      obtain ⟨o, ho⟩ := s.bdom p2
      exact ⟨b, p1, c.bsub b p2, p3.mono m (by rw [ho]; exact k b o ho (other l sl e b (Ne.symm z) h1 h2 p1)), p4⟩
  · have key : ∀ (l : Nat) (sl : Sl) (e : D), (ρ.set j (.own out))[l]? = some sl → sl.held = some e → ∃ (sl : Sl) (e : D), ρ[l]? = some sl ∧ sl.held = some e := fun l sl e h1 h2 => by
      by_cases z : j = l
      · subst z; exact ⟨_, d, hj, rfl⟩
      · rw [List.getElem?_set_ne z] at h1; exact ⟨sl, e, h1, h2⟩
    obtain ⟨u1, w1, a1, b1⟩ := key l sl e h1 h2
    obtain ⟨u2, w2, a2, b2⟩ := key l' sl' e' h3 h4
    exact s.dist l l' u1 u2 w1 w2 v a1 b1 a2 b2 h5 h6
  · subst z
    rcases q4 with q4 | q4
    · rw [q4] at e; cases e
    · exact n j q4
  · rcases c.bnew b h with h | h
    · exact s.bnew b h
    · exact .inr (nn b h)
  · obtain ⟨p0, sl, e, p1, p2, p3⟩ := s.io l b h
    by_cases z : j = l
    · subst z
      exact ⟨p0, .own out, out, List.getElem?_set_self hjl, rfl, p3⟩
    · exact ⟨p0, sl, e, by rw [List.getElem?_set_ne z]; exact p1, p2, p3⟩
  · by_cases z : j = l
    · subst z
      exact .inl ⟨d, out, hj, List.getElem?_set_self hjl⟩
    · exact .inr (List.getElem?_set_ne z)
theorem stp_call {io : Option Nat} {as : List Ag} {vs : List V} {ds : List D} {out : D} (s : SR F H σ ρ B) (r : AgRs F H B σ ρ as vs) (e : agF io ρ 0 as = some ds) (hio : ∀ i, io = some i → i < ds.length) (c : CExt F.G H B H' B' io vs out) : Stp F σ ρ H B (putIo io as out ρ) H' B' := by
  cases io with
  | none => exact s.called0 c rfl
  | some i =>
    obtain ⟨d, hd⟩ : ∃ d, ds[i]? = some d := ⟨_, List.getElem?_eq_getElem (hio i rfl)⟩
    rcases agF_get e hd with ⟨h, _⟩ | ⟨_, j, h1, h2⟩
    · rw [Nat.zero_add] at h; exact absurd rfl h
    · obtain ⟨v, h3, sl, d', h4, h5, h6⟩ := r.get h1
      obtain ⟨a, q1, q2, q3, _⟩ := s.own j _ d h2 rfl
      rw [h6] at q1; cases q1
      have : putIo (some i) as out ρ = ρ.set j (.own out) := by
        unfold putIo
        simp only [h1]
      rw [this]
      exact s.called1 c rfl h3 h2 h6
/-- what the call gives -/
theorem tex_callF {W : WX} {Q : VK} {io : Option Nat} {f : FT} {as : List Ag} {vs : List V} {n : Nat} {ss : List Src} {ρa : Rho} {Ha : Hp} {Ba : Addr → Prop} (hn : ss.length = n) (hio : ∀ i, io = some i → i < n) {Hs : Hp} (hs : ∀ a, Ha a = none → Hs a = none) (ok : SrcOk F.G ss) (sa : SR F Ha σ ρa Ba) (st : Stp F σ ρa Ha Ba ρ H B) (r : AgRs F H B σ ρ as vs)
    (h : AftG F W σ ρa Ha Ba (fun H' B' ρ' => PdR F Hs H' B' σ ρ') Q (match srcA as ss with
      | none => .bad
      | some as' => match agF io ρ 0 as' with
        | none => .bad
        | some ds => match f ds with
          | .ok d true out => .ok (.f d) (putIo io as' out ρ)
          | .ok d false out => .ok (.d d) (putIo io as' out ρ)
          | .er x out => .er x (putIo io as' out ρ)
          | .bad => .bad)) : spOf F.G n io f (srcV vs ss) H Q (WE W σ) := by
  have s := st.sr
  cases e1 : srcA as ss with
  | none => simp only [e1] at h; exact h.elim
  | some as' =>
    simp only [e1] at h
    have r' := srcA_ok r ok e1
    cases e2 : agF io ρ 0 as' with
    | none => simp only [e2] at h; exact h.elim
    | some ds =>
      simp only [e2] at h
      have hl : ds.length = n := by rw [agF_len e2, r'.len, ← hn]; exact List.length_map ..
      have p := pre_call s r' e2
      rw [hl] at p
      refine ⟨ds, B, p, ?_⟩
      have hst : ∀ {out : D} {H' : Hp} {B' : Addr → Prop}, CExt F.G H B H' B' io (srcV vs ss) out → Stp F σ ρ H B (putIo io as' out ρ) H' B' := fun c => stp_call s r' e2 (by rw [hl]; exact hio) c
      cases e3 : f ds with
      | bad => simp only [e3] at h; exact h.elim
      | er x out =>
        simp only [e3] at h
        exact fun cls dd H' B' c hx => h cls dd H' B' (st.trans sa (hst c)) hx
      | ok d fr out =>
        cases fr with
        | false =>
          simp only [e3] at h
          exact fun v H' B' c hr => h v H' B' (st.trans sa (hst c)) hr
        | true =>
          simp only [e3] at h
          intro v H' B' c hr
          obtain ⟨b, h1, h2, h3, h4⟩ := hr
          have t := hst c
          refine h v H' B' (st.trans sa t) ⟨b, h1, h2, h4, hs b (Stp.dom sa st h3), fun i sl d' hi hd z => ?_⟩
          obtain ⟨sl', d'', g1, g2⟩ := t.held' hi hd
          obtain ⟨b', q1, q2, q3, _⟩ := s.own i sl' d'' g1 g2
          rw [z] at q1; cases q1
          have m := q3.mu
          rw [h3] at m; exact m
end
section
variable {X : Cx} {F : Fr0} {W : WX} {k n : Nat} {f : Addr} {fd : FuncData} {ps ks : List Str} {x : Str} {p pos : Pos} {e : Expr} {es : List Expr} {kws : List Keyword} {io : Option Nat} {ft : FT} {ss : List Src} {r : Rho → Rs (List Ag)} {g : List Value → List Value → List Value}
/-- how the call binds: n positional values, keywords ks; ss: where each parameter comes from -/
structure MB (K : PySem.W.Frag) (fd : FuncData) (ps : List Str) (n : Nat) (ks : List Str) (ss : List Src) (g : List Value → List Value → List Value) : Prop where
  to : ∀ (s : Shared) (us ws : List Value), K.In s.heap → us.length = n → ws.length = ks.length → BindsTo s fd ⟨us, ks.zip ws⟩ (ps.zip (g us ws))
  rel : ∀ {vs : List V} {us : List Value} {zs : List V} {ws : List Value}, vs.length = n → zs.length = ks.length → Vals vs us → Vals zs ws → Vals (srcV (vs ++ zs) ss) (g us ws)
  len : ss.length = ps.length
theorem run_mb {pins : List (Addr × Obj)} {σ : L2.St} {H : Hp} {s : Shared} {Q : VK} {us ws : List Value} {vs zs : List V} {sp : Sp} (Fn : FnG X.prog X.w X.K X.mg X.base k f fd ps sp) (hgd : X.A.guards = some []) (hr : Room k X.A) (hb : MB X.K fd ps n ks ss g) (tk : Takes X W)
    (I : Inv X pins σ H s) (r1 : Vals vs us) (rz : Vals zs ws) (l1 : vs.length = n) (l2 : zs.length = ks.length) (h : sp (srcV (vs ++ zs) ss) H Q (WE W σ)) : wpAny (model X.prog X.w) X.A (call (.ref f) us (ks.zip ws)) (EP X pins σ Q) X.xe s := by
  have r2 := hb.rel l1 l2 r1 rz
  refine wpAny_call (codeAny_mono (Fn.run X.A X.stack s H ⟨us, ks.zip ws⟩ (g us ws) (srcV (vs ++ zs) ss) Q (WE W σ) hgd hr I.env0 (hb.to s us ws I.kIn (r1.length.symm.trans l1) (rz.length.symm.trans l2)) r2 h) fun r s' hq => ?_)
  cases r with
  | error e => exact passAt tk σ pins H s e s' I hq
  | ok fl =>
    cases fl with
    | ret u => exact I.after hq
    | next => exact False.elim hq
    | brk => exact False.elim hq
    | cont => exact False.elim hq
end
end PL
set_option maxHeartbeats 4000000
namespace PL
open PySem L2 PySem.Spec PyProof.Rows
def callEnd (io : Option Nat) (f : FT) (ss : List Src) (as : List Ag) (ρ : Rho) : Rs Pd := match srcA as ss with
  | none => .bad
  | some as' => match agF io ρ 0 as' with
    | none => .bad
    | some ds => match f ds with
      | .ok d true out => .ok (.f d) (putIo io as' out ρ)
      | .ok d false out => .ok (.d d) (putIo io as' out ρ)
      | .er x out => .er x (putIo io as' out ρ)
      | .bad => .bad
def eCallK (n m : Nat) (io : Option Nat) (f : FT) (ss : List Src) (r1 r2 : Rho → Rs (List Ag)) : Ex := fun ρ => (r1 ρ).bind fun as1 ρ1 => (r2 ρ1).bind fun as2 ρ2 =>
  if as1.length = n ∧ as2.length = m then callEnd io f ss (as1 ++ as2) ρ2 else .bad
/-- f(e, ..), all of them positional -/
abbrev eCall (n : Nat) (io : Option Nat) (f : FT) (ss : List Src) (r1 : Rho → Rs (List Ag)) : Ex := eCallK n 0 io f ss r1 aNil
section
variable {F : Fr0} {σ : L2.St} {ρ ρ' : Rho} {H H' : Hp} {B B' : Addr → Prop}
theorem AgRs.step (s : SR F H σ ρ B) (t : Stp F σ ρ H B ρ' H' B') : ∀ {as : List Ag} {vs : List V}, AgRs F H B σ ρ as vs → AgRs F H' B' σ ρ' as vs
  | [], _, h => by cases h; exact .nil
  | a :: as, _, h => by
    cases h with
    | cons h1 h2 => exact .cons (h1.step s t) (AgRs.step s t h2)
theorem AgRs.app : ∀ {as bs : List Ag} {vs zs : List V}, AgRs F H B σ ρ as vs → AgRs F H B σ ρ bs zs → AgRs F H B σ ρ (as ++ bs) (vs ++ zs)
  | [], _, _, _, h, k => by cases h; exact k
  | a :: as, _, _, _, h, k => by
    cases h with
    | cons h1 h2 => exact .cons h1 (AgRs.app h2 k)
end
section
variable {X : Cx} {F : Fr0} {W : WX} {k n : Nat} {f : Addr} {fd : FuncData} {ps ks : List Str} {x : Str} {p pos kpos : Pos} {e : Expr} {es : List Expr} {kws : List Keyword} {io : Option Nat} {ft : FT} {ss : List Src} {r1 r2 : Rho → Rs (List Ag)} {g : List Value → List Value → List Value} {nm : Option Str}
theorem tex_callK {m N : Nat} (hN : ss.length = N) (hio : ∀ i, io = some i → i < N) (ok : SrcOk F.G ss) {σ : L2.St} {H : Hp} {Q : VK} (h : TEx F W (eCallK n m io ft ss r1 r2) σ H Q) :
    TAx F W r1 σ H (fun vs H1 => TAx F W r2 σ H1 (fun zs H2 => vs.length = n ∧ zs.length = m ∧ spOf F.G N io ft (srcV (vs ++ zs) ss) H2 Q (WE W σ))) := by
  obtain ⟨ρ, B, s, h⟩ := h
  refine ⟨ρ, B, s, AftG.imp (AftG.bind h) fun vs H1 ⟨ρ1, B1, as1, st, rp, h1⟩ => ?_⟩
  refine ⟨ρ1, B1, st.sr, AftG.imp (AftG.bind (AftG.from_ s st h1)) fun zs H2 ⟨ρ2, B2, as2, st2, rs, h2⟩ => ?_⟩
  have rp' := rp.step st.sr st2
  split at h2
  · rename_i hl
    refine ⟨by rw [← rp.len]; exact hl.1, by rw [← rs.len]; exact hl.2, ?_⟩
    exact tex_callF hN hio (fun a n => Stp.dom s st n) ok st.sr st2 (rp'.app rs) h2
  · exact h2.elim
theorem tax_nil {σ : L2.St} {H : Hp} {R : List V → Hp → Prop} (h : TAx F W aNil σ H R) : R [] H := by
  obtain ⟨ρ, B, s, h⟩ := h
  exact h [] H B (.refl s) .nil
theorem rk_nil : PK X [] (TAx F W aNil) := ⟨fun pos pins s σ H Q I h => pk_nil.run pos pins s σ H Q I (tax_nil h)⟩
theorem rk_cons {t : Ex} {r : Rho → Rs (List Ag)} (ha : PE X e (TEx F W t)) (hr : PK X kws (TAx F W r)) : PK X (⟨nm, e, kpos⟩ :: kws) (TAx F W (aCons t r)) := by
  refine ⟨fun pos pins s σ H Q I h => (pk_cons ha hr).run pos pins s σ H Q I ?_⟩
  obtain ⟨ρ, B, s, h⟩ := h
  refine ⟨ρ, B, s, AftG.imp (AftG.bind h) fun v H1 ⟨ρ1, B1, p, st, rp, h1⟩ => ?_⟩
  obtain ⟨B2, st2, ra⟩ := PdR.toAg s st rp
  refine ⟨ρ1, B2, st2.sr, AftG.imp (AftG.bind (AftG.from_ s st2 h1)) fun vs H2 ⟨ρ2, B3, as, st3, rs, h2⟩ => ?_⟩
  exact h2 _ H2 B3 st3 (.cons (ra.step st2.sr st3) rs)

theorem re_call (Fn : FnG X.prog X.w X.K X.mg X.base k f fd ps (spOf F.G ps.length io ft)) (hgd : X.A.guards = some []) (hr : Room k X.A) (hg : Gl X x) (hm : X.mg x = some (.ref f)) (hk : PySem.W.keepIn X.K (.ref f) = true) (hb : MB X.K fd ps n [] ss g) (tk : Takes X W) (hio : ∀ i, io = some i → i < ps.length) (ok : SrcOk F.G ss)
    (ha : PA X (e :: es) (TAx F W r1)) (hdb : (x == ("__debug__" : Str)) = false := by decide) (he : starEach (e :: es) X.env = (false, eval e X.env) :: starEach es X.env := by rfl) (hpl : (backTo pos (starEach es X.env)).any (·.1) = false := by rfl) :
    PE X (.Call (.Name x p) (e :: es) [] pos) (TEx F W (eCall n io ft ss r1)) := by
  refine ⟨fun pins s σ H Q I h => ?_⟩
  have h := tex_callK hb.len hio ok h
  refine wpAny_Call_Name_kw (ld_glob I hg hm ?_ hdb)
  refine PySem.W.callWith_K (h₀ := X.base) I.ok.mod.kin hk (thn (ha.run pos pins s σ H _ I h) fun us s1 ⟨vs, H1, I1, r, q⟩ => ⟨I1.kIn, ?_⟩) he hpl
  obtain ⟨l1, l2, q⟩ := tax_nil q
  exact run_mb (ks := []) (us := us) (ws := []) (zs := []) Fn hgd hr hb tk I1 r .nil l1 l2 q
theorem re_call0 (Fn : FnG X.prog X.w X.K X.mg X.base k f fd ps (spOf F.G ps.length io ft)) (hgd : X.A.guards = some []) (hr : Room k X.A) (hg : Gl X x) (hm : X.mg x = some (.ref f)) (hk : PySem.W.keepIn X.K (.ref f) = true) (hb : MB X.K fd ps n [] ss g) (tk : Takes X W) (hio : ∀ i, io = some i → i < ps.length) (ok : SrcOk F.G ss)
    (hdb : (x == ("__debug__" : Str)) = false := by decide) : PE X (.Call (.Name x p) [] [] pos) (TEx F W (eCall n io ft ss aNil)) := by
  refine ⟨fun pins s σ H Q I h => ?_⟩
  have h := tax_nil (tex_callK hb.len hio ok h)
  obtain ⟨l1, l2, q⟩ := tax_nil h
  refine wpAny_Call_Name_kw (ld_glob I hg hm ?_ hdb)
  exact PySem.W.callWith_K0 I.kIn hk (run_mb (ks := []) (us := []) (ws := []) (zs := []) Fn hgd hr hb tk I .nil .nil l1 l2 q)
theorem re_callKW {m : Nat} (Fn : FnG X.prog X.w X.K X.mg X.base k f fd ps (spOf F.G ps.length io ft)) (hgd : X.A.guards = some []) (hr : Room k X.A) (hg : Gl X x) (hm : X.mg x = some (.ref f)) (hk : PySem.W.keepIn X.K (.ref f) = true) (hb : MB X.K fd ps n ks ss g) (tk : Takes X W) (hio : ∀ i, io = some i → i < ps.length) (ok : SrcOk F.G ss)
    (ha : PA X (e :: es) (TAx F W r1)) (hkw : PK X kws (TAx F W r2)) (hall : (backToKw pos (keywordEach kws X.env)).all (·.1.isSome) = true := by rfl) (hks : (backToKw pos (keywordEach kws X.env)).filterMap (·.1) = ks := by rfl)
    (hlm : m = ks.length := by rfl) (hdb : (x == ("__debug__" : Str)) = false := by decide) (he : starEach (e :: es) X.env = (false, eval e X.env) :: starEach es X.env := by rfl)
    (hpl : ((backTo pos (starEach (e :: es) X.env)).any (·.1) || (backToKw pos (keywordEach kws X.env)).any (·.1.isNone)) = false := by rfl) :
    PE X (.Call (.Name x p) (e :: es) kws pos) (TEx F W (eCallK n m io ft ss r1 r2)) := by
  subst hlm
  refine ⟨fun pins s σ H Q I h => ?_⟩
  have h := tex_callK hb.len hio ok h
  refine wpAny_Call_Name_kw (ld_glob I hg hm ?_ hdb)
  refine PySem.W.callWith_KW (h₀ := X.base) I.ok.mod.kin hk hall (thn (ha.run pos pins s σ H _ I h) fun us s1 ⟨vs, H1, I1, r, q⟩ => ?_) hpl he
  refine thn (hkw.run pos pins s1 σ H1 _ I1 q) fun ws s2 ⟨zs, H2, I2, rz, l1, l2, q2⟩ => ⟨I2.kIn, ?_⟩
  rw [hks]
  exact run_mb Fn hgd hr hb tk I2 r rz l1 l2 q2
theorem re_callK0 {m : Nat} (Fn : FnG X.prog X.w X.K X.mg X.base k f fd ps (spOf F.G ps.length io ft)) (hgd : X.A.guards = some []) (hr : Room k X.A) (hg : Gl X x) (hm : X.mg x = some (.ref f)) (hk : PySem.W.keepIn X.K (.ref f) = true) (hb : MB X.K fd ps n ks ss g) (tk : Takes X W) (hio : ∀ i, io = some i → i < ps.length) (ok : SrcOk F.G ss)
    (hkw : PK X kws (TAx F W r2)) (hall : (backToKw pos (keywordEach kws X.env)).all (·.1.isSome) = true := by rfl) (hks : (backToKw pos (keywordEach kws X.env)).filterMap (·.1) = ks := by rfl)
    (hlm : m = ks.length := by rfl) (hdb : (x == ("__debug__" : Str)) = false := by decide)
    (hpl : ((backTo pos (starEach [] X.env)).any (·.1) || (backToKw pos (keywordEach kws X.env)).any (·.1.isNone)) = false := by rfl) :
    PE X (.Call (.Name x p) [] kws pos) (TEx F W (eCallK n m io ft ss aNil r2)) := by
  subst hlm
  refine ⟨fun pins s σ H Q I h => ?_⟩
  have h := tax_nil (tex_callK hb.len hio ok h)
  refine wpAny_Call_Name_kw (ld_glob I hg hm ?_ hdb)
  refine PySem.W.callWith_KW0 (h₀ := X.base) I.ok.mod.kin hk hall (thn (hkw.run pos pins s σ H _ I h) fun ws s2 ⟨zs, H2, I2, rz, l1, l2, q2⟩ => ⟨I2.kIn, ?_⟩) hpl
  rw [hks]
  exact run_mb (us := []) (vs := []) Fn hgd hr hb tk I2 .nil rz l1 l2 q2
theorem takes_false : Takes X WF := fun u s' ⟨a, B, sI, pins, σ, H, cls, d, e, I, nb, up, sky, na, os, ag, w⟩ => w.elim
end
/-! all given in place -/
def argsN (n : Nat) : List Src := (List.range n).map .arg
theorem ok_argsN {G : Gx} {n : Nat} : SrcOk G (argsN n) := fun d v h => by
  unfold argsN at h
  obtain ⟨i, _, e⟩ := List.mem_map.mp h
  cases e
theorem srcV_argsN : ∀ (vs : List V), srcV vs (argsN vs.length) = vs := fun vs => by
  apply List.ext_getElem?
  intro i
  unfold srcV argsN
  rw [List.map_map, List.getElem?_map]
  by_cases h : i < vs.length
  · rw [List.getElem?_range h]
    show some (vs.getD i .non) = _
    rw [List.getD_eq_getElem?_getD, List.getElem?_eq_getElem h]; rfl
  · rw [List.getElem?_eq_none (by simpa using h), List.getElem?_eq_none (by omega)]; rfl
theorem mb_all {K : PySem.W.Frag} {fd : FuncData} {ps : List Str} {n : Nat} (hn : n = ps.length) (hb : Binds K fd ps []) : MB K fd ps n [] (argsN n) (fun us _ => us) where
  to := fun s us ws X l1 l2 => by
    have b := hb s us X (by rw [List.append_nil, l1, hn])
    rw [List.append_nil] at b
    exact b
  rel := fun {vs us zs ws} l1 l2 r1 r2 => by
    have e : zs = [] := List.length_eq_zero_iff.mp l2
    subst e
    rw [List.append_nil]
    subst l1
    rw [srcV_argsN]
    exact r1
  len := by simp [argsN, hn]
end PL
set_option maxHeartbeats 4000000
/-! ### operations: two operands -/
namespace PL
open PySem L2 PySem.Spec PyProof.Rows
def gOr (g h : D → D → Option Pd) : D → D → Option Pd := fun x y => match g x y with
  | some p => some p
  | none => h x y
section
variable {F : Fr0} {r r' : R2} {g g' : D → D → Option Pd}
theorem OpS.or (a : OpS F r g) (b : OpS F r' g') : OpS F (fun x y H Q => r x y H Q ∨ r' x y H Q) (gOr g g') := by
  intro σ ρ H B v w x y p Q s h1 h2 e k
  unfold gOr at e
  cases e1 : g x y with
  | some q => rw [e1] at e; cases e; exact .inl (a σ ρ H B v w x y p Q s h1 h2 e1 k)
  | none => rw [e1] at e; exact .inr (b σ ρ H B v w x y p Q s h1 h2 e k)
def g2I (gd : Int → Int → D) : D → D → Option Pd
  | .int i, .int j => some (.d (gd i j))
  | _, _ => none
def g2IC (C : Int → Int → Bool) (gd : Int → Int → D) : D → D → Option Pd
  | .int i, .int j => if C i j then some (.d (gd i j)) else none
  | _, _ => none
theorem ops_rI0 {f : Int → Int → V} {gd : Int → Int → D} (h : ∀ i j H B, DR F.G H B (gd i j) (f i j)) : OpS F (rI0 f) (g2I gd) := by
  intro σ ρ H B v w x y p Q s h1 h2 e k
  cases x <;> cases y <;> try cases e
  cases h1.int; cases h2.int
  exact ⟨_, _, rfl, rfl, k _ H B (.refl s) (h _ _ H B)⟩
theorem ops_rI {C : Int → Int → Prop} {Cb : Int → Int → Bool} {f : Int → Int → V} {gd : Int → Int → D} (hc : ∀ i j, Cb i j = true → C i j) (h : ∀ i j H B, DR F.G H B (gd i j) (f i j)) : OpS F (rI C f) (g2IC Cb gd) := by
  intro σ ρ H B v w x y p Q s h1 h2 e k
  cases x <;> cases y <;> try cases e
  rename_i i j
  unfold g2IC at e
  simp only at e
  split at e
  · rename_i hb
    cases e
    cases h1.int; cases h2.int
    exact ⟨_, _, rfl, rfl, hc _ _ hb, k _ H B (.refl s) (h _ _ H B)⟩
  · cases e
/-! arithmetic -/
def cDiv (_ j : Int) : Bool := decide (0 < j ∧ j < 1073741824)
def cPos (_ j : Int) : Bool := decide (0 < j)
def cMul (i j : Int) : Bool := decide ((-(2 ^ 64) < i ∧ i < 2 ^ 64) ∨ (-(2 ^ 64) < j ∧ j < 2 ^ 64))
def cPow (i j : Int) : Bool := decide (0 ≤ j ∧ j ≤ 1000000 ∧ i.natAbs < 2 ^ 64)
def gAddI := g2I fun i j => .int (i + j)
def gSub := g2I fun i j => .int (i - j)
def gMulI := g2IC cMul fun i j => .int (i * j)
def gFdiv := g2IC cDiv fun i j => .int (i / j)
def gMod := g2IC cPos fun i j => .int (i % j)
def gPow := g2IC cPow fun i j => .int (i ^ j.toNat)
theorem o_addI : OpS F (rI0 fun i j => .int (i + j)) gAddI := ops_rI0 fun _ _ _ _ => .int _
theorem o_sub : OpS F (rI0 fun i j => .int (i - j)) gSub := ops_rI0 fun _ _ _ _ => .int _
theorem o_mulI : OpS F (rI CMul fun i j => .int (i * j)) gMulI := ops_rI (fun i j h => of_decide_eq_true (p := (-(2 ^ 64) < i ∧ i < 2 ^ 64) ∨ (-(2 ^ 64) < j ∧ j < 2 ^ 64)) h) fun _ _ _ _ => .int _
theorem o_fdiv : OpS F (rI CDiv fun i j => .int (i / j)) gFdiv := ops_rI (fun i j h => of_decide_eq_true (p := 0 < j ∧ j < 1073741824) h) fun _ _ _ _ => .int _
theorem o_mod : OpS F (rI (fun _ j => 0 < j) fun i j => .int (i % j)) gMod := ops_rI (fun _ _ h => of_decide_eq_true h) fun _ _ _ _ => .int _
theorem o_pow : OpS F (rI CPow fun i j => .int (i ^ j.toNat)) gPow := ops_rI (fun i j h => of_decide_eq_true (p := 0 ≤ j ∧ j ≤ 1000000 ∧ i.natAbs < 2 ^ 64) h) fun _ _ _ _ => .int _
/-! order of ints -/
theorem o_lt : OpS F (rI0 fun i j => .bl (decide (i < j))) (g2I fun i j => .bl (decide (i < j))) := ops_rI0 fun _ _ _ _ => .bl _
theorem o_le : OpS F (rI0 fun i j => .bl (decide (i ≤ j))) (g2I fun i j => .bl (decide (i ≤ j))) := ops_rI0 fun _ _ _ _ => .bl _
theorem o_gt : OpS F (rI0 fun i j => .bl (decide (j < i))) (g2I fun i j => .bl (decide (j < i))) := ops_rI0 fun _ _ _ _ => .bl _
theorem o_ge : OpS F (rI0 fun i j => .bl (decide (j ≤ i))) (g2I fun i j => .bl (decide (j ≤ i))) := ops_rI0 fun _ _ _ _ => .bl _
/-! tuples of ints -/
def intsOf : List D → Option (List Int)
  | [] => some []
  | .int i :: ds => match intsOf ds with
    | some ns => some (i :: ns)
    | none => none
  | _ :: _ => none
theorem intsOf_eq : ∀ {ds : List D} {ns : List Int}, intsOf ds = some ns → ds = ns.map D.int
  | [], _, e => by cases e; rfl
  | d :: ds, ns, e => by
    cases d <;> try (cases e)
    rename_i i
    unfold intsOf at e
    cases e1 : intsOf ds with
    | none => simp [e1] at e
    | some ms => simp only [e1] at e; cases e; rw [intsOf_eq e1]; rfl
theorem intsOf_map : ∀ ns : List Int, intsOf (ns.map D.int) = some ns
  | [] => rfl
  | n :: ns => by show (match intsOf (ns.map D.int) with | some ns => some (n :: ns) | none => none) = _; rw [intsOf_map ns]
def gLtT : D → D → Option Pd
  | .tup xs, .tup ys => (match intsOf xs, intsOf ys with
    | some ns, some ms => some (.d (.bl (HT.lexLt ns ms)))
    | _, _ => none)
  | _, _ => none
theorem o_ltT : OpS F (rLtT F.G.K) gLtT := by
  intro σ ρ H B v w x y p Q s h1 h2 e k
  cases x <;> cases y <;> try cases e
  rename_i xs ys
  unfold gLtT at e
  cases e1 : intsOf xs with
  | none => simp [e1] at e
  | some ns =>
    cases e2 : intsOf ys with
    | none => simp [e1, e2] at e
    | some ms =>
      simp only [e1, e2] at e
      cases e
      obtain ⟨a, vs, rfl, q1, d1⟩ := h1.tup
      obtain ⟨b, ws, rfl, q2, d2⟩ := h2.tup
      rw [intsOf_eq e1] at d1
      rw [intsOf_eq e2] at d2
      rw [d1.ints] at q1
      rw [d2.ints] at q2
      exact ⟨a, b, ns, ms, rfl, rfl, q1, q2, k _ H B (.refl s) (.bl _)⟩
/-! + of texts, lists, tuples -/
def gAddS : D → D → Option Pd
  | .str a, .str b => if small (a.length + b.length) then some (.d (.str (a ++ b))) else none
  | _, _ => none
theorem o_addS : OpS F (fun x y H Q => ∃ i j, x = .str i ∧ y = .str j ∧ i.length + j.length ≤ sizeLine ∧ Q (.str (i ++ j)) H) gAddS := by
  intro σ ρ H B v w x y p Q s h1 h2 e k
  cases x <;> cases y <;> try cases e
  unfold gAddS at e
  simp only at e
  split at e
  · rename_i hb
    cases e
    cases h1.str; cases h2.str
    exact ⟨_, _, rfl, rfl, small_ok hb, k _ H B (.refl s) (.str _)⟩
  · cases e
def gAddL : D → D → Option Pd
  | .lst xs, .lst ys => if small (xs.length + ys.length) then some (.f (.lst (xs ++ ys))) else none
  | _, _ => none
theorem o_addL : OpS F rCat gAddL := by
  intro σ ρ H B v w x y p Q s h1 h2 e k
  cases x <;> cases y <;> try cases e
  unfold gAddL at e
  simp only at e
  split at e
  · rename_i hb
    cases e
    obtain ⟨a, vs, rfl, q1, d1⟩ := h1.lst
    obtain ⟨b, ws, rfl, q2, d2⟩ := h2.lst
    refine ⟨a, b, vs, ws, rfl, rfl, q1, q2, by rw [← d1.length, ← d2.length]; exact small_ok hb, fun p hp => ?_⟩
    obtain ⟨st, r⟩ := new_lst s hp (d1.app d2)
    exact k _ _ _ st r
  · cases e
def gAddT : D → D → Option Pd
  | .tup xs, .tup ys => if small (xs.length + ys.length) then some (.d (.tup (xs ++ ys))) else none
  | _, _ => none
theorem TR.toTup {G : Gx} {H : Hp} {B : Addr → Prop} {ds : List D} {v : V} (h : TR G H B (.tup ds) v) : DR G H B (.tup ds) v := by
  rcases h with h | ⟨a, e, h⟩
  · exact h
  · rcases h with ⟨ds', vs, e1, e2, e3⟩ | ⟨_, _, e1, _⟩ | ⟨_, _, e1, _⟩ <;> cases e1
theorem o_addT : OpS F (rCatA F.G.K) gAddT := by
  intro σ ρ H B v w x y p Q s h1 h2 e k
  cases x <;> cases y <;> try cases e
  unfold gAddT at e
  simp only at e
  split at e
  · rename_i hb
    cases e
    obtain ⟨a, vs, rfl, q1, d1⟩ := h1.tup
    obtain ⟨b, ws, rfl, q2, d2⟩ := h2.tup
    refine ⟨a, b, vs, ws, rfl, rfl, q1, q2, by rw [← d1.length, ← d2.length]; exact small_ok hb, fun z => ?_, fun z1 z => ?_, fun z1 z2 p hp => ?_⟩
    · subst z
      cases d1
      exact k _ H B (.refl s) h2.toTup
    · subst z
      cases d2
      refine k _ H B (.refl s) ?_
      rw [List.append_nil]
      exact h1.toTup
    · obtain ⟨st, r⟩ := new_tup s hp (d1.app d2)
      exact k _ _ _ st r
  · cases e
def gAdd : D → D → Option Pd := gOr gAddI (gOr gAddS (gOr gAddL gAddT))
theorem o_add : OpS F (fun x y H Q => (rI0 fun i j => .int (i + j)) x y H Q ∨ ((fun x y H Q => (∃ i j, x = .str i ∧ y = .str j ∧ i.length + j.length ≤ sizeLine ∧ Q (.str (i ++ j)) H) ∨ (rCat x y H Q ∨ rCatA F.G.K x y H Q)) x y H Q)) gAdd :=
  OpS.or o_addI (OpS.or o_addS (OpS.or o_addL o_addT))
theorem opr_add {X : Cx} {K : PySem.W.Frag} (hK : K = X.K) : OpR X (binaryOp .Add) (fun x y H Q => (rI0 fun i j => .int (i + j)) x y H Q ∨ ((fun x y H Q => (∃ i j, x = .str i ∧ y = .str j ∧ i.length + j.length ≤ sizeLine ∧ Q (.str (i ++ j)) H) ∨ (rCat x y H Q ∨ rCatA K x y H Q)) x y H Q)) := by
  subst hK
  exact op_add.or (op_add_str.or (op_cat.or op_catA))
def gLt : D → D → Option Pd := gOr (g2I fun i j => .bl (decide (i < j))) gLtT
theorem o_ltA : OpS F (fun x y H Q => (rI0 fun i j => .bl (decide (i < j))) x y H Q ∨ rLtT F.G.K x y H Q) gLt := OpS.or o_lt o_ltT
theorem opr_lt {X : Cx} {K : PySem.W.Frag} (hK : K = X.K) (hu : X.A.units < cLine) : OpR X (compareOp .Lt) (fun x y H Q => (rI0 fun i j => .bl (decide (i < j))) x y H Q ∨ rLtT K x y H Q) := by
  subst hK
  exact op_lt.or (op_ltT hu)
/-! == and != -/
mutual
def pyD : D → Option PyData
  | .non => some .none
  | .bl b => some (.bool b)
  | .int i => some (.int i)
  | .str s => some (.str s)
  | .lst xs => (pyDs xs).map .list
  | .tup xs => (pyDs xs).map .tuple
  | .st _ => none
  | .dic _ => none
  | .dct _ => none
  | .fn _ _ => none
  | .exc _ _ => none
def pyDs : List D → Option (List PyData)
  | [] => some []
  | d :: ds => match pyD d, pyDs ds with
    | some p, some ps => some (p :: ps)
    | _, _ => none
end
section
variable {G : Gx} {H : Hp} {B : Addr → Prop}
mutual
theorem DR.dp : ∀ (d : D) {v : V} {p : PyData}, DR G H B d v → pyD d = some p → Dp G.K H v p
  | .non, _, _, h, e => by cases h; cases e; exact .non
  | .bl b, _, _, h, e => by cases h; cases e; exact .bl b
  | .int i, _, _, h, e => by cases h; cases e; exact .int i
  | .str s, _, _, h, e => by cases h; cases e; exact .str s
  | .lst ds, _, p, h, e => by
    unfold pyD at e
    cases e1 : pyDs ds with
    | none => simp [e1] at e
    | some ps =>
      rw [e1] at e; cases e
      cases h with
      | lst n r hs => exact .lst (.inl (.inl r)) (DRs.dp ds hs e1)
  | .tup ds, _, p, h, e => by
    unfold pyD at e
    cases e1 : pyDs ds with
    | none => simp [e1] at e
    | some ps =>
      rw [e1] at e; cases e
      cases h with
      | tup r hs => exact .tup (.inl (.inl r)) (DRs.dp ds hs e1)
  | .st _, _, _, _, e => by simp [pyD] at e
  | .dic _, _, _, _, e => by simp [pyD] at e
  | .dct _, _, _, _, e => by simp [pyD] at e
  | .fn _ _, _, _, _, e => by simp [pyD] at e
  | .exc _ _, _, _, _, e => by simp [pyD] at e
theorem DRs.dp : ∀ (ds : List D) {vs : List V} {ps : List PyData}, DRs G H B ds vs → pyDs ds = some ps → DpAll G.K H vs ps
  | [], _, _, h, e => by cases h; simp [pyDs] at e; subst e; exact .nil
  | d :: ds, _, _, h, e => by
    unfold pyDs at e
    cases e1 : pyD d with
    | none => simp [e1] at e
    | some p =>
      cases e2 : pyDs ds with
      | none => simp [e1, e2] at e
      | some ps =>
        simp only [e1, e2] at e; cases e
        cases h with
        | cons h1 h2 => exact .cons (DR.dp d h1 e1) (DRs.dp ds h2 e2)
end
theorem TR.dp {d : D} {v : V} {p : PyData} (h : TR G H B d v) (e : pyD d = some p) : Dp G.K H v p := by
  rcases h with h | ⟨a, ea, h⟩
  · exact DR.dp d h e
  · rcases h with ⟨ds, vs, e1, e2, e3⟩ | ⟨_, _, e1, _⟩ | ⟨_, _, e1, _⟩
    · subst e1 ea
      unfold pyD at e
      cases e1 : pyDs ds with
      | none => simp [e1] at e
      | some ps =>
        rw [e1] at e; cases e
        exact .lst (.inl (.inl e2)) (DRs.dp ds e3 e1)
    · subst e1; simp [pyD] at e
    · subst e1; simp [pyD] at e
end
def eqD (x y : D) : Option Bool := match pyD x, pyD y with
  | some p, some q => if SeqAt.shaped p && SeqAt.shaped q then some (PyData.eqv p q) else none
  | _, _ => none
def gEq : D → D → Option Pd := fun x y => (eqD x y).map fun b => .d (.bl b)
def gNe : D → D → Option Pd := fun x y => (eqD x y).map fun b => .d (.bl !b)
theorem eqD_get {x y : D} {b : Bool} (e : eqD x y = some b) : ∃ p q, pyD x = some p ∧ pyD y = some q ∧ SeqAt.shaped p = true ∧ SeqAt.shaped q = true ∧ b = PyData.eqv p q := by
  unfold eqD at e
  cases e1 : pyD x with
  | none => simp [e1] at e
  | some p =>
    cases e2 : pyD y with
    | none => simp [e1, e2] at e
    | some q =>
      simp only [e1, e2] at e
      split at e
      · rename_i h
        rw [Bool.and_eq_true] at h
        cases e
        exact ⟨p, q, rfl, rfl, h.1, h.2, rfl⟩
      · cases e
theorem o_eq : OpS F (rEqD F.G.K) gEq := by
  intro σ ρ H B v w x y p Q s h1 h2 e k
  obtain ⟨b, eb, rfl⟩ := Option.map_eq_some_iff.mp e
  obtain ⟨d1, d2, e1, e2, s1, s2, rfl⟩ := eqD_get eb
  exact ⟨d1, d2, h1.dp e1, h2.dp e2, s1, s2, k _ H B (.refl s) (.bl _)⟩
theorem o_ne : OpS F (rNeD F.G.K) gNe := by
  intro σ ρ H B v w x y p Q s h1 h2 e k
  obtain ⟨b, eb, rfl⟩ := Option.map_eq_some_iff.mp e
  obtain ⟨d1, d2, e1, e2, s1, s2, rfl⟩ := eqD_get eb
  exact ⟨d1, d2, h1.dp e1, h2.dp e2, s1, s2, k _ H B (.refl s) (.bl _)⟩
/-! `is None` -/
def isNonD : D → Bool
  | .non => true
  | _ => false
def gIsN : D → D → Option Pd
  | x, .non => some (.d (.bl (isNonD x)))
  | _, _ => none
def gNotN : D → D → Option Pd
  | x, .non => some (.d (.bl (!isNonD x)))
  | _, _ => none
theorem TR.nonq {G : Gx} {H : Hp} {B : Addr → Prop} {d : D} {v : V} (h : TR G H B d v) : decide (v = V.non) = isNonD d := by
  rcases h with h | ⟨a, rfl, h⟩
  · cases h <;> simp [isNonD]
  · rcases h with ⟨_, _, rfl, _⟩ | ⟨_, _, rfl, _⟩ | ⟨_, _, rfl, _⟩ <;> simp [isNonD]
theorem o_isN : OpS F (fun x y H Q => y = .non ∧ Q (.bl (decide (x = .non))) H) gIsN := by
  intro σ ρ H B v w x y p Q s h1 h2 e k
  cases y <;> try (simp [gIsN] at e)
  cases h2.non
  refine ⟨rfl, ?_⟩
  rw [h1.nonq]
  subst e
  exact k _ H B (.refl s) (.bl _)
theorem o_notN : OpS F (fun x y H Q => y = .non ∧ Q (.bl (!decide (x = .non))) H) gNotN := by
  intro σ ρ H B v w x y p Q s h1 h2 e k
  cases y <;> try (simp [gNotN] at e)
  cases h2.non
  refine ⟨rfl, ?_⟩
  rw [h1.nonq]
  subst e
  exact k _ H B (.refl s) (.bl _)
end
end PL
set_option maxHeartbeats 4000000
/-! ### subscripts, slices, calls of builtins -/
namespace PL
open PySem L2 PySem.Spec PyProof.Rows
section
variable {F : Fr0}
/-! xs[i] -/
def gIxSeq (xs : List D) (i : Int) : Option Pd := (atI xs i).map .d
def gIxL : D → D → Option Pd
  | .lst xs, .int i => gIxSeq xs i
  | _, _ => none
def gIxT : D → D → Option Pd
  | .tup xs, .int i => gIxSeq xs i
  | _, _ => none
def gIxF : D → D → Option Pd
  | .st xs, .int i => gIxSeq xs i
  | _, _ => none
def gIxS : D → D → Option Pd
  | .str z, .int i => if small z.length then (atI z.cps.toList i).map fun c => .d (.str ⟨#[c]⟩) else none
  | _, _ => none
def gIx : D → D → Option Pd := gOr gIxL (gOr gIxT (gOr gIxF gIxS))
theorem DRs.atI {G : Gx} {H : Hp} {B : Addr → Prop} {ds : List D} {vs : List V} {i : Int} {d : D} (h : DRs G H B ds vs) (e : L2.atI ds i = some d) : ∃ v, L2.atI vs i = some v ∧ DR G H B d v := by
  unfold L2.atI at e ⊢
  rw [← h.length]
  cases e1 : ixN ds.length i with
  | none => rw [e1] at e; cases e
  | some j =>
    rw [e1] at e
    exact h.get e
theorem ixseq {xs : List D} {i : Int} {p : Pd} (e : gIxSeq xs i = some p) : ∃ d, atI xs i = some d ∧ p = .d d := by
  obtain ⟨d, h1, h2⟩ := Option.map_eq_some_iff.mp e
  exact ⟨d, h1, h2.symm⟩
theorem o_ixL : OpS F (rIxL F.G.K) gIxL := by
  intro σ ρ H B v w x y p Q s h1 h2 e k
  cases x <;> cases y <;> try cases e
  obtain ⟨d, e1, rfl⟩ := ixseq e
  obtain ⟨a, vs, rfl, q1, d1⟩ := h1.lst
  cases h2.int
  obtain ⟨u, e2, r⟩ := d1.atI e1
  exact ⟨a, vs, _, u, rfl, rfl, .inl (.inl q1), e2, k _ H B (.refl s) r⟩
theorem o_ixT : OpS F (rIxT F.G.K) gIxT := by
  intro σ ρ H B v w x y p Q s h1 h2 e k
  cases x <;> cases y <;> try cases e
  obtain ⟨d, e1, rfl⟩ := ixseq e
  obtain ⟨a, vs, rfl, q1, d1⟩ := h1.tup
  cases h2.int
  obtain ⟨u, e2, r⟩ := d1.atI e1
  exact ⟨a, vs, _, u, rfl, rfl, q1, e2, k _ H B (.refl s) r⟩
theorem o_ixF : OpS F (rIxL F.G.K) gIxF := by
  intro σ ρ H B v w x y p Q s h1 h2 e k
  cases x <;> cases y <;> try cases e
  obtain ⟨d, e1, rfl⟩ := ixseq e
  obtain ⟨a, vs, rfl, q1, d1⟩ := h1.st
  cases h2.int
  obtain ⟨u, e2, r⟩ := d1.atI e1
  exact ⟨a, vs, _, u, rfl, rfl, q1.l, e2, k _ H B (.refl s) r⟩
theorem o_ixS : OpS F rIxS gIxS := by
  intro σ ρ H B v w x y p Q s h1 h2 e k
  cases x <;> cases y <;> try cases e
  unfold gIxS at e
  simp only at e
  split at e
  · rename_i hz
    obtain ⟨c, e1, rfl⟩ := Option.map_eq_some_iff.mp e
    cases h1.str
    cases h2.int
    exact ⟨_, _, c, rfl, rfl, small_ok hz, e1, k _ H B (.refl s) (.str _)⟩
  · cases e
abbrev rIxA (K : PySem.W.Frag) : R2 := fun x y H Q => rIxL K x y H Q ∨ (rIxT K x y H Q ∨ (rIxL K x y H Q ∨ rIxS x y H Q))
theorem o_ix : OpS F (rIxA F.G.K) gIx := OpS.or o_ixL (OpS.or o_ixT (OpS.or o_ixF o_ixS))
theorem ixr_all {X : Cx} {K : PySem.W.Frag} (hK : K = X.K) : IxR X (rIxA K) := by
  subst hK
  exact ix_list.or (ix_tup.or (ix_list.or ix_str))
end
/-! slices -/
abbrev Ox := Rho → Rs (Option Int)
def TOx (F : Fr0) (W : WX) (t : Ox) : TO := fun σ H Q => ∃ ρ B, SR F H σ ρ B ∧ AftG F W σ ρ H B (fun _ _ _ a b => a = b) Q (t ρ)
def oNone : Ox := fun ρ => .ok none ρ
def oSome (t : Ex) : Ox := fun ρ => (t ρ).bind fun p ρ1 => match p.get ρ1 with
  | some (.int i) => .ok (some i) ρ1
  | _ => .bad
def cutD (xs : List D) (lo hi : Option Int) : List D := (xs.drop (HT.sIx xs.length 0 lo)).take (HT.sIx xs.length xs.length hi - HT.sIx xs.length 0 lo)
def gSl (x : D) (lo hi : Option Int) : Option Pd := match x with
  | .lst xs => some (.f (.lst (cutD xs lo hi)))
  | .tup xs => some (.d (.tup (cutD xs lo hi)))
  | _ => none
def eSl (te : Ex) (lo hi : Ox) : Ex := fun ρ => (te ρ).bind fun p ρ1 => (lo ρ1).bind fun l ρ2 => (hi ρ2).bind fun h ρ3 => match p.get ρ3 with
  | some x => (match gSl x l h with
    | some r => .ok r ρ3
    | none => .bad)
  | none => .bad
section
variable {X : Cx} {F : Fr0} {W : WX} {e a b c : Expr} {pos p2 : Pos} {lo hi : Option Expr}
theorem ro_none : PO X none (TOx F W oNone) := ⟨fun pins s σ H Q I h => po_none.run pins s σ H Q I (by
  obtain ⟨ρ, B, s, h⟩ := h
  exact h none H B (.refl s) rfl)⟩
theorem ro_some {t : Ex} (h : PE X e (TEx F W t)) : PO X (some e) (TOx F W (oSome t)) := ⟨fun pins s σ H Q I h' => (po_some h).run pins s σ H Q I (by
  obtain ⟨ρ, B, s, h⟩ := h'
  refine ⟨ρ, B, s, AftG.imp (AftG.bind h) fun v H1 ⟨ρ1, B1, p, st, rp, h1⟩ => ?_⟩
  cases e1 : p.get ρ1 with
  | none => simp only [e1] at h1; exact h1.elim
  | some x =>
    simp only [e1] at h1
    cases x <;> try exact h1.elim
    rename_i i
    have q := (rp.tr st.sr e1).int
    exact ⟨i, q, h1 _ H1 B1 st rfl⟩)⟩
theorem cutD_ok {G : Gx} {H : Hp} {B : Addr → Prop} {ds : List D} {vs : List V} (h : DRs G H B ds vs) (lo hi : Option Int) : DRs G H B (cutD ds lo hi) (cutV vs lo hi) := by
  unfold cutD cutV
  rw [← h.length]
  exact (h.drop _).take _
theorem cut_whole {xs : List D} {lo hi : Option Int} (h : HT.sIx xs.length 0 lo = 0 ∧ HT.sIx xs.length xs.length hi = xs.length) : cutD xs lo hi = xs := by
  unfold cutD
  rw [h.1, h.2, List.drop_zero, Nat.sub_zero, List.take_length]
theorem re_slice {te : Ex} {tl th : Ox} (hK : F.G.K = X.K) (he : PE X e (TEx F W te)) (hl : PO X lo (TOx F W tl)) (hu : PO X hi (TOx F W th)) : PE X (.Subscript e (.Slice lo hi none p2) pos) (TEx F W (eSl te tl th)) := by
  refine pe_imp (pe_slice (sl_list.or sl_tupA) he hl hu) fun σ H Q h => ?_
  obtain ⟨ρ, B, s, h⟩ := h
  refine ⟨ρ, B, s, AftG.imp (AftG.bind h) fun v H1 ⟨ρ1, B1, p, st, rp, h1⟩ => ?_⟩
  refine ⟨ρ1, B1, st.sr, AftG.imp (AftG.bind (AftG.from_ s st h1)) fun l H2 ⟨ρ2, B2, l', st2, rl, h2⟩ => ?_⟩
  subst rl
  refine ⟨ρ2, B2, st2.sr, AftG.imp (AftG.bind (AftG.from_ st.sr st2 h2)) fun u H3 ⟨ρ3, B3, u', st3, ru, h3⟩ => ?_⟩
  subst ru
  have s3 := st3.sr
  have rp3 := PdR.step st2.sr st3 (PdR.step st.sr st2 rp)
  have hb : ∀ a, H3 a = none → H a = none := fun a n => Stp.dom s st (Stp.dom st.sr st2 (Stp.dom st2.sr st3 n))
  cases e1 : p.get ρ3 with
  | none => simp only [e1] at h3; exact h3.elim
  | some x =>
    simp only [e1] at h3
    have tr := rp3.tr s3 e1
    cases x <;> try exact h3.elim
    · rename_i xs
      obtain ⟨a, vs, rfl, q1, d1⟩ := tr.lst
      refine .inl ⟨a, vs, rfl, .inl (.inl q1), fun p hp => ?_⟩
      obtain ⟨st4, r⟩ := new_lst s3 hp (cutD_ok d1 l' u')
      exact h3 _ _ _ (st3.trans st2.sr st4) (PdR.back hb r)
    · rename_i xs
      obtain ⟨a, vs, rfl, q1, d1⟩ := tr.tup
      rw [hK] at q1
      have hl : xs.length = vs.length := d1.length
      refine .inr ⟨a, vs, rfl, q1, fun z => ?_, fun z p hp => ?_⟩
      · rw [← hl] at z
        refine h3 _ H3 B3 st3 ?_
        show DR F.G H3 B3 (.tup (cutD xs l' u')) _
        rw [cut_whole z]
        exact tr.toTup
      · obtain ⟨st4, r⟩ := new_tup s3 hp (cutD_ok d1 l' u')
        exact h3 _ _ _ (st3.trans st2.sr st4) (PdR.back hb r)
/-! unary minus -/
def gNeg : D → Option Pd
  | .int i => some (.d (.int (-i)))
  | _ => none
theorem u_neg : UnS F (rU fun i => .int (-i)) gNeg := by
  intro σ ρ H B v x p Q s h1 e k
  cases x <;> try cases e
  cases h1.int
  exact ⟨_, rfl, k _ H B (.refl s) (.int _)⟩
/-! a < b < c -/
def eChain (g g' : D → D → Option Pd) (ta tb tc : Ex) : Ex := fun ρ => (ta ρ).bind fun p ρ1 => (tb ρ1).bind fun q ρ2 => match p.get ρ2, q.get ρ2 with
  | some x, some y => (match g x y with
    | some (.d (.bl true)) => (tc ρ2).bind fun r ρ3 => op2 g' q r ρ3
    | some (.d (.bl false)) => .ok (.d (.bl false)) ρ2
    | _ => .bad)
  | _, _ => .bad
theorem tex_chain {r r' : R2} {g g' : D → D → Option Pd} {ta tb tc : Ex} (hg : OpS F r g) (hg' : OpS F r' g') {σ : L2.St} {H : Hp} {Q : VK} (h : TEx F W (eChain g g' ta tb tc) σ H Q) : tChain r r' (TEx F W ta) (TEx F W tb) (TEx F W tc) σ H Q := by
  obtain ⟨ρ, B, s, h⟩ := h
  refine ⟨ρ, B, s, AftG.imp (AftG.bind h) fun v H1 ⟨ρ1, B1, p, st, rp, h1⟩ => ?_⟩
  refine ⟨ρ1, B1, st.sr, AftG.imp (AftG.bind (AftG.from_ s st h1)) fun w H2 ⟨ρ2, B2, q, st2, rq, h2⟩ => ?_⟩
  have rp2 := PdR.step st.sr st2 rp
  have d2 : ∀ a, H2 a = none → H a = none := fun a n => Stp.dom s (st.trans s st2) n
  cases e1 : p.get ρ2 with
  | none => simp only [e1] at h2; exact h2.elim
  | some x =>
    cases e2 : q.get ρ2 with
    | none => simp only [e1, e2] at h2; exact h2.elim
    | some y =>
      simp only [e1, e2] at h2
      cases e3 : g x y with
      | none => simp only [e3] at h2; exact h2.elim
      | some z =>
        have z' : ∃ b, z = .d (.bl b) := by
          cases z with
          | f y => simp only [e3] at h2; exact h2.elim
          | o i => simp only [e3] at h2; exact h2.elim
          | d y => cases y <;> first | exact ⟨_, rfl⟩ | (simp only [e3] at h2; exact h2.elim)
        obtain ⟨b, rfl⟩ := z'
        refine hg σ ρ2 H2 B2 v w x y _ _ st2.sr (rp2.tr st2.sr e1) (rq.tr st2.sr e2) e3 fun u H3 B3 st3 rz => ?_
        have hu : u = .bl b := by cases (rz : DR F.G H3 B3 (.bl b) u); rfl
        subst hu
        refine ⟨b, rfl, ?_⟩
        cases b with
        | false =>
          simp only [e3] at h2
          rw [if_neg Bool.false_ne_true]
          exact h2 _ H3 B3 (st2.trans st.sr st3) rz
        | true =>
          simp only [e3] at h2
          rw [if_pos rfl]
          have h2' := AftG.from_ st.sr (st2.trans st.sr st3) h2
          refine ⟨ρ2, B3, st3.sr, AftG.imp (AftG.bind h2') fun t H4 ⟨ρ4, B4, r4, st4, rr, h4⟩ => ?_⟩
          have rq4 := PdR.step st3.sr st4 (PdR.step st2.sr st3 rq)
          unfold op2 at h4
          cases e5 : q.get ρ4 with
          | none => simp only [e5] at h4; exact h4.elim
          | some x2 =>
            cases e6 : r4.get ρ4 with
            | none => simp only [e5, e6] at h4; exact h4.elim
            | some y2 =>
              simp only [e5, e6] at h4
              cases e7 : g' x2 y2 with
              | none => simp only [e7] at h4; exact h4.elim
              | some z2 =>
                simp only [e7] at h4
                refine hg' σ ρ4 H4 B4 w t x2 y2 z2 Q st4.sr (rq4.tr st4.sr e5) (rr.tr st4.sr e6) e7 fun u H5 B5 st5 rz5 => ?_
                exact h4 u H5 B5 (st4.trans st3.sr st5) (PdR.back (fun a n => d2 a (Stp.dom st2.sr st3 (Stp.dom st3.sr st4 n))) rz5)
theorem re_chain {op op' : CmpOp} {r r' : R2} {g g' : D → D → Option Pd} {ta tb tc : Ex} (ho : OpR X (compareOp op) r) (hg : OpS F r g) (ho' : OpR X (compareOp op') r') (hg' : OpS F r' g') (ha : PE X a (TEx F W ta)) (hb : PE X b (TEx F W tb)) (hc : PE X c (TEx F W tc))
    (hm : lastMarks [op, op'] [b, c] = false := by with_unfolding_all rfl) : PE X (.Compare a [op, op'] [b, c] pos) (TEx F W (eChain g g' ta tb tc)) :=
  pe_imp (pe_chain ho ho' ha hb hc hm) fun _ _ _ h => tex_chain hg hg' h
theorem rt_chain {op op' : CmpOp} {r r' : R2} {g g' : D → D → Option Pd} {ta tb tc : Ex} (ho : OpR X (compareOp op) r) (hg : OpS F r g) (ho' : OpR X (compareOp op') r') (hg' : OpS F r' g') (ha : PE X a (TEx F W ta)) (hb : PE X b (TEx F W tb)) (hc : PE X c (TEx F W tc))
    (hm : lastMarks [op, op'] [b, c] = false := by with_unfolding_all rfl) : PT X (.Compare a [op, op'] [b, c] pos) (TTx F W (tB (eChain g g' ta tb tc))) :=
  pt_imp (pt_chain ho ho' ha hb hc hm) fun _ _ _ h => tex_chain hg hg' (ttx_val h)
end
end PL
set_option maxHeartbeats 4000000
/-! ### calls of builtins -/
namespace PL
open PySem L2 PySem.Spec PyProof.Rows
def cOr (g h : List D → Option Pd) : List D → Option Pd := fun x => match g x with
  | some p => some p
  | none => h x
theorem TRs.one {G : Gx} {H : Hp} {B : Addr → Prop} {d : D} {vs : List V} (h : TRs G H B [d] vs) : ∃ v, vs = [v] ∧ TR G H B d v := by
  cases h with
  | cons h1 h2 => cases h2; exact ⟨_, rfl, h1⟩
theorem TRs.two {G : Gx} {H : Hp} {B : Addr → Prop} {d e : D} {vs : List V} (h : TRs G H B [d, e] vs) : ∃ v w, vs = [v, w] ∧ TR G H B d v ∧ TR G H B e w := by
  cases h with
  | cons h1 h2 =>
    obtain ⟨w, rfl, h3⟩ := h2.one
    exact ⟨_, w, rfl, h1, h3⟩
section
variable {F : Fr0}
theorem CallS.or {r r' : List V → Hp → VK → Prop} {g g' : List D → Option Pd} (a : CallS F r g) (b : CallS F r' g') : CallS F (fun xs H Q => r xs H Q ∨ r' xs H Q) (cOr g g') := by
  intro σ ρ H B vs ds p Q s h1 e k
  unfold cOr at e
  cases e1 : g ds with
  | some q => rw [e1] at e; cases e; exact .inl (a σ ρ H B vs ds p Q s h1 e1 k)
  | none => rw [e1] at e; exact .inr (b σ ρ H B vs ds p Q s h1 e k)
/-! len -/
def cLen : List D → Option Pd
  | [.str z] => if small z.length then some (.d (.int z.length)) else none
  | [.lst xs] => some (.d (.int xs.length))
  | [.tup xs] => some (.d (.int xs.length))
  | [.st xs] => some (.d (.int xs.length))
  | _ => none
theorem c_len : CallS F (fun xs H Q => ∃ x n, xs = [x] ∧ LenV F.G.K x H n ∧ Q (.int n) H) cLen := by
  intro σ ρ H B vs ds p Q s h1 e k
  cases ds with
  | nil => cases e
  | cons x ds =>
    cases ds with
    | cons y ds => cases x <;> cases e
    | nil =>
      obtain ⟨v, rfl, t⟩ := h1.one
      cases x <;> try cases e
      · rename_i z
        unfold cLen at e
        simp only at e
        split at e
        · rename_i hz
          cases e
          cases t.str
          exact ⟨_, z.length, rfl, ⟨small_ok hz, rfl⟩, k _ H B (.refl s) (.int _)⟩
        · cases e
      · rename_i xs
        obtain ⟨a, us, rfl, q1, d1⟩ := t.lst
        exact ⟨_, us.length, rfl, .inl ⟨us, .inl (.inl q1), rfl⟩, by rw [← d1.length]; exact k _ H B (.refl s) (.int _)⟩
      · rename_i xs
        obtain ⟨a, us, rfl, q1, d1⟩ := t.tup
        exact ⟨_, us.length, rfl, .inr ⟨us, q1, rfl⟩, by rw [← d1.length]; exact k _ H B (.refl s) (.int _)⟩
      · rename_i xs
        obtain ⟨a, us, rfl, q1, d1⟩ := t.st
        exact ⟨_, us.length, rfl, .inl ⟨us, q1.l, rfl⟩, by rw [← d1.length]; exact k _ H B (.refl s) (.int _)⟩
/-! abs, max, min of two, int, str, divmod -/
def cAbs : List D → Option Pd
  | [.int i] => some (.d (.int (if i < 0 then -i else i)))
  | _ => none
theorem c_abs : CallS F (fun xs H Q => ∃ i, xs = [.int i] ∧ Q (.int (if i < 0 then -i else i)) H) cAbs := by
  intro σ ρ H B vs ds p Q s h1 e k
  unfold cAbs at e
  split at e <;> cases e
  obtain ⟨v, rfl, t⟩ := h1.one
  cases t.int
  exact ⟨_, rfl, k _ H B (.refl s) (.int _)⟩
def cMax2 : List D → Option Pd
  | [.int i, .int j] => some (.d (.int (if j > i then j else i)))
  | _ => none
theorem c_max2 : CallS F (fun xs H Q => ∃ i j, xs = [.int i, .int j] ∧ Q (.int (if j > i then j else i)) H) cMax2 := by
  intro σ ρ H B vs ds p Q s h1 e k
  unfold cMax2 at e
  split at e <;> cases e
  obtain ⟨v, w, rfl, t, u⟩ := h1.two
  cases t.int; cases u.int
  exact ⟨_, _, rfl, k _ H B (.refl s) (.int _)⟩
def cMin2 : List D → Option Pd
  | [.int i, .int j] => some (.d (.int (if j < i then j else i)))
  | _ => none
theorem c_min2 : CallS F (fun xs H Q => ∃ i j, xs = [.int i, .int j] ∧ Q (.int (if j < i then j else i)) H) cMin2 := by
  intro σ ρ H B vs ds p Q s h1 e k
  unfold cMin2 at e
  split at e <;> cases e
  obtain ⟨v, w, rfl, t, u⟩ := h1.two
  cases t.int; cases u.int
  exact ⟨_, _, rfl, k _ H B (.refl s) (.int _)⟩
def cInt : List D → Option Pd
  | [.int i] => some (.d (.int i))
  | [.bl b] => some (.d (.int (if b then 1 else 0)))
  | _ => none
theorem c_int : CallS F (fun xs H Q => (∃ i, xs = [.int i] ∧ Q (.int i) H) ∨ ∃ k, xs = [.bl k] ∧ Q (.int (if k then 1 else 0)) H) cInt := by
  intro σ ρ H B vs ds p Q s h1 e k
  unfold cInt at e
  split at e <;> cases e
  · obtain ⟨v, rfl, t⟩ := h1.one
    cases t.int
    exact .inl ⟨_, rfl, k _ H B (.refl s) (.int _)⟩
  · obtain ⟨v, rfl, t⟩ := h1.one
    cases t.bl
    exact .inr ⟨_, rfl, k _ H B (.refl s) (.int _)⟩
def cStr : List D → Option Pd
  | [.int i] => if decide (i.natAbs.log2 < 1920) then some (.d (.str (toString i))) else none
  | _ => none
theorem c_str : CallS F (fun xs H Q => ∃ i, xs = [.int i] ∧ i.natAbs.log2 < 1920 ∧ Q (.str (toString i)) H) cStr := by
  intro σ ρ H B vs ds p Q s h1 e k
  unfold cStr at e
  split at e <;> try cases e
  rename_i i
  split at e
  · rename_i hb
    cases e
    obtain ⟨v, rfl, t⟩ := h1.one
    cases t.int
    exact ⟨_, rfl, of_decide_eq_true hb, k _ H B (.refl s) (.str _)⟩
  · cases e
def cDivmod : List D → Option Pd
  | [.int i, .int j] => if cDiv i j then some (.d (.tup [.int (i / j), .int (i % j)])) else none
  | _ => none
theorem c_divmod : CallS F (fun xs H Q => ∃ i j, xs = [.int i, .int j] ∧ CDiv i j ∧ ∀ p, H p = none → Q (.ref p) (upd H p (.tup [.int (i / j), .int (i % j)]))) cDivmod := by
  intro σ ρ H B vs ds p Q s h1 e k
  unfold cDivmod at e
  split at e <;> try cases e
  rename_i i j
  split at e
  · rename_i hb
    cases e
    obtain ⟨v, w, rfl, t, u⟩ := h1.two
    cases t.int; cases u.int
    refine ⟨i, j, rfl, of_decide_eq_true (p := 0 < j ∧ j < 1073741824) hb, fun p hp => ?_⟩
    obtain ⟨st, r⟩ := new_tup s hp (ds := [.int (i / j), .int (i % j)]) (vs := [.int (i / j), .int (i % j)]) (.cons (.int _) (.cons (.int _) .nil))
    exact k _ _ _ st r
  · cases e
/-! list(xs), tuple(xs) -/
def cList : List D → Option Pd
  | [.lst xs] => some (.f (.lst xs))
  | [.tup xs] => some (.f (.lst xs))
  | _ => none
theorem c_list : CallS F (fun xs H Q => ∃ p ys, xs = [.ref p] ∧ (SqL F.G.K H p ys ∨ SqT F.G.K H p ys) ∧ ∀ l, H l = none → Q (.ref l) (upd H l (.lst ys))) cList := by
  intro σ ρ H B vs ds p Q s h1 e k
  unfold cList at e
  split at e <;> cases e
  · obtain ⟨v, rfl, t⟩ := h1.one
    obtain ⟨a, us, rfl, q1, d1⟩ := t.lst
    refine ⟨a, us, rfl, .inl (.inl (.inl q1)), fun p hp => ?_⟩
    obtain ⟨st, r⟩ := new_lst s hp d1
    exact k _ _ _ st r
  · obtain ⟨v, rfl, t⟩ := h1.one
    obtain ⟨a, us, rfl, q1, d1⟩ := t.tup
    refine ⟨a, us, rfl, .inr q1, fun p hp => ?_⟩
    obtain ⟨st, r⟩ := new_lst s hp d1
    exact k _ _ _ st r
def cTuple : List D → Option Pd
  | [.lst xs] => some (.d (.tup xs))
  | [.tup xs] => some (.d (.tup xs))
  | _ => none
theorem c_tuple : CallS F (fun xs H Q => ∃ p ys, xs = [.ref p] ∧ ((SqL F.G.K H p ys ∧ ∀ l, H l = none → Q (.ref l) (upd H l (.tup ys))) ∨ (SqT F.G.K H p ys ∧ Q (.ref p) H))) cTuple := by
  intro σ ρ H B vs ds p Q s h1 e k
  unfold cTuple at e
  split at e <;> cases e
  · obtain ⟨v, rfl, t⟩ := h1.one
    obtain ⟨a, us, rfl, q1, d1⟩ := t.lst
    refine ⟨a, us, rfl, .inl ⟨.inl (.inl q1), fun p hp => ?_⟩⟩
    obtain ⟨st, r⟩ := new_tup s hp d1
    exact k _ _ _ st r
  · obtain ⟨v, rfl, t⟩ := h1.one
    obtain ⟨a, us, rfl, q1, d1⟩ := t.tup
    exact ⟨a, us, rfl, .inr ⟨q1, k _ H B (.refl s) t.toTup⟩⟩
/-! all, any of a list of bools; sum, max, min of a list of ints -/
def blsOf : List D → Option (List Bool)
  | [] => some []
  | .bl i :: ds => match blsOf ds with
    | some ns => some (i :: ns)
    | none => none
  | _ :: _ => none
theorem blsOf_eq : ∀ {ds : List D} {ns : List Bool}, blsOf ds = some ns → ds = ns.map D.bl
  | [], _, e => by cases e; rfl
  | d :: ds, ns, e => by
    cases d <;> try (cases e)
    rename_i i
    unfold blsOf at e
    cases e1 : blsOf ds with
    | none => simp [e1] at e
    | some ms => simp only [e1] at e; cases e; rw [blsOf_eq e1]; rfl
theorem blsOf_map : ∀ ns : List Bool, blsOf (ns.map D.bl) = some ns
  | [] => rfl
  | n :: ns => by show (match blsOf (ns.map D.bl) with | some ns => some (n :: ns) | none => none) = _; rw [blsOf_map ns]
theorem DRs.bls {G : Gx} {H : Hp} {B : Addr → Prop} : ∀ {ns : List Bool} {vs : List V}, DRs G H B (ns.map D.bl) vs → vs = ns.map V.bl
  | [], _, h => by cases h; rfl
  | n :: ns, _, h => by
    cases h with
    | cons h1 h2 => cases h1; rw [DRs.bls h2]; rfl
def cBools (f : List Bool → Bool) : List D → Option Pd
  | [.lst xs] => (match blsOf xs with
    | some bs => some (.d (.bl (f bs)))
    | none => none)
  | _ => none
theorem c_bools {f : List Bool → Bool} : CallS F (fun vs H Q => ∃ (a : Addr) (bs : List Bool), vs = [V.ref a] ∧ SqL F.G.K H a (bs.map V.bl) ∧ Q (.bl (f bs)) H) (cBools f) := by
  intro σ ρ H B vs ds p Q s h1 e k
  unfold cBools at e
  split at e <;> try cases e
  rename_i xs
  cases e1 : blsOf xs with
  | none => simp [e1] at e
  | some bs =>
    simp only [e1] at e
    cases e
    obtain ⟨v, rfl, t⟩ := h1.one
    rw [blsOf_eq e1] at t
    obtain ⟨a, us, rfl, q1, d1⟩ := t.lst
    rw [d1.bls] at q1
    exact ⟨a, bs, rfl, .inl (.inl q1), k _ H B (.refl s) (.bl _)⟩
def cAll := cBools fun bs => bs.all id
def cAny := cBools fun bs => bs.any id
def cInts (f : List Int → Option Int) : List D → Option Pd
  | [.lst xs] => (match intsOf xs with
    | some ns => (match f ns with
      | some m => some (.d (.int m))
      | none => none)
    | none => none)
  | _ => none
theorem cInts_get {f : List Int → Option Int} {ds : List D} {p : Pd} (e : cInts f ds = some p) : ∃ ns m, ds = [.lst (ns.map .int)] ∧ f ns = some m ∧ p = .d (.int m) := by
  unfold cInts at e
  split at e <;> try cases e
  rename_i xs
  cases e1 : intsOf xs with
  | none => simp [e1] at e
  | some ns =>
    simp only [e1] at e
    cases e2 : f ns with
    | none => simp [e2] at e
    | some m =>
      simp only [e2] at e
      cases e
      exact ⟨ns, m, by rw [intsOf_eq e1], e2, rfl⟩
theorem TRs.ints {G : Gx} {H : Hp} {B : Addr → Prop} {ns : List Int} {vs : List V} (h : TRs G H B [.lst (ns.map .int)] vs) : ∃ a, vs = [.ref a] ∧ H a = some (.lst (ns.map V.int)) := by
  obtain ⟨v, rfl, t⟩ := h.one
  obtain ⟨a, us, rfl, q1, d1⟩ := t.lst
  rw [d1.ints] at q1
  exact ⟨a, rfl, q1⟩
def cSum := cInts fun ns => some ns.sum
theorem c_sum : CallS F (rSum F.G.K) cSum := by
  intro σ ρ H B vs ds p Q s h1 e k
  obtain ⟨ns, m, rfl, e2, rfl⟩ := cInts_get e
  cases e2
  obtain ⟨a, rfl, q1⟩ := h1.ints
  exact ⟨a, ns, rfl, .inl (.inl q1), k _ H B (.refl s) (.int _)⟩
def cMaxL := cInts fun ns => ns.max?
def cMinL := cInts fun ns => ns.min?
theorem c_maxL : CallS F (rMax F.G.K) cMaxL := by
  intro σ ρ H B vs ds p Q s h1 e k
  obtain ⟨ns, m, rfl, e2, rfl⟩ := cInts_get e
  obtain ⟨a, rfl, q1⟩ := h1.ints
  have h := List.max?_eq_some_iff.mp e2
  refine ⟨a, ns, rfl, .inl (.inl q1), List.length_pos_of_mem h.1, fun m' h1 h2 => ?_⟩
  have : m' = m := Int.le_antisymm (h.2 m' h1) (h2 m h.1)
  subst this
  exact k _ H B (.refl s) (.int _)
theorem c_minL : CallS F (rMin F.G.K) cMinL := by
  intro σ ρ H B vs ds p Q s h1 e k
  obtain ⟨ns, m, rfl, e2, rfl⟩ := cInts_get e
  obtain ⟨a, rfl, q1⟩ := h1.ints
  have h := List.min?_eq_some_iff.mp e2
  refine ⟨a, ns, rfl, .inl (.inl q1), List.length_pos_of_mem h.1, fun m' h1 h2 => ?_⟩
  have : m' = m := Int.le_antisymm (h2 m h.1) (h.2 m' h1)
  subst this
  exact k _ H B (.refl s) (.int _)
/-! sorted(xs), ints -/
def sortI (ns : List Int) : List Int := ns.mergeSort fun a b => decide (a ≤ b)
theorem sortI_perm (ns : List Int) : (sortI ns).Perm ns := List.mergeSort_perm ns _
theorem sortI_le (ns : List Int) : (sortI ns).Pairwise (· ≤ ·) := by
  have h := List.pairwise_mergeSort (le := fun a b : Int => decide (a ≤ b)) (fun a b c h1 h2 => by simp at *; omega) (fun a b => by simp; omega) ns
  exact h.imp fun h => by simpa using h
theorem perm_sorted_eq {α : Type} {r : α → α → Prop} : ∀ {l m : List α}, (∀ x ∈ l, ∀ y ∈ l, r x y → r y x → x = y) → l.Perm m → l.Pairwise r → m.Pairwise r → l = m
  | [], m, _, p, _, _ => (List.Perm.nil_eq p).symm ▸ rfl
  | x :: l, [], _, p, _, _ => absurd p.length_eq (by simp)
  | x :: l, y :: m, anti, p, h1, h2 => by
    have hx : x ∈ y :: m := p.mem_iff.mp List.mem_cons_self
    have hy : y ∈ x :: l := p.mem_iff.mpr List.mem_cons_self
    have e : x = y := by
      rcases List.mem_cons.mp hx with e | hx'
      · exact e
      · rcases List.mem_cons.mp hy with e | hy'
        · exact e.symm
        · exact anti x List.mem_cons_self y hy ((List.pairwise_cons.mp h1).1 y hy') ((List.pairwise_cons.mp h2).1 x hx')
    subst e
    rw [perm_sorted_eq (fun a ha b hb => anti a (List.mem_cons_of_mem _ ha) b (List.mem_cons_of_mem _ hb)) (List.Perm.cons_inv p) (List.pairwise_cons.mp h1).2 (List.pairwise_cons.mp h2).2]
theorem sortI_eq {ns ms : List Int} (p : ms.Perm ns) (h : ms.Pairwise (· ≤ ·)) : ms = sortI ns :=
  perm_sorted_eq (fun x _ y _ a b => Int.le_antisymm a b) (p.trans (sortI_perm ns).symm) h (sortI_le ns)
def cSortI : List D → Option Pd
  | [.lst xs] => (match intsOf xs with
    | some ns => some (.f (.lst ((sortI ns).map .int)))
    | none => none)
  | _ => none
theorem c_sortI : CallS F (rSortedI F.G.K) cSortI := by
  intro σ ρ H B vs ds p Q s h1 e k
  unfold cSortI at e
  split at e <;> try cases e
  rename_i xs
  cases e1 : intsOf xs with
  | none => simp [e1] at e
  | some ns =>
    simp only [e1] at e
    cases e
    rw [intsOf_eq e1] at h1
    obtain ⟨a, rfl, q1⟩ := h1.ints
    refine ⟨a, ns, rfl, .inl (.inl q1), fun ns' p h2 h3 hp => ?_⟩
    obtain ⟨st, r⟩ := new_lst s hp (DRs.ofInts ns')
    rw [sortI_eq h2 h3] at st r ⊢
    exact k _ _ _ st r
end
end PL
set_option maxHeartbeats 4000000
/-! ### isinstance, list(range), repr, methods -/
namespace PL
open PySem L2 PySem.Spec PyProof.Rows
def tyD : D → Option String
  | .non => some "NoneType"
  | .bl _ => some "bool"
  | .int _ => some "int"
  | .str _ => some "str"
  | .lst _ => some "list"
  | .tup _ => some "tuple"
  | .dic _ => some "dict"
  | .dct _ => some "dict"
  | .st _ => some "list"
  | _ => none
def tysA : List String := ["NoneType", "bool", "int", "str", "list", "tuple", "dict"]
def tysB : List String := ["bool", "int", "str", "list", "tuple", "dict"]
def isB (a T : String) : Bool := a == T || (a == "bool" && T == "int")
theorem kit_tab : ∀ a ∈ tysA, ∀ T ∈ tysB, kitB a T = some (isB a T) := by decide +kernel
theorem tyD_mem {d : D} {a : String} (h : tyD d = some a) : a ∈ tysA := by
  cases d <;> simp [tyD] at h <;> subst h <;> decide
theorem tyD_ok {G : Gx} {H : Hp} {B : Addr → Prop} {d : D} {v : V} {a : String} (h : TR G H B d v) (e : tyD d = some a) : TyX G.K H v (.type a) := by
  cases d <;> simp [tyD] at e <;> subst e
  · cases h.non; exact .base .non
  · cases h.bl; exact .base (.bl _)
  · cases h.int; exact .base (.int _)
  · cases h.str; exact .base (.str _)
  · obtain ⟨a, vs, rfl, q, _⟩ := h.lst
    exact .base (.lst q)
  · obtain ⟨a, vs, rfl, q, _⟩ := h.tup
    rcases q with (q | ⟨o, q⟩) | ⟨o, its, n, q, c, _⟩
    · exact .base (.tup q)
    · exact .fTuple q
    · exact .kTuple q c
  · rcases h with h | ⟨a, rfl, h⟩
    · cases h with
      | dicK n r e hs => exact .base (.dK r)
    · rcases h with ⟨_, _, e, _⟩ | ⟨_, _, e, h, _⟩ | ⟨_, _, e, h, _⟩
      · cases e
      · exact .base (.dK h)
      · cases e
  · rcases h with h | ⟨a, rfl, h⟩
    · cases h with
      | dicT n r e hs => exact .base (.dT r)
    · rcases h with ⟨_, _, e, _⟩ | ⟨_, _, e, h, _⟩ | ⟨_, _, e, h, _⟩
      · cases e
      · cases e
      · exact .base (.dT h)
  · obtain ⟨a, vs, rfl, q, _⟩ := h.st
    rcases q with ⟨o, q⟩ | ⟨o, its, n, q, c, _⟩
    · exact .base (.frz q)
    · exact .kList q c
def gIsi (T : String) (d : D) : Option Pd := match tyD d with
  | some a => if T ∈ tysB then some (.d (.bl (isB a T))) else none
  | none => none
def gIsiT (Ts : List String) (d : D) : Option Pd := match tyD d with
  | some a => if Ts.all (· ∈ tysB) then some (.d (.bl (Ts.any fun T => isB a T))) else none
  | none => none
section
variable {X : Cx} {F : Fr0} {W : WX} {e a b c : Expr} {es : List Expr} {pos : Pos}
theorem bb_int : bootBuiltins "int" = some (.type "int") := by decide +kernel
theorem bb_bool : bootBuiltins "bool" = some (.type "bool") := by decide +kernel
theorem bb_str : bootBuiltins "str" = some (.type "str") := by decide +kernel
theorem bb_list : bootBuiltins "list" = some (.type "list") := by decide +kernel
theorem bb_tuple : bootBuiltins "tuple" = some (.type "tuple") := by decide +kernel
theorem bb_dict : bootBuiltins "dict" = some (.type "dict") := by decide +kernel
theorem bb_isinstance : bootBuiltins "isinstance" = some (.builtin "isinstance") := by decide +kernel
theorem bb_repr : bootBuiltins "repr" = some (.builtin "repr") := by decide +kernel
theorem bb_len : bootBuiltins "len" = some (.builtin "len") := by decide +kernel
theorem bb_abs : bootBuiltins "abs" = some (.builtin "abs") := by decide +kernel
theorem bb_max : bootBuiltins "max" = some (.builtin "max") := by decide +kernel
theorem bb_min : bootBuiltins "min" = some (.builtin "min") := by decide +kernel
theorem bb_sum : bootBuiltins "sum" = some (.builtin "sum") := by decide +kernel
theorem bb_all : bootBuiltins "all" = some (.builtin "all") := by decide +kernel
theorem bb_any : bootBuiltins "any" = some (.builtin "any") := by decide +kernel
theorem bb_sorted : bootBuiltins "sorted" = some (.builtin "sorted") := by decide +kernel
theorem bb_divmod : bootBuiltins "divmod" = some (.builtin "divmod") := by decide +kernel
theorem bb_set : bootBuiltins "set" = some (.type "set") := by decide +kernel
theorem re_isi {x : Str} {T : String} {p p1 : Pos} {t : Ex} (hK : F.G.K = X.K) (hg : Gl X "isinstance") (hm : X.mg "isinstance" = none) (hg2 : Gl X x) (hm2 : X.mg x = none) (hv : bootBuiltins x = some (.type T)) (ha : PE X a (TEx F W t))
    (hn : x ≠ "__name__" := by decide) (hdb : (x == ("__debug__" : Str)) = false := by decide) (he : starEach (a :: [.Name x p1]) X.env = (false, eval a X.env) :: starEach [.Name x p1] X.env := by rfl) (hs : starEach [.Name x p1] X.env = (false, eval (.Name x p1) X.env) :: starEach [] X.env := by rfl) (hpl : (backTo pos (starEach [.Name x p1] X.env)).any (·.1) = false := by rfl) :
    PE X (.Call (.Name "isinstance" p) [a, .Name x p1] [] pos) (TEx F W (eUn (gIsi T) t)) := by
  refine pe_imp (pe_callB call_isi hg hm bb_isinstance (pa_cons ha (pa_cons (pe_bltn (v := .ty T) hg2 hm2 hv rfl hn hdb) pa_nil hs) he) (by decide) (by decide) he hpl) fun σ H Q h => ?_
  obtain ⟨ρ, B, s, h⟩ := h
  refine ⟨ρ, B, s, AftG.imp (AftG.bind h) fun v H1 ⟨ρ1, B1, p, st, rp, h1⟩ => ?_⟩
  unfold op1 at h1
  cases e1 : p.get ρ1 with
  | none => simp only [e1] at h1; exact h1.elim
  | some x =>
    simp only [e1] at h1
    cases e2 : gIsi T x with
    | none => simp only [e2] at h1; exact h1.elim
    | some r =>
      simp only [e2] at h1
      unfold gIsi at e2
      cases e3 : tyD x with
      | none => simp [e3] at e2
      | some a =>
        simp only [e3] at e2
        split at e2
        · rename_i hT
          cases e2
          have ty := tyD_ok (rp.tr st.sr e1) e3
          rw [hK] at ty
          exact ⟨v, .ty T, .type a, .type T, isB a T, rfl, .ty T, ty, kit_ty (kit_tab a (tyD_mem e3) T hT), h1 _ H1 B1 st (.bl _)⟩
        · cases e2
/-! list(range(..)) -/
def eLRg (r : Rho → Rs (List Ag)) : Ex := fun ρ => (r ρ).bind fun as ρ1 => match as with
  | [.d (.int j)] => if inLine j && small j.toNat then .ok (.f (.lst (rngD 0 j.toNat))) ρ1 else .bad
  | [.d (.int i), .d (.int j)] => if inLine i && inLine j && small (j - i).toNat then .ok (.f (.lst (rngD i (j - i).toNat))) ρ1 else .bad
  | _ => .bad
end
end PL
set_option maxHeartbeats 4000000
/-! ### set(t), t a tuple of tuples of ints -/
namespace PL
open PySem L2 PySem.Spec PyProof.Rows
section
variable {P : Program} {w : World} {A : Around} {E : Value → Shared → Prop} {s : Shared}
abbrev ob0 (w : World) : Obj := { cls := .type "set", dict := none, data := .set #[] 0 (.fresh 0 0 (!w.params.followText "set-order")) }
theorem set_of_tuple {l : Addr} {items : Array Value} (ks : List (Addr × List Int)) {Q : Value → Shared → Prop} (hh : A.handled = none) (hl : s.heap.IsTuple l items) (hit : items.toList = ks.map fun p => Value.ref p.1)
    (hk : ∀ p ∈ ks, IsT P w s.heap p.2 p.1) (hfew : ks.length < 64) (hu : A.units + 3 < cLine)
    (h : ∀ (h' : Heap) (tk : Nat) L es ep t, SetTR P w h' s.heap.objs.size L es ep t → Got ks ks.length L → (∀ b o, s.heap.get? b = some o → h'.get? b = some o) → Q (.ref s.heap.objs.size) { s with heap := h', toks := tk }) :
    wpAny (model P w) A (call (.type "set") [.ref l]) Q E s := by
  have hisz : items.size = ks.length := by
    have q := congrArg List.length hit
    rw [Array.length_toList, List.length_map] at q
    exact q
  obtain ⟨c, tl, hmro⟩ := F.called_set.mro
  have hmade := F.called_set.made
  have hsub := F.called_set.sub
  refine wpAny_call (codeAny_of_tree ?_)
  show wpAny _ _ (callAny (.type "set") _) _ _ _
  refine wpAny_pure ⟨Code.quiet_builtin _ (by decide +kernel), codeAny_builtin F.entry_type_call ?_⟩
  rw [Around.under_plain (weight_type_call_type "set" [.ref l] []) rfl]
  have h1 := F.called_set.notType
  have h2 := F.called_set.canCreate
  have hct := F.typeCall_set_1 (.ref l)
  repeat (any_goals (first | assumption | wp_step))
  refine codeAny_mono (code_set_led1 (.ref l) (E := E) (Q₁ := fun obj s₁ => obj = .ref s.heap.objs.size ∧ s₁ = { s with heap := s.heap.push (ob0 w) }) ⟨rfl, rfl⟩) fun r s₁ hr => ?_
  cases r with
  | error e => exact hr
  | ok fl =>
    cases fl with
    | ret obj =>
      obtain ⟨rfl, rfl⟩ := hr
      have hS : (s.heap.push (ob0 w)).get? s.heap.objs.size = some (ob0 w) := Heap.get?_push_size _ rfl
      have hT : Shared.TypeIs { s with heap := s.heap.push (ob0 w) } (.ref s.heap.objs.size) "set" := ⟨_, hS, rfl⟩
      have hli := F.called_set.init.lookup
      have hbi := F.called_set.init.bind (.ref s.heap.objs.size)
      repeat (any_goals (first | assumption | wp_step))
      refine codeAny_mono (codeAny_call_builtin (R := wants (fun r s₂ => r = .none ∧ ∃ h' tk L es ep t, s₂ = { s with heap := h', toks := tk } ∧ SetTR P w h' s.heap.objs.size L es ep t ∧ Got ks ks.length L ∧
          (∀ b o, s.heap.get? b = some o → h'.get? b = some o)) E) F.called_set.init.plain F.entry_set_init (check_set_init_1 hT ?_)) fun r₂ s₂ hr₂ => ?_
      · obtain ⟨ol, hol, hcl, nl, hdl⟩ := hl
        obtain ⟨ocls, odict, odata, oslots⟩ := ol
        simp only at hcl hdl
        subst hcl; subst hdl
        have hol' : (s.heap.push (ob0 w)).get? l = some { cls := .type "tuple", dict := odict, data := .seq items nl, slots := oslots } := Heap.get?_push_of_some _ hol
        have hsls := F.sub_tuple_set
        have hslf := F.sub_tuple_frozenset
        have hne : (Value.type "tuple" == Value.type "dict") = false := by decide
        have hl1 : (s.heap.push (ob0 w)).IsTuple l items := ⟨_, hol', rfl, nl, rfl⟩
        unfold Builtin.«set.__init__» noKeywords Builtin.Frozenset.updateFrom
        generalize hPI : pyIter = PI
        wp_walk
        subst hPI
        refine wpAny_pyIter_tuple hl1 ?_
        refine wpAny_bind (wpAny_runValue ?_)
        have hlS : l < s.heap.objs.size := Heap.lt_size hol
        have hh3 : A.in1.in1.in1.handled = none := by simp [hh]
        have hz1 : (s.heap.push (ob0 w)).objs.size = s.heap.objs.size + 1 := Heap.size_push ..
        have hneI : l ≠ (s.heap.push (ob0 w)).objs.size := by
          rw [Heap.size_push]; exact Nat.ne_of_lt (Nat.lt_succ_of_lt hlS)
        have hSf : s.heap.objs.size ∉ [(s.heap.push (ob0 w)).objs.size, l] := by
          rw [Heap.size_push]; simp only [List.mem_cons, List.mem_singleton, List.not_mem_nil, or_false, not_or]
          exact ⟨Nat.ne_of_lt (Nat.lt_succ_self _), Nat.ne_of_gt hlS⟩
        have hval : ∀ (i : Nat) (v : Value), items[i]? = some v → ∃ p, ks[i]? = some p ∧ v = .ref p.1 := fun i v hv => by
          have q : items.toList[i]? = some v := by rw [Array.getElem?_toList]; exact hv
          rw [hit, List.getElem?_map] at q
          cases hq : ks[i]? with
          | none => rw [hq] at q; cases q
          | some p =>
            rw [hq] at q
            exact ⟨p, rfl, (Option.some.inj q).symm⟩
        have none_of : ∀ b, s.heap.objs.size ≤ b → s.heap.get? b = none := fun b hb => by
          cases q : s.heap.get? b with
          | none => rfl
          | some o => exact absurd (Nat.lt_of_lt_of_le (Heap.lt_size q) hb) (Nat.lt_irrefl _)
        refine set_update_tups ((Walks.tuple hh3 _ l hneI items).toS) s.heap.objs.size
          hSf ks hisz hfew hval s.heap hk (none_of _ (Nat.le_refl _)) (fun b hb => none_of b (by
            rw [List.mem_singleton.mp hb, Heap.size_push]
            exact Nat.le_succ _)) hu (items.size - 0) 0 _ (by omega) (Nat.zero_le _)
          ⟨⟨_, Heap.get?_push_size _ rfl, rfl, rfl⟩, (hl1.push _)⟩ (fun b o e => Heap.get?_push_of_some _ (Heap.get?_push_of_some _ e)) ?hS0 ?hR
        case hS0 => exact ⟨[], #[], 0, _, setTR_fresh (Heap.get?_push_of_some _ hS), Got.zero ks⟩
        case hR =>
          intro s' L es ep t hm hS' g' hkp
          obtain ⟨h', g2, d', tk', os'⟩ := s'
          have eg : g2 = s.gens := hm.gens
          have ed : d' = s.drawn := hm.drawn
          have eo : os' = s.os := hm.os
          subst eg; subst ed; subst eo
          show wpAny _ _ _ _ _ _
          refine wpAny_pure ?_
          show wpAny _ _ (ret Value.none) _ _ _
          rw [hisz] at g'
          exact wpAny_pure ⟨rfl, h', tk', L, es, ep, t, rfl, hS', g', hkp⟩
      · cases r₂ with
        | error e => exact hr₂
        | ok fl₂ =>
          cases fl₂ with
          | ret r =>
            obtain ⟨rfl, h', tk, L, es, ep, t, rfl, hS', g', hk'⟩ := hr₂
            repeat (any_goals (first | assumption | wp_step))
            exact h _ _ _ _ _ _ hS' g' hk'
          | _ => exact hr₂.elim
    | _ => exact hr.elim
end
section
variable {X : Cx}
def rSetTT (K : PySem.W.Frag) (P : Program) (w : World) : List V → Hp → VK → Prop := fun xs H Q => ∃ (l : Addr) (ks : List (Addr × List Int)), xs = [V.ref l] ∧ SqT K H l (ks.map fun p => V.ref p.1) ∧ (∀ p ∈ ks, SqT K H p.1 (p.2.map V.int)) ∧ ks.length < 64 ∧
  ∀ a L, H a = none → (∀ p ∈ L, p ∈ ks) → (∀ p ∈ ks, p.2 ∈ L.map (·.2)) → Q (.ref a) (upd H a (SetTO P w a L))
theorem cr_setTT (hc : X.calm = true) (hu : X.A.units + 64 < cLine) : CallR X (.type "set") (rSetTT X.K X.prog X.w) := by
  intro pins s σ H xs us Q I r h
  obtain ⟨l, ks, rfl, hl, hk, hf, q⟩ := h
  rw [Vals.ref1 r]
  obtain ⟨its, rv, pl, hz⟩ := I.tuple hl
  have hn : H s.heap.objs.size = none := I.hok.fresh (Nat.le_refl _)
  refine set_of_tuple (P := X.prog) (w := X.w) ks (I.ok.hd hc) pl (by simpa using refs_of_vals rv) (fun p hp => I.isT (hk p hp)) hf (by omega) fun h' tk L es ep t R g k => ?_
  refine ⟨.ref s.heap.objs.size, upd H s.heap.objs.size (SetTO X.prog X.w s.heap.objs.size L), I.laid (t' := tk) k (Nat.le_refl _) (setTO_new R.t0), rfl, q _ L hn (fun p hp => ?_) fun p hp => ?_⟩
  · exact List.mem_of_mem_take (g.sub p hp)
  · exact g.all p (by rw [List.take_length]; exact hp)
end
end PL
set_option maxHeartbeats 4000000
namespace PL
open PySem L2 PySem.Spec PyProof.Rows
/-! ### list(range(..)), tuple(range(..)) -/
def mkSeq (l : Bool) (xs : List D) : Pd := if l then .f (.lst xs) else .d (.tup xs)
def eRg1 (l : Bool) (t : Ex) : Ex := fun ρ => (t ρ).bind fun p ρ1 => match p.get ρ1 with
  | some (.int j) => if inLine j && small j.toNat then .ok (mkSeq l (rngD 0 j.toNat)) ρ1 else .bad
  | _ => .bad
def eRg2 (l : Bool) (ta tb : Ex) : Ex := fun ρ => (ta ρ).bind fun p ρ1 => (tb ρ1).bind fun q ρ2 => match p.get ρ2, q.get ρ2 with
  | some (.int i), some (.int j) => if inLine i && (inLine j && small (j - i).toNat) then .ok (mkSeq l (rngD i (j - i).toNat)) ρ2 else .bad
  | _, _ => .bad
theorem rg_drs {G : Gx} {H : Hp} {B : Addr → Prop} (a : Int) : ∀ n : Nat, DRs G H B (rngD a n) ((List.range n).map fun i => V.int (a + (i : Nat))) := fun n => by
  unfold rngD
  induction n with
  | zero => exact .nil
  | succ n ih =>
    rw [List.range_succ, List.map_append, List.map_append]
    exact DRs.app ih (.one (.int _))
theorem inLine_ok {j : Int} (h : inLine j = true) : -(2 ^ 62) ≤ j ∧ j < 2 ^ 62 := of_decide_eq_true h
theorem small_le {n : Nat} (h : small n = true) : n ≤ 2 ^ 24 := of_decide_eq_true (p := n ≤ 16777216) h
section
variable {X : Cx} {F : Fr0} {W : WX} {e a b c : Expr} {es : List Expr} {pos : Pos}
theorem new_rg {σ : L2.St} {ρ : Rho} {H : Hp} {B : Addr → Prop} {p : Addr} (s : SR F H σ ρ B) (hp : H p = none) (i : Int) (n : Nat) : ∃ B', Stp F σ ρ H B ρ (upd H p (.lst ((List.range n).map fun k => V.int (i + (k : Nat))))) B' ∧ PdR F H (upd H p (.lst ((List.range n).map fun k => V.int (i + (k : Nat))))) B' σ ρ (mkSeq true (rngD i n)) (.ref p) :=
  ⟨_, new_lst s hp (rg_drs i n)⟩
theorem re_lrg1 {t : Ex} {p p2 pos2 : Pos} (hc : X.calm = true) (hg : Gl X "list") (hm : X.mg "list" = none) (hg2 : Gl X "range") (hm2 : X.mg "range" = none) (ha : PE X a (TEx F W t))
    (na : starEach [a] X.env = (false, eval a X.env) :: starEach [] X.env := by rfl) (nb : starEach [.Call (.Name "range" p2) [a] [] pos2] X.env = (false, eval (.Call (.Name "range" p2) [a] [] pos2) X.env) :: starEach [] X.env := by rfl) : PE X (.Call (.Name "list" p) [.Call (.Name "range" p2) [a] [] pos2] [] pos) (TEx F W (eRg1 true t)) := by
  refine pe_imp (pe_listRg hc hg hm (prg_1 hg2 hm2 ha na) nb) fun σ H Q h => ?_
  obtain ⟨ρ, B, s, h⟩ := h
  refine ⟨ρ, B, s, AftG.imp (AftG.bind h) fun v H1 ⟨ρ1, B1, p, st, rp, h1⟩ => ?_⟩
  cases e1 : p.get ρ1 with
  | none => simp only [e1] at h1; exact h1.elim
  | some x =>
    simp only [e1] at h1
    cases x <;> try exact h1.elim
    rename_i j
    have q := (rp.tr st.sr e1).int
    subst q
    simp only at h1
    split at h1
    · rename_i hb
      rw [Bool.and_eq_true] at hb
      have l := inLine_ok hb.1
      refine ⟨j, rfl, ⟨by decide, by decide, l.1, l.2, by rw [Int.sub_zero]; exact small_le hb.2⟩, fun p hp => ?_⟩
      have e : rgV 0 j = (List.range j.toNat).map fun k => V.int (0 + (k : Nat)) := by unfold rgV; rw [Int.sub_zero]
      rw [e]
      obtain ⟨B2, st2, r⟩ := new_rg st.sr hp 0 j.toNat
      exact h1 _ _ B2 (st.trans s st2) (PdR.back (fun a n => Stp.dom s st n) r)
    · exact h1.elim
theorem re_trg1 {t : Ex} {p p2 pos2 : Pos} (hc : X.calm = true) (hg : Gl X "tuple") (hm : X.mg "tuple" = none) (hg2 : Gl X "range") (hm2 : X.mg "range" = none) (ha : PE X a (TEx F W t))
    (na : starEach [a] X.env = (false, eval a X.env) :: starEach [] X.env := by rfl) (nb : starEach [.Call (.Name "range" p2) [a] [] pos2] X.env = (false, eval (.Call (.Name "range" p2) [a] [] pos2) X.env) :: starEach [] X.env := by rfl) : PE X (.Call (.Name "tuple" p) [.Call (.Name "range" p2) [a] [] pos2] [] pos) (TEx F W (eRg1 false t)) := by
  refine pe_imp (pe_tupRg hc hg hm (prg_1 hg2 hm2 ha na) nb) fun σ H Q h => ?_
  obtain ⟨ρ, B, s, h⟩ := h
  refine ⟨ρ, B, s, AftG.imp (AftG.bind h) fun v H1 ⟨ρ1, B1, p, st, rp, h1⟩ => ?_⟩
  cases e1 : p.get ρ1 with
  | none => simp only [e1] at h1; exact h1.elim
  | some x =>
    simp only [e1] at h1
    cases x <;> try exact h1.elim
    rename_i j
    have q := (rp.tr st.sr e1).int
    subst q
    simp only at h1
    split at h1
    · rename_i hb
      rw [Bool.and_eq_true] at hb
      have l := inLine_ok hb.1
      refine ⟨j, rfl, ⟨by decide, by decide, l.1, l.2, by rw [Int.sub_zero]; exact small_le hb.2⟩, fun p hp => ?_⟩
      have e : rgV 0 j = (List.range j.toNat).map fun k => V.int (0 + (k : Nat)) := by unfold rgV; rw [Int.sub_zero]
      rw [e]
      obtain ⟨st2, r⟩ := new_tup st.sr hp (rg_drs 0 j.toNat)
      exact h1 _ _ _ (st.trans s st2) r
    · exact h1.elim
theorem re_lrg2 {ta tb : Ex} {p p2 pos2 : Pos} (hc : X.calm = true) (hg : Gl X "list") (hm : X.mg "list" = none) (hg2 : Gl X "range") (hm2 : X.mg "range" = none) (ha : PE X a (TEx F W ta)) (hb : PE X b (TEx F W tb))
    (na : starEach [a, b] X.env = (false, eval a X.env) :: starEach [b] X.env := by rfl) (nb : starEach [b] X.env = (false, eval b X.env) :: starEach [] X.env := by rfl) (hp : (backTo pos2 (starEach [b] X.env)).any (·.1) = false := by rfl)
    (nc : starEach [.Call (.Name "range" p2) [a, b] [] pos2] X.env = (false, eval (.Call (.Name "range" p2) [a, b] [] pos2) X.env) :: starEach [] X.env := by rfl) : PE X (.Call (.Name "list" p) [.Call (.Name "range" p2) [a, b] [] pos2] [] pos) (TEx F W (eRg2 true ta tb)) := by
  refine pe_imp (pe_listRg hc hg hm (prg_2 hg2 hm2 ha hb na nb hp) nc) fun σ H Q h => ?_
  obtain ⟨ρ, B, s, h⟩ := h
  refine ⟨ρ, B, s, AftG.imp (AftG.bind h) fun v H1 ⟨ρ1, B1, p, st, rp, h1⟩ => ?_⟩
  refine ⟨ρ1, B1, st.sr, AftG.imp (AftG.bind (AftG.from_ s st h1)) fun w H2 ⟨ρ2, B2, q, st2, rq, h2⟩ => ?_⟩
  have rp2 := PdR.step st.sr st2 rp
  cases e1 : p.get ρ2 with
  | none => simp only [e1] at h2; exact h2.elim
  | some x =>
    cases e2 : q.get ρ2 with
    | none => simp only [e1, e2] at h2; cases x <;> exact h2.elim
    | some y =>
      simp only [e1, e2] at h2
      cases x <;> try exact h2.elim
      cases y <;> try exact h2.elim
      rename_i i j
      have q1 := (rp2.tr st2.sr e1).int
      have q2 := (rq.tr st2.sr e2).int
      subst q1 q2
      simp only at h2
      split at h2
      · rename_i hb
        rw [Bool.and_eq_true, Bool.and_eq_true] at hb
        have l := inLine_ok hb.1
        have l2 := inLine_ok hb.2.1
        refine ⟨i, j, rfl, rfl, ⟨l.1, l.2, l2.1, l2.2, small_le hb.2.2⟩, fun p hp => ?_⟩
        obtain ⟨B3, st3, r⟩ := new_rg st2.sr hp i (j - i).toNat
        exact h2 _ _ B3 (st2.trans st.sr st3) (PdR.back (fun a n => Stp.dom s (st.trans s st2) n) r)
      · exact h2.elim
/-! ### repr of lists and tuples -/
def rRepr (K : PySem.W.Frag) : List V → Hp → VK → Prop := fun xs H Q => ∃ (a : Addr) (d : PyData), xs = [.ref a] ∧ Dp K H (.ref a) d ∧ d.showable = true ∧ d.hasDict = false ∧ d.depth ≤ 64 ∧ d.shown.length ≤ sizeLine ∧ Q (.str d.shown) H
theorem cr_repr (hgd : X.A.guards = some []) (hu : X.A.units + 65 < cLine) : CallR X (.builtin "repr") (rRepr X.K) := by
  intro pins s σ H xs us Q I r h
  obtain ⟨a, d, rfl, hd, h1, h2, h3, h4, q⟩ := h
  rw [Vals.ref1 r]
  obtain ⟨as, rr⟩ := Dp.reads I d _ _ hd (show RelV (.ref a) (.ref a) from rfl)
  exact PySem.repr_of_reads' rr h1 (fun z => by rw [h2] at z; cases z) hgd (by omega) (fun _ _ e => e) (fun h' u tk hk => ⟨.str d.shown, H, I.kept hk, ⟨u, rfl⟩, q⟩) h4
def cRepr1 (x : D) : Option Pd := match pyD x with
  | some d => if d.showable && (!d.hasDict && (decide (d.depth ≤ 64) && small d.shown.length)) then some (.d (.str d.shown)) else none
  | none => none
def cRepr : List D → Option Pd
  | [.lst xs] => cRepr1 (.lst xs)
  | [.tup xs] => cRepr1 (.tup xs)
  | _ => none
theorem c_repr : CallS F (rRepr F.G.K) cRepr := by
  intro σ ρ H B vs ds p Q s h1 e k
  have key : ∀ x, ds = [x] → cRepr1 x = some p → (∃ a, vs = [.ref a] ∧ TR F.G H B x (.ref a)) → rRepr F.G.K vs H Q := by
    intro x hd hx ⟨a, ha, t⟩
    unfold cRepr1 at hx
    cases e1 : pyD x with
    | none => simp [e1] at hx
    | some d =>
      simp only [e1] at hx
      split at hx
      · rename_i hb
        rw [Bool.and_eq_true, Bool.and_eq_true, Bool.and_eq_true] at hb
        cases hx
        exact ⟨a, d, ha, t.dp e1, hb.1, by simpa using hb.2.1, of_decide_eq_true hb.2.2.1, small_ok hb.2.2.2, k _ H B (.refl s) (.str _)⟩
      · cases hx
  unfold cRepr at e
  split at e
  · obtain ⟨v, rfl, t⟩ := h1.one
    obtain ⟨a, us, rfl, q1, d1⟩ := t.lst
    exact key _ rfl e ⟨a, rfl, t⟩
  · obtain ⟨v, rfl, t⟩ := h1.one
    obtain ⟨a, us, rfl, q1, d1⟩ := t.tup
    exact key _ rfl e ⟨a, rfl, t⟩
  · cases e
/-! ### methods of an own list -/
/-- the method's rule serves g: the data behind the slot, the arguments ↦ what it gives, the new data -/
def MethS (F : Fr0) (r : V → List V → Hp → VK → Prop) (g : D → List D → Option (D × D)) : Prop := ∀ (σ : L2.St) (ρ : Rho) (H : Hp) (B : Addr → Prop) (a : Addr) (vs : List V) (x : D) (ds : List D) (y x' : D) (Q : VK), SR F H σ ρ B → B a → OwR F.G H B x a → DRs F.G H B ds vs → g x ds = some (y, x') →
  (∀ u H', (∀ b, b ≠ a → H' b = H b) → OwR F.G H' B x' a → DR F.G H' B y u → Q u H') → r (.ref a) vs H Q
def eMeth (j : Nat) (g : D → List D → Option (D × D)) (r : Rho → Rs (List Ag)) : Ex := fun ρ => match ρ[j]? with
  | some (.own (.lst _)) => (r ρ).bind fun as ρ1 => match agsDat as, ρ1[j]? with
    | some ds, some (.own x) => (match g x ds with
      | some (y, x') => .ok (.d y) (ρ1.set j (.own x'))
      | none => .bad)
    | _, _ => .bad
  | _ => .bad
theorem re_meth (j : Nat) {x name : Str} {id : String} {g : D → List D → Option (D × D)} {r : V → List V → Hp → VK → Prop} {t : Rho → Rs (List Ag)} {p apos cpos : Pos} (slot : Slot "list" name id) (hty : typeOf (.builtin id) = pure (.type "method_descriptor")) (hm : MtR X id r) (hg : MethS F r g)
    (ha : PA X (e :: es) (TAx F W t)) (hN : X.N[j]? = some x := by rfl) (hv : Vis X.env.scope x := by first | exact Or.inl rfl | exact Or.inr (Or.inl rfl) | exact Or.inr (Or.inr rfl)) (hd : (x == ("__debug__" : Str)) = false := by decide) (hcd : (x == ("__classdict__" : Str)) = false := by decide)
    (hbase : attributeBase (.Name x p) name X.env (eval (.Name x p) X.env) = eval (.Name x p) X.env := by rfl)
    (hfew : ((backTo cpos (starEach (e :: es) X.env)).all (fun x => !x.1) && (backToKw cpos (keywordEach [] X.env)).all (fun x => x.1.isSome)
      && decide ((e :: es).length + ([] : List Keyword).length + (if ([] : List Keyword).isEmpty then 0 else 1) < 30)) = true := by rfl)
    (hline : (apos.endLine == cpos.line) = true := by rfl) (hs : starEach (e :: es) X.env = (false, eval e X.env) :: starEach es X.env := by rfl) (hplain : (backTo cpos (starEach es X.env)).any (·.1) = false := by rfl) :
    PE X (.Call (.Attribute (.Name x p) name apos) (e :: es) [] cpos) (TEx F W (eMeth j g t)) := by
  refine pe_imp (pe_bm PySem.F.plainAttrs_list slot hty hm (re_var (F := F) (W := W) j hN hv hd hcd) ha hbase hfew hline hs hplain) fun σ H Q h => ?_
  obtain ⟨ρ, B, s, h⟩ := h
  unfold eMeth at h
  cases e0 : ρ[j]? with
  | none => simp only [e0] at h; exact h.elim
  | some sl =>
    simp only [e0] at h
    cases sl with
    | un => exact h.elim
    | dat d => exact h.elim
    | lent d => exact h.elim
    | own x0 =>
    cases x0 <;> try exact h.elim
    rename_i xs
    simp only at h
    refine ⟨ρ, B, s, ?_⟩
    unfold eVar
    rw [e0]
    intro v H' B' st rv
    obtain ⟨sl, d, q1, q2, q3⟩ := rv
    rw [e0] at q1; cases q1; cases q2
    obtain ⟨a, a1, a2, a3, _⟩ := st.sr.own j _ _ e0 rfl
    rw [q3] at a1; cases a1
    have h' := AftG.from_ s st h
    · obtain ⟨us, b1, b2⟩ := own_lst a3
      refine ⟨.inl ⟨rfl, us, .inl (.inl b1)⟩, ρ, B', st.sr, AftG.imp (AftG.bind h') fun vs H1 ⟨ρ1, B1, as, st1, rs, h1⟩ => ?_⟩
      cases e1 : agsDat as with
      | none => simp only [e1] at h1; exact h1.elim
      | some ds =>
        cases e2 : ρ1[j]? with
        | none => simp only [e1, e2] at h1; exact h1.elim
        | some sl1 =>
          cases sl1 <;> try (simp only [e1, e2] at h1; exact h1.elim)
          rename_i x1
          simp only [e1, e2] at h1
          cases e3 : g x1 ds with
          | none => simp only [e3] at h1; exact h1.elim
          | some yx =>
            obtain ⟨y, x'⟩ := yx
            simp only [e3] at h1
            obtain ⟨a', c1, c2, c3, _⟩ := st1.sr.own j _ x1 e2 rfl
            rw [q3] at c1; cases c1
            refine hg σ ρ1 H1 B1 a vs x1 ds y x' Q st1.sr c2 c3 (rs.drs e1) e3 fun u H2 k1 k2 k3 => ?_
            have c : CExt F.G H1 B1 H2 B1 (some 0) [.ref a] x' := ⟨fun b o e n => by
                rw [k1 b fun z => n 0 rfl (by rw [z]; rfl)]; exact e, fun _ b => b, fun _ b => .inl b, fun b hb => ?_, fun i b hi hb => by
                cases hi
                cases hb
                exact k2⟩
            · exact h1 u H2 B1 (st1.trans st.sr (st1.sr.called1 c rfl rfl e2 q3)) k3
            · by_cases z : b = a
              · subst z; exact k2.mu
              · rw [k1 b z]; exact st1.sr.mu b hb
end
end PL
set_option maxHeartbeats 4000000
namespace PL
open PySem L2 PySem.Spec PyProof.Rows
section
variable {F : Fr0} {σ : L2.St} {ρ : Rho} {H : Hp} {B : Addr → Prop}
theorem own_upd (s : SR F H σ ρ B) {a : Addr} {ds : List D} {vs : List V} (ha : B a) (h : DRs F.G H B ds vs) : OwR F.G (upd H a (.lst vs)) B (.lst ds) a :=
  .inl ⟨ds, vs, rfl, upd_same, h.mono ⟨fun b o e n => by rw [upd_ne (fun z => n (by rw [z]; exact ha))]; exact e, s.mu, fun _ b => .inl b⟩⟩
theorem dr_upd (s : SR F H σ ρ B) {a : Addr} {o : HO} {d : D} {v : V} (ha : B a) (h : DR F.G H B d v) : DR F.G (upd H a o) B d v :=
  h.mono ⟨fun b o e n => by rw [upd_ne (fun z => n (by rw [z]; exact ha))]; exact e, s.mu, fun _ b => .inl b⟩
def mApp : D → List D → Option (D × D)
  | .lst xs, [d] => if small (xs.length + 1) then some (.non, .lst (xs ++ [d])) else none
  | _, _ => none
theorem DRs.one' {G : Gx} {d : D} {vs : List V} (h : DRs G H B [d] vs) : ∃ v, vs = [v] ∧ DR G H B d v := by
  cases h with
  | cons h1 h2 => cases h2; exact ⟨_, rfl, h1⟩
theorem m_app : MethS F rAppend mApp := by
  intro σ ρ H B a vs x ds y x' Q s ha ho hd e k
  unfold mApp at e
  split at e <;> try cases e
  rename_i xs d
  split at e
  · rename_i hb
    cases e
    obtain ⟨us, h1, h2⟩ := own_lst ho
    obtain ⟨v, rfl, hv⟩ := hd.one'
    refine ⟨a, us, v, rfl, rfl, h1, ?_, k _ _ (fun b z => upd_ne z) (own_upd s ha (h2.app (.one hv))) .non⟩
    have := small_ok hb
    rw [← h2.length]
    omega
  · cases e
def mExt : D → List D → Option (D × D)
  | .lst xs, [.lst ys] => if small (xs.length + ys.length) then some (.non, .lst (xs ++ ys)) else none
  | _, _ => none
theorem m_ext : MethS F rExtend mExt := by
  intro σ ρ H B a vs x ds y x' Q s ha ho hd e k
  unfold mExt at e
  split at e <;> try cases e
  rename_i xs ys
  split at e
  · rename_i hb
    cases e
    obtain ⟨us, h1, h2⟩ := own_lst ho
    obtain ⟨v, rfl, hv⟩ := hd.one'
    cases hv with
    | lst n r hs =>
      refine ⟨a, _, us, _, rfl, rfl, h1, r, ?_, k _ _ (fun b z => upd_ne z) (own_upd s ha (h2.app hs)) .non⟩
      rw [← h2.length, ← hs.length]
      exact small_ok hb
  · cases e
def mPopAt : D → List D → Option (D × D)
  | .lst xs, [.int i] => if decide (-(2 ^ 63) ≤ i ∧ i < 2 ^ 63) then (match ixN xs.length i with
    | some j => (match xs[j]? with
      | some d => some (d, .lst (xs.eraseIdx j))
      | none => none)
    | none => none) else none
  | _, _ => none
theorem m_popAt : MethS F rPopAt mPopAt := by
  intro σ ρ H B a vs x ds y x' Q s ha ho hd e k
  unfold mPopAt at e
  split at e <;> try cases e
  rename_i xs i
  split at e
  · rename_i hb
    have hb := of_decide_eq_true hb
    cases e1 : ixN xs.length i with
    | none => simp [e1] at e
    | some j =>
      cases e2 : xs[j]? with
      | none => simp [e1, e2] at e
      | some d =>
        simp only [e1, e2] at e
        cases e
        obtain ⟨us, h1, h2⟩ := own_lst ho
        obtain ⟨v, rfl, hv⟩ := hd.one'
        cases hv
        obtain ⟨u, q1, q2⟩ := h2.get e2
        rw [h2.length] at e1
        exact ⟨a, us, i, j, u, rfl, rfl, h1, hb.1, hb.2, (ixN_seq e1).1, q1, k _ _ (fun b z => upd_ne z) (own_upd s ha (h2.erase j)) (dr_upd s ha q2)⟩
  · cases e
end
/-! ### sorted(set(xs)), tuples of ints -/
def tupsOf : List D → Option (List (List Int))
  | [] => some []
  | .tup ts :: ds => match intsOf ts, tupsOf ds with
    | some ns, some r => some (ns :: r)
    | _, _ => none
  | _ :: _ => none
def tupD (ns : List Int) : D := .tup (ns.map .int)
theorem tupsOf_eq : ∀ {ds : List D} {nss : List (List Int)}, tupsOf ds = some nss → ds = nss.map tupD
  | [], _, e => by cases e; rfl
  | d :: ds, nss, e => by
    cases d <;> try (cases e)
    rename_i ts
    unfold tupsOf at e
    cases e1 : intsOf ts with
    | none => simp [e1] at e
    | some ns =>
      cases e2 : tupsOf ds with
      | none => simp [e1, e2] at e
      | some r =>
        simp only [e1, e2] at e
        cases e
        rw [tupsOf_eq e2, intsOf_eq e1]; rfl
theorem tupsOf_map : ∀ nss : List (List Int), tupsOf (nss.map tupD) = some nss
  | [] => rfl
  | ns :: nss => by
    show (match intsOf (ns.map D.int), tupsOf (nss.map tupD) with | some a, some r => some (a :: r) | _, _ => none) = _
    rw [intsOf_map, tupsOf_map nss]
def bigB : Int := 2 ^ 62
def leC (a b : List Int) : Bool := decide (TS.code bigB a ≤ TS.code bigB b)
/-- sorted(set(..)) -/
def sortSet (nss : List (List Int)) : List (List Int) := nss.eraseDups.mergeSort leC
def bdOk (d : Nat) (nss : List (List Int)) : Bool := nss.all fun ns => decide (ns.length = d) && ns.all fun i => decide (0 ≤ i ∧ i < bigB)
def dimOf : List (List Int) → Nat
  | [] => 1
  | ns :: _ => ns.length
def gSortSet : D → Option Pd
  | .lst xs => (match tupsOf xs with
    | some nss => if decide (nss.length < 64) && (decide (1 ≤ dimOf nss) && bdOk (dimOf nss) nss) then some (.f (.lst ((sortSet nss).map tupD))) else none
    | none => none)
  | .tup xs => (match tupsOf xs with
    | some nss => if decide (nss.length < 64) && (decide (1 ≤ dimOf nss) && bdOk (dimOf nss) nss) then some (.f (.lst ((sortSet nss).map tupD))) else none
    | none => none)
  | _ => none
end PL
set_option maxHeartbeats 4000000
namespace PL
open PySem L2 PySem.Spec PyProof.Rows
theorem code_inj {B : Int} : ∀ {a b : List Int}, a.length = b.length → TS.Bd B a → TS.Bd B b → TS.code B a = TS.code B b → a = b
  | [], [], _, _, _, _ => rfl
  | [], _ :: _, h, _, _, _ => by simp at h
  | _ :: _, [], h, _, _, _ => by simp at h
  | x :: a, y :: b, h, h1, h2, e => by
    have hl : a.length = b.length := by simpa using h
    rcases Int.lt_trichotomy x y with c | c | c
    · have := TS.code_lt hl h1.tail h2.tail c; omega
    · subst c
      have k1 := TS.code_same (B := B) (d := x) hl
      have k2 := TS.code_same (B := B) (d := x) hl.symm
      have : TS.code B a = TS.code B b := by
        rcases Int.lt_trichotomy (TS.code B a) (TS.code B b) with c | c | c
        · have := k1.mpr c; omega
        · exact c
        · have := k2.mpr c; omega
      rw [code_inj hl h1.tail h2.tail this]
    · have := TS.code_lt hl.symm h2.tail h1.tail c; omega
theorem eraseDups_nodup (nss : List (List Int)) : nss.eraseDups.Nodup := by
  induction h : nss.length using Nat.strongRecOn generalizing nss with
  | ind n ih =>
    cases nss with
    | nil => simp
    | cons x xs =>
      rw [List.eraseDups_cons]
      refine List.nodup_cons.mpr ⟨fun hm => ?_, ih _ ?_ _ rfl⟩
      · rw [List.mem_eraseDups] at hm
        simp at hm
      · subst h
        have := List.length_filter_le (fun y => !y == x) xs
        simp only [List.length_cons]; omega
theorem sortSet_mem {nss : List (List Int)} {x : List Int} : x ∈ sortSet nss ↔ x ∈ nss := by
  unfold sortSet
  rw [(List.mergeSort_perm nss.eraseDups leC).mem_iff, List.mem_eraseDups]
theorem sortSet_nodup (nss : List (List Int)) : (sortSet nss).Nodup := by
  unfold sortSet
  rw [(List.mergeSort_perm nss.eraseDups leC).nodup_iff]
  exact eraseDups_nodup nss
theorem sortSet_le (nss : List (List Int)) : (sortSet nss).Pairwise fun a b => TS.code bigB a ≤ TS.code bigB b := by
  have h := List.pairwise_mergeSort (le := leC) (fun a b c h1 h2 => by unfold leC at *; simp at *; omega) (fun a b => by unfold leC; simp; omega) nss.eraseDups
  exact h.imp fun h => by unfold leC at h; simpa using h
theorem bdOk_get {d : Nat} {nss : List (List Int)} (h : bdOk d nss = true) {ns : List Int} (hm : ns ∈ nss) : ns.length = d ∧ TS.Bd bigB ns := by
  have q := List.all_eq_true.mp h ns hm
  rw [Bool.and_eq_true] at q
  refine ⟨of_decide_eq_true q.1, fun i hi => ?_⟩
  have := List.all_eq_true.mp q.2 i hi
  exact of_decide_eq_true this
/-- what the set's order may be, sorted: one thing -/
theorem sortSet_eq {d : Nat} {nss ms : List (List Int)} (hb : bdOk d nss = true) (h1 : ∀ x, x ∈ ms ↔ x ∈ nss) (h2 : ms.Nodup) (h3 : ms.Pairwise fun a b => TS.code bigB a ≤ TS.code bigB b) : ms = sortSet nss := by
  have p : ms.Perm (sortSet nss) := (List.perm_ext_iff_of_nodup h2 (sortSet_nodup nss)).mpr fun x => by rw [h1, sortSet_mem]
  refine perm_sorted_eq (r := fun a b => TS.code bigB a ≤ TS.code bigB b) (fun x hx y hy a b => ?_) p h3 (sortSet_le nss)
  have bx := bdOk_get hb ((h1 x).mp hx)
  have by' := bdOk_get hb ((h1 y).mp hy)
  exact code_inj (bx.1.trans by'.1.symm) bx.2 by'.2 (Int.le_antisymm a b)
section
variable {G : Gx} {H : Hp} {B : Addr → Prop}
/-- the tuples' addresses -/
theorem tups_addr : ∀ {nss : List (List Int)} {vs : List V}, DRs G H B (nss.map tupD) vs → ∃ ks : List (Addr × List Int), vs = ks.map (fun p => V.ref p.1) ∧ nss = ks.map (·.2) ∧ ∀ p ∈ ks, H p.1 = some (.tup (p.2.map V.int))
  | [], _, h => by cases h; exact ⟨[], rfl, rfl, fun _ z => absurd z (by simp)⟩
  | ns :: nss, _, h => by
    cases h with
    | cons h1 h2 =>
      obtain ⟨ks, e1, e2, e3⟩ := tups_addr h2
      cases h1 with
      | tup r hs =>
        rename_i a us
        rw [hs.ints] at r
        refine ⟨(a, ns) :: ks, by rw [e1]; rfl, by rw [e2]; rfl, fun p hp => ?_⟩
        rcases List.mem_cons.mp hp with rfl | hp
        · exact r
        · exact e3 p hp
theorem addr_drs : ∀ {ks : List (Addr × List Int)}, (∀ p ∈ ks, H p.1 = some (.tup (p.2.map V.int))) → DRs G H B ((ks.map (·.2)).map tupD) (ks.map fun p => V.ref p.1)
  | [], _ => .nil
  | p :: ks, h => .cons (.tup (h p List.mem_cons_self) (DRs.ofInts p.2)) (addr_drs fun q hq => h q (List.mem_cons_of_mem _ hq))
end
def eSortSet (t : Ex) : Ex := eUn gSortSet t
section
variable {X : Cx} {F : Fr0} {W : WX} {e a b c : Expr} {es : List Expr} {pos : Pos}
theorem set_rule {K : PySem.W.Frag} {P : Program} {w : World} {σ : L2.St} {ρ : Rho} {H H0 : Hp} {B : Addr → Prop} {nss : List (List Int)} {ks : List (Addr × List Int)} {Q : VK} (s : SR F H σ ρ B) (hb : ∀ a, H a = none → H0 a = none) (hks : ∀ p ∈ ks, H p.1 = some (.tup (p.2.map V.int))) (hn : nss = ks.map (·.2))
    (hd : 1 ≤ dimOf nss) (ho : bdOk (dimOf nss) nss = true) (k : ∀ u H' B', Stp F σ ρ H B ρ H' B' → PdR F H0 H' B' σ ρ (.f (.lst ((sortSet nss).map tupD))) u → Q u H') :
    ∀ a L, H a = none → (∀ p ∈ L, p ∈ ks) → (∀ p ∈ ks, p.2 ∈ L.map (·.2)) → rSortedT K P w [.ref a] (upd H a (SetTO P w a L)) Q := by
  intro a L ha h1 h2
  have st1 := Stp.alloc (o := SetTO P w a L) s ha
  have hks' : ∀ p ∈ ks, (upd H a (SetTO P w a L)) p.1 = some (.tup (p.2.map V.int)) := fun p hp => (st1.mono s).imm (hks p hp) id
  refine ⟨a, L, dimOf nss, bigB, rfl, upd_same, fun p hp => .inl (.inl (hks' p (h1 p hp))), hd, fun p hp => bdOk_get ho (by rw [hn]; exact List.mem_map.mpr ⟨p, h1 p hp, rfl⟩), fun L' q pm nd few pw hq => ?_⟩
  have hL' : ∀ p ∈ L', p ∈ ks := fun p hp => h1 p (pm.mem_iff.mp hp)
  have e : L'.map (·.2) = sortSet nss := by
    refine sortSet_eq ho (fun x => ⟨fun hx => ?_, fun hx => ?_⟩) nd (List.pairwise_map.mpr pw)
    · obtain ⟨p, hp, rfl⟩ := List.mem_map.mp hx
      rw [hn]; exact List.mem_map.mpr ⟨p, hL' p hp, rfl⟩
    · rw [hn] at hx
      obtain ⟨p, hp, rfl⟩ := List.mem_map.mp hx
      exact (pm.map (·.2)).mem_iff.mpr (h2 p hp)
  have dr : DRs F.G (upd H a (SetTO P w a L)) B ((L'.map (·.2)).map tupD) (L'.map fun p => V.ref p.1) := addr_drs fun p hp => hks' p (hL' p hp)
  obtain ⟨st2, r⟩ := new_lst st1.sr hq dr
  rw [e] at r
  exact k _ _ _ (st1.trans s st2) (PdR.back (fun b n => hb b (Stp.dom s st1 n)) r)
theorem re_sortSet {t : Ex} {p p2 pos2 : Pos} (hK : F.G.K = X.K) (hc : X.calm = true) (hu : X.A.units + 64 < cLine) (hg : Gl X "sorted") (hm : X.mg "sorted" = none) (hg2 : Gl X "set") (hm2 : X.mg "set" = none) (ha : PE X a (TEx F W t))
    (na : starEach [a] X.env = (false, eval a X.env) :: starEach [] X.env := by rfl) (nb : starEach [.Call (.Name "set" p2) [a] [] pos2] X.env = (false, eval (.Call (.Name "set" p2) [a] [] pos2) X.env) :: starEach [] X.env := by rfl)
    (hpl : (backTo pos (starEach [] X.env)).any (·.1) = false := by rfl) (hpl2 : (backTo pos2 (starEach [] X.env)).any (·.1) = false := by rfl) : PE X (.Call (.Name "sorted" p) [.Call (.Name "set" p2) [a] [] pos2] [] pos) (TEx F W (eSortSet t)) := by
  refine pe_imp (pe_callB (cr_sortedT hc) hg hm bb_sorted (pa_cons (pe_callTy ((cr_setOfT hc hu).or (cr_setTT hc hu)) hg2 hm2 bb_set (pa_cons ha pa_nil na) (by decide) (by decide) na hpl2) pa_nil nb) (by decide) (by decide) nb hpl) fun σ H Q h => ?_
  obtain ⟨ρ, B, s, h⟩ := h
  refine ⟨ρ, B, s, AftG.imp (AftG.bind h) fun v H1 ⟨ρ1, B1, p, st, rp, h1⟩ => ?_⟩
  unfold op1 at h1
  have hb : ∀ a, H1 a = none → H a = none := fun a n => Stp.dom s st n
  cases e1 : p.get ρ1 with
  | none => simp only [e1] at h1; exact h1.elim
  | some x =>
    simp only [e1] at h1
    cases e2 : gSortSet x with
    | none => simp only [e2] at h1; exact h1.elim
    | some r =>
      simp only [e2] at h1
      have tr := rp.tr st.sr e1
      have fin : ∀ u H' B', Stp F σ ρ1 H1 B1 ρ1 H' B' → PdR F H H' B' σ ρ1 r u → Q u H' := fun u H' B' st3 rz => h1 u H' B' (st.trans s st3) rz
      unfold gSortSet at e2
      split at e2 <;> try cases e2
      · rename_i xs
        cases e3 : tupsOf xs with
        | none => simp [e3] at e2
        | some nss =>
          simp only [e3] at e2
          split at e2
          · rename_i hc
            rw [Bool.and_eq_true, Bool.and_eq_true] at hc
            cases e2
            obtain ⟨a, vs, rfl, q1, d1⟩ := tr.lst
            rw [tupsOf_eq e3] at d1
            obtain ⟨ks, rfl, en, hks⟩ := tups_addr d1
            refine .inl ⟨a, ks, rfl, .inl (.inl q1), fun p hp => .inl (.inl (hks p hp)), ?_, set_rule st.sr hb hks en (of_decide_eq_true hc.2.1) hc.2.2 fin⟩
            have := of_decide_eq_true hc.1
            rw [en, List.length_map] at this
            exact this
          · cases e2
      · rename_i xs
        cases e3 : tupsOf xs with
        | none => simp [e3] at e2
        | some nss =>
          simp only [e3] at e2
          split at e2
          · rename_i hc
            rw [Bool.and_eq_true, Bool.and_eq_true] at hc
            cases e2
            obtain ⟨a, vs, rfl, q1, d1⟩ := tr.tup
            rw [tupsOf_eq e3] at d1
            obtain ⟨ks, rfl, en, hks⟩ := tups_addr d1
            rw [hK] at q1
            refine .inr ⟨a, ks, rfl, q1, fun p hp => .inl (.inl (hks p hp)), ?_, set_rule st.sr hb hks en (of_decide_eq_true hc.2.1) hc.2.2 fin⟩
            have := of_decide_eq_true hc.1
            rw [en, List.length_map] at this
            exact this
          · cases e2
end
end PL
set_option maxHeartbeats 4000000
/-! ### xs[::-1] -/
namespace PL
open PySem L2 PySem.Spec PyProof.Rows
theorem fm_congr {α β : Type} {f g : α → Option β} : ∀ {l : List α}, (∀ x ∈ l, f x = g x) → l.filterMap f = l.filterMap g
  | [], _ => rfl
  | x :: l, h => by
    rw [List.filterMap_cons, List.filterMap_cons, h x List.mem_cons_self, fm_congr fun y hy => h y (List.mem_cons_of_mem _ hy)]
section
variable {prog : Program} {w : World} {A : Around} {E : Value → Shared → Prop} {s : Shared}
theorem applied_rev {sl : Addr} {vs : Value} {n : Nat} {Q : Int × Int × Nat → Shared → Prop} (hs : s.heap.IsSliceOf sl .none .none vs) (ps : IsPart vs (some (-1)))
    (h : Q ((n : Int) - 1, -1, n) s) : wpAny (model prog w) A (Builtin.Slice.sliceApplied (.ref sl) (pure (n : Int))) Q E s := by
  obtain ⟨os, hos, hcs, hds⟩ := id hs
  unfold Builtin.Slice.sliceApplied Builtin.Slice.sliceFields
  refine wpAny_bind (wpAny_bind (wpAny_field hos hds (x := .none) rfl (wpAny_bind (wpAny_field hos hds (x := .none) rfl (wpAny_bind (wpAny_field hos hds (x := vs) rfl (wpAny_pure ?_)))))))
  refine wpAny_bind (HT.slicePart_ ps ?_)
  show wpAny _ _ (if ((-1 : Int) == 0) = true then _ else _) _ _ s
  rw [if_neg (by decide)]
  refine wpAny_bind (slicePart_none (wpAny_bind (slicePart_none (wpAny_bind (wpAny_pure ?_)))))
  have e : Builtin.Slice.slicePlaces ((n : Int) - 1) (-1) (-1) = n := by
    unfold Builtin.Slice.slicePlaces
    rw [if_neg (by decide)]
    by_cases h : (n : Int) - 1 > -1
    · rw [if_pos h, show (-(-1 : Int)) = 1 by decide, Int.ediv_one]; omega
    · rw [if_neg h]; omega
  show wpAny _ _ (pure (((n : Int) - 1), (-1 : Int), Builtin.Slice.slicePlaces ((n : Int) - 1) (-1) (-1))) _ _ s
  rw [e]
  exact wpAny_pure h
theorem pick_rev (xs : Array Value) : ((List.range xs.size).filterMap fun (k : Nat) => xs[(((xs.size : Int) - 1) + (k : Int) * (-1)).toNat]?).toArray = xs.toList.reverse.toArray := by
  have h := PySem.W.krv_all xs
  have e : ((List.range xs.size).map (fun k => xs.size - 1 - k)).filterMap (xs[·]?) = xs.toList.reverse := by
    rw [PySem.W.krv_range, List.filterMap_reverse, h]
  rw [← e, List.filterMap_map]
  refine congrArg List.toArray (fm_congr fun k hk => ?_)
  have := List.mem_range.mp hk
  show _ = xs[xs.size - 1 - k]?
  congr 1
  omega
theorem getItem_tuple_rev {t sl : Addr} {items : Array Value} {vs : Value} {Q : Value → Shared → Prop} (ht : IsTup s.heap t items) (hs : s.heap.IsSliceOf sl .none .none vs) (ps : IsPart vs (some (-1)))
    (h : Q (.ref s.heap.objs.size) { s with heap := s.heap.push { cls := .type "tuple", data := .seq items.toList.reverse.toArray } })
    (hsz : items.size ≤ sizeLine) : wpAny (model prog w) A (getItem (.ref t) (.ref sl)) Q E s := by
  have htake : sizeOk (.seq items.toList.reverse.toArray) := by
    show items.toList.reverse.toArray.size ≤ sizeLine
    rw [List.size_toArray, List.length_reverse, Array.length_toList]
    exact hsz
  obtain ⟨os, hos, hcs, hds⟩ := id hs
  have hTs : s.TypeIs (.ref sl) "slice" := ⟨os, hos, hcs⟩
  unfold getItem
  try with_reducible refine wpAny_holding ?_
  first | refine wpAny_bind (wpAny_pure ?_) | skip
  refine wpAny_bind (wpAny_sequenceKey ht.typeIs (by decide) ?_)
  refine wpAny_bind (wpAny_callSpecial?_slot (name := Str.ofString "__getitem__") ht.typeIs PyProof.Rows.slot_tuple_getitem
    (wpAny_call_entry PyProof.Rows.slot_tuple_getitem ht.typeIs entry_tuple_getitem ?_ (args_tuple_getitem _ _)))
  show wpAny _ _ (Builtin.Tuple.tupleItemsOf (.ref t) >>= _) _ _ s
  refine wpAny_bind (tupleItemsOf_ ht ?_)
  refine wpAny_bind (wpAny_typeOf hTs ?_)
  rw [if_pos (by decide)]
  refine wpAny_bind (applied_rev hs ps ?_)
  have hno : ¬ ((((items.size : Int) - 1) == 0 && (-1 : Int) == 1 && items.size == items.size) = true) := by
    rw [show ((-1 : Int) == 1) = false by decide, Bool.and_false, Bool.false_and]
    exact Bool.false_ne_true
  show wpAny _ _ (if (((items.size : Int) - 1) == 0 && (-1 : Int) == 1 && items.size == items.size) = true then _ else _) _ _ s
  rw [if_neg hno, pick_rev]
  first
    | exact wpAny_bind (m := Builtin.Tuple.tupleExact _) (wpAny_newObj_type (wpAny_pure ⟨_, rfl, wpAny_pure h⟩) htake)
    | exact wpAny_bind (m := Builtin.Tuple.tupleExact _) (wpAny_newObj_type (wpAny_bind (wpAny_pure (wpAny_pure ⟨_, rfl, wpAny_pure h⟩))) htake)
    | exact wpAny_bind (wpAny_bind (m := Builtin.Tuple.tupleExact _) (wpAny_newObj_type (wpAny_pure (wpAny_pure ⟨_, rfl, wpAny_pure h⟩)) htake))
    | exact wpAny_bind (wpAny_bind (m := Builtin.Tuple.tupleExact _) (wpAny_newObj_type (wpAny_pure ⟨_, rfl, wpAny_pure h⟩) htake))
end
def tRevA (K : PySem.W.Frag) (te : TE) : TE := fun σ H Q => te σ H fun x H1 => ∃ a xs, x = .ref a ∧ ((SqL K H1 a xs ∧ ∀ p, H1 p = none → Q (.ref p) (upd H1 p (.lst xs.reverse))) ∨ (SqT K H1 a xs ∧ ∀ p, H1 p = none → Q (.ref p) (upd H1 p (.tup xs.reverse))))
section
variable {X : Cx}
theorem pe_revA {e : Expr} {te : TE} {k : Nat} {p1 p2 p3 pos : Pos} (he : PE X e te) : PE X (.Subscript e (.Slice none none (some (.UnaryOp .USub (.Constant (.int 1) k p1) p2)) p3) pos) (tRevA X.K te) := by
  refine ⟨fun pins s σ H Q I h => ?_⟩
  refine Subscript_ (thn (he.run pins s σ H _ I h) fun v s1 ⟨x, H1, I1, r1, q1⟩ => ?_)
  obtain ⟨a, xs, ex, hx⟩ := q1
  subst ex
  cases r1
  have hst : PO X (some (.UnaryOp .USub (.Constant (.int 1) k p1) p2)) (tPart (tUn (rU fun i => .int (-i)) (tC (.int 1)))) := po_some (pe_un un_neg pe_int)
  refine wpAny_Slice (thn (po_none.run pins s1 σ H1 (fun o H2 => o = none ∧ H2 = H1) I1 ⟨rfl, rfl⟩) fun vl s2 ⟨l, H2, I2, pl, el, e2⟩ => ?_)
  subst el e2
  refine thn (po_none.run pins s2 σ H2 (fun o H3 => o = none ∧ H3 = H2) I2 ⟨rfl, rfl⟩) fun vu s3 ⟨u, H3, I3, pu, eu, e3⟩ => ?_
  subst eu e3
  refine thn (hst.run pins s3 σ H3 (fun o H4 => o = some (-1) ∧ H4 = H3) I3 ⟨1, rfl, -1, rfl, rfl, rfl⟩) fun vs s4 ⟨o, H4, I4, ps, eo, e4⟩ => ?_
  subst eo e4
  cases pl
  cases pu
  have I5 : Inv X pins σ H4 { s4 with heap := s4.heap.push { cls := .type "slice", data := .fields #[.none, .none, vs] } } := I4.kept (t' := s4.toks) fun b ob q => Heap.get?_push_of_some _ q
  show wpAny (model X.prog X.w) X.A (subscriptTail e (.Slice none none (some (.UnaryOp .USub (.Constant (.int 1) k p1) p2)) p3) (.ref a) (.ref s4.heap.objs.size)) (EP X pins σ Q) X.xe { s4 with heap := s4.heap.push { cls := .type "slice", data := .fields #[.none, .none, vs] } }
  rcases hx with ⟨hx, q⟩ | ⟨hx, q⟩
  · obtain ⟨its, r, ht, hz⟩ := I5.list hx
    have hlen := r.length
    refine tail_any (ops := [.ref a, .ref s4.heap.objs.size]) ht.isList.typeIs (PySem.slot_list_getitem.lookup) ?_ (by with_unfolding_all rfl)
    refine wpAny_getItem_list_slice ht.isList (Heap.IsSliceOf.new _ .none .none vs) .none .none ps (by decide) ?_ (by rw [List.size_toArray]; omega)
    rw [PySem.W.krv_pick]
    refine ⟨.ref _, _, I5.laid (t' := s4.toks) (o := .lst xs.reverse) (fun b ob q => Heap.get?_push_of_some _ q) (Nat.le_refl _) ?_, rfl, q _ (I5.hok.fresh (Nat.le_refl _))⟩
    exact ⟨by rw [List.length_reverse]; exact hz, _, 0, r.reverse, Heap.get?_push_size _ rfl⟩
  · obtain ⟨its, r, ht, hz⟩ := I5.tuple hx
    have hlen := r.length
    refine tail_any (ops := [.ref a, .ref s4.heap.objs.size]) ht.typeIs (PyProof.Rows.slot_tuple_getitem.lookup) ?_ (by with_unfolding_all rfl)
    refine getItem_tuple_rev ht (Heap.IsSliceOf.new _ .none .none vs) ps ?_ (by rw [List.size_toArray]; omega)
    refine ⟨.ref _, _, I5.laid (t' := s4.toks) (o := .tup xs.reverse) (fun b ob q => Heap.get?_push_of_some _ q) (Nat.le_refl _) ?_, rfl, q _ (I5.hok.fresh (Nat.le_refl _))⟩
    exact ⟨by rw [List.length_reverse]; exact hz, _, r.reverse, IsTup.new _ _⟩
end
def gRev : D → Option Pd
  | .lst xs => some (.f (.lst xs.reverse))
  | .tup xs => some (.d (.tup xs.reverse))
  | _ => none
section
variable {X : Cx} {F : Fr0} {W : WX} {e : Expr} {pos : Pos}
theorem re_rev {t : Ex} {k : Nat} {p1 p2 p3 : Pos} (hK : F.G.K = X.K) (he : PE X e (TEx F W t)) : PE X (.Subscript e (.Slice none none (some (.UnaryOp .USub (.Constant (.int 1) k p1) p2)) p3) pos) (TEx F W (eUn gRev t)) := by
  refine pe_imp (pe_revA he) fun σ H Q h => tex_un (r := fun x H1 Q => ∃ a xs, x = .ref a ∧ ((SqL X.K H1 a xs ∧ ∀ p, H1 p = none → Q (.ref p) (upd H1 p (.lst xs.reverse))) ∨ (SqT X.K H1 a xs ∧ ∀ p, H1 p = none → Q (.ref p) (upd H1 p (.tup xs.reverse))))) ?_ h
  intro σ ρ H B v x p Q s t e k
  unfold gRev at e
  split at e <;> cases e
  · obtain ⟨a, us, rfl, q1, d1⟩ := t.lst
    refine ⟨a, us, rfl, .inl ⟨.inl (.inl q1), fun p hp => ?_⟩⟩
    obtain ⟨st, r⟩ := new_lst s hp d1.rev
    exact k _ _ _ st r
  · obtain ⟨a, us, rfl, q1, d1⟩ := t.tup
    rw [hK] at q1
    refine ⟨a, us, rfl, .inr ⟨q1, fun p hp => ?_⟩⟩
    obtain ⟨st, r⟩ := new_tup s hp d1.rev
    exact k _ _ _ st r
end
end PL
set_option maxHeartbeats 4000000
/-! ### small helps for printed derivations -/
namespace PL
open PySem L2 PySem.Spec PyProof.Rows
section
variable {X : Cx} {F : Fr0} {W : WX} {elt tg it : Expr} {ifs : List Expr} {scope : Scope} {own : List (Str × Nat)} {pos spos : Pos} {t : Itx} {ct : CT} {cond : Rho → Rs Bool} {te : Ex}
theorem rs_setComp (o : Bool) {i : Nat} {y : Str} {py : Pos} (hK : F.G.K = X.K) (hc : X.calm = true) (hN : X.N.Nodup) (hii : F.iom[i]? ≠ some true) (hi : PI X tg it (TIx F W t)) (ok : BlkOk X.N X.env.scope scope own) (hvs : own.map (·.2) = ct.slots) (hio : ∀ i ∈ ct.slots, F.iom[i]? ≠ some true)
    (hg : ∀ (s : Shared) (H : Hp) (C : Addr) (cl : List (Str × Addr)) (fp : List Addr), PG (X.blk s H scope (compEnvC scope cl C X.env) fp) tg (gCT X.K ct))
    (ht : ∀ (s : Shared) (H : Hp) (C : Addr) (cl : List (Str × Addr)) (fp : List Addr), PTs (X.blk s H scope (compEnvC scope cl C X.env) fp) ifs (TTx F WF cond))
    (he : ∀ (s : Shared) (H : Hp) (C : Addr) (cl : List (Str × Addr)) (fp : List Addr), PE (X.blk s H scope (compEnvC scope cl C X.env) fp) elt (TEx F WF te))
    (hy : X.N[i]? = some y := by rfl) (hyl : X.env.scope.names.lookup y = some .local := by rfl) (hsw : swapsWith (.ListComp elt [⟨tg, it, ifs, 0⟩] scope pos) (some (.Name y py)) spos.line X.env = pure true := by rfl) (hs : ∀ x, foldedSetIterable it X.env x = pure x := by intro _; rfl) :
    PS X (.Assign [.Name y py] (.ListComp elt [⟨tg, it, ifs, 0⟩] scope pos) spos) (TSx F W (sAsg (eComp t ct cond te) (gS o i))) :=
  ps_imp (ps_setLc hc hN hy hyl hsw hi ok hg ht he hs) fun D σ H ⟨ρ, B, s, h⟩ => tex_comp hK hvs hio ⟨ρ, B, s, aft_ex s h fun a v ρ1 H1 B1 st r q => by
    have q' := AftT.from_ (st.s s) (aft_asg q (q_s o i _ _))
    have r' := PdR.back (Hs' := F.H0) (fun _ n => s.dom0 n) r
    cases o with
    | true => exact aft_set st.sr hii r' q'
    | false => exact aft_setD st.sr hii r' q'⟩
theorem pts_no : PTs X [] (TTx F WF fun ρ => .ok true ρ) := ⟨fun pins s σ H Q I ⟨ρ, B, sr, h⟩ => pts_nil.run pins s σ H Q I (h true H B (.refl sr) rfl)⟩
end
/-- no test -/
def tYesP : Rho → Rs Bool := fun ρ => .ok true ρ
section
variable {X : Cx} {F : Fr0} {W : WX} {K : PySem.W.Frag}
theorem pts_y : PTs X [] (TTx F WF tYesP) := pts_no
theorem ct_one {i : Nat} {x : Str} {pos : Pos} (hN : X.N.Nodup) (hi : X.N[i]? = some x := by rfl) (hx : Loc X.env.scope x := by first | exact Or.inl rfl | exact Or.inr rfl) (hf : X.fn x = true ∨ X.env.scope.names.lookup x = some .local := by first | exact .inl rfl | exact .inr rfl) : PG X (.Name x pos) (gCT K (.one i)) :=
  pg_name hN hi hx hf
theorem ct_many {is : List Nat} {es : List Expr} {k : Nat} {pos : Pos} (hc : X.calm = true) (h : PGs X es (gNames is)) (hn : (assignEach es X.env).length = is.length := by rfl) (hst : (assignEach es X.env).findIdx? (·.1) = none := by rfl) : PG X (.Tuple es k pos) (gCT X.K (.many is)) := by
  show PG X _ (gTup X.K is.length (gNames is))
  rw [← hn]
  exact pg_tup hc h rfl hst
theorem cts_nil : PGs X [] (gNames []) := pgs_nil
theorem cts_cons {i : Nat} {is : List Nat} {x : Str} {es : List Expr} {pos : Pos} (hN : X.N.Nodup) (h : PGs X es (gNames is)) (hi : X.N[i]? = some x := by rfl) (hx : Loc X.env.scope x := by first | exact Or.inl rfl | exact Or.inr rfl) (hf : X.fn x = true ∨ X.env.scope.names.lookup x = some .local := by first | exact .inl rfl | exact .inr rfl)
    (hs : (assignEach ((.Name x pos) :: es) X.env).map (·.2) = assign (.Name x pos) X.env :: (assignEach es X.env).map (·.2) := by rfl) : PGs X (.Name x pos :: es) (gNames (i :: is)) :=
  pgs_cons (pg_name hN hi hx hf) h hs
/-! rules with the frame's K -/
theorem opr_eq (hK : F.G.K = X.K) (hu : X.A.units + 64 < cLine) : OpR X (compareOp .Eq) (rEqD F.G.K) := by rw [hK]; exact op_eqD hu
theorem opr_ne (hK : F.G.K = X.K) (hu : X.A.units + 64 < cLine) : OpR X (compareOp .NotEq) (rNeD F.G.K) := by rw [hK]; exact op_neD hu
theorem cr_len (hK : F.G.K = X.K) : CallR X (.builtin "len") (fun xs H Q => ∃ x n, xs = [x] ∧ LenV F.G.K x H n ∧ Q (.int n) H) := by rw [hK]; exact call_len
theorem cr_list (hK : F.G.K = X.K) : CallR X (.type "list") (fun xs H Q => ∃ p ys, xs = [.ref p] ∧ (SqL F.G.K H p ys ∨ SqT F.G.K H p ys) ∧ ∀ l, H l = none → Q (.ref l) (upd H l (.lst ys))) := by rw [hK]; exact call_list_of
theorem cr_tuple (hK : F.G.K = X.K) : CallR X (.type "tuple") (fun xs H Q => ∃ p ys, xs = [.ref p] ∧ ((SqL F.G.K H p ys ∧ ∀ l, H l = none → Q (.ref l) (upd H l (.tup ys))) ∨ (SqT F.G.K H p ys ∧ Q (.ref p) H))) := by rw [hK]; exact call_tuple_of
theorem crr_all (hK : F.G.K = X.K) (hc : X.calm = true) : CallR X (.builtin "all") (fun vs H Q => ∃ (a : Addr) (bs : List Bool), vs = [V.ref a] ∧ SqL F.G.K H a (bs.map V.bl) ∧ Q (.bl (bs.all id)) H) := by rw [hK]; exact L2.cr_all hc
theorem crr_any (hK : F.G.K = X.K) (hc : X.calm = true) : CallR X (.builtin "any") (fun vs H Q => ∃ (a : Addr) (bs : List Bool), vs = [V.ref a] ∧ SqL F.G.K H a (bs.map V.bl) ∧ Q (.bl (bs.any id)) H) := by rw [hK]; exact L2.cr_any hc
theorem crr_sum (hK : F.G.K = X.K) (hc : X.calm = true) : CallR X (.builtin "sum") (rSum F.G.K) := by rw [hK]; exact L2.cr_sum hc
theorem crr_max (hK : F.G.K = X.K) (hc : X.calm = true) : CallR X (.builtin "max") (fun xs H Q => (∃ i j, xs = [.int i, .int j] ∧ Q (.int (if j > i then j else i)) H) ∨ rMax F.G.K xs H Q) := by rw [hK]; exact (call_max2 hc).or (cr_max hc)
theorem crr_min (hK : F.G.K = X.K) (hc : X.calm = true) : CallR X (.builtin "min") (fun xs H Q => (∃ i j, xs = [.int i, .int j] ∧ Q (.int (if j < i then j else i)) H) ∨ rMin F.G.K xs H Q) := by rw [hK]; exact (call_min2 hc).or (cr_min hc)
def cMax := cOr cMax2 cMaxL
def cMin := cOr cMin2 cMinL
theorem c_max : CallS F (fun xs H Q => (∃ i j, xs = [.int i, .int j] ∧ Q (.int (if j > i then j else i)) H) ∨ rMax F.G.K xs H Q) cMax := CallS.or c_max2 c_maxL
theorem c_min : CallS F (fun xs H Q => (∃ i j, xs = [.int i, .int j] ∧ Q (.int (if j < i then j else i)) H) ∨ rMin F.G.K xs H Q) cMin := CallS.or c_min2 c_minL
theorem crr_sortI (hK : F.G.K = X.K) : CallR X (.builtin "sorted") (rSortedI F.G.K) := by rw [hK]; exact cr_sortedI
theorem crr_repr (hK : F.G.K = X.K) (hgd : X.A.guards = some []) (hu : X.A.units + 65 < cLine) : CallR X (.builtin "repr") (rRepr F.G.K) := by rw [hK]; exact cr_repr hgd hu
theorem re_gint {x : Str} {i : Int} {pos : Pos} (hg : Gl X x) (h : ∃ t, X.mg x = some (.int i t)) (hdb : (x == ("__debug__" : Str)) = false := by decide) : PE X (.Name x pos) (TEx F W (eK (.int i))) := by
  obtain ⟨t, h⟩ := h
  exact re_glob (v := .int i) (fun _ _ => .int i) hg h ⟨t, rfl⟩ hdb
theorem re_gstr {x z : Str} {pos : Pos} (hg : Gl X x) (h : ∃ t, X.mg x = some (.str z t)) (hdb : (x == ("__debug__" : Str)) = false := by decide) : PE X (.Name x pos) (TEx F W (eK (.str z))) := by
  obtain ⟨t, h⟩ := h
  exact re_glob (v := .str z) (fun _ _ => .str z) hg h ⟨t, rfl⟩ hdb
theorem bb_int' : bootBuiltins "int" = some (.type "int") := bb_int
end
theorem nio {Fr : Fr0} {N i : Nat} {io : Option Nat} (h : Fr.iom = maskOf N io) (hne : io ≠ some i) : Fr.iom[i]? ≠ some true := by rw [h]; exact mask_not hne
theorem nios {Fr : Fr0} {N : Nat} {io : Option Nat} {is : List Nat} (h : Fr.iom = maskOf N io) (hne : ∀ i ∈ is, io ≠ some i) : ∀ i ∈ is, Fr.iom[i]? ≠ some true := fun i hi => nio h (hne i hi)
theorem r64 {k : Nat} {A : Around} (r : Room k A) : A.units + 64 < cLine := by have := r.un; omega
theorem r65 {k : Nat} {A : Around} (r : Room k A) : A.units + 65 < cLine := by have := r.un; omega
theorem r0 {k : Nat} {A : Around} (r : Room k A) : A.units < cLine := by have := r.un; omega
/-! binding with keywords, no defaults -/
theorem vals_getD {xs : List V} {us : List Value} (h : Vals xs us) (i : Nat) : RelV (xs.getD i .non) (us.getD i .none) := by
  rw [List.getD_eq_getElem?_getD, List.getD_eq_getElem?_getD]
  cases e : xs[i]? with
  | none =>
    have : us[i]? = none := by rw [List.getElem?_eq_none_iff, ← h.length]; exact List.getElem?_eq_none_iff.mp e
    rw [this]; exact rfl
  | some v =>
    obtain ⟨u, e2, r⟩ := h.get e
    rw [e2]; exact r
theorem vals_app {xs ys : List V} {us ws : List Value} (h : Vals xs us) (k : Vals ys ws) : Vals (xs ++ ys) (us ++ ws) := h.append k
theorem vals_map {f : Nat → V} {g : Nat → Value} (h : ∀ i, RelV (f i) (g i)) : ∀ is : List Nat, Vals (is.map f) (is.map g)
  | [] => .nil
  | i :: is => .cons (h i) (vals_map h is)
section
variable {K : PySem.W.Frag} {x qual : Str} {params : Arguments} {body : List Stmt} {sc : Scope} {kws : List (Str × V)} {f : Addr} {fd : FuncData} {ps ks : List Str} {n : Nat}
def permG (idx : List Nat) (us ws : List Value) : List Value := idx.map fun i => (us ++ ws).getD i .none
theorem mb_perm (F : FunD K x qual params body sc [] kws f fd) (idx : List Nat) (hl : idx.length = ps.length)
    (h : ∀ (kV doc pm : Value) (an : Option Addr) (cdv ct : Value) (us ws : List Value), us.length = n → ws.length = ks.length → bindArgs (PySem.W.fnOf x qual params body sc .none kV doc pm an cdv ct) ⟨us, ks.zip ws⟩ = pure (ps.zip (permG idx us ws))) : MB K fd ps n ks (idx.map .arg) (permG idx) where
  to := fun s us ws X l1 l2 => by
    obtain ⟨oc, od, dV, kV, doc, pm, an, cdv, ct, osl, rfl, lk, hcd, hD, hK⟩ := F.ex
    rcases hD with ⟨_, rfl⟩ | ⟨e, _⟩
    · exact .of_eq (h kV doc pm an cdv ct us ws l1 l2)
    · exact absurd rfl e
  rel := fun {vs us zs ws} l1 l2 r1 r2 => by
    have q := vals_map (fun i => vals_getD (vals_app r1 r2) i) idx
    unfold srcV permG
    rw [List.map_map]
    exact q
  len := by rw [List.length_map]; exact hl
theorem ok_perm {G : Gx} {idx : List Nat} : SrcOk G (idx.map .arg) := fun d v h => by
  obtain ⟨i, _, e⟩ := List.mem_map.mp h
  cases e
theorem mb_pos (F : FunD K x qual params body sc [] kws f fd) (hn : n = ps.length)
    (h : ∀ (kV doc pm : Value) (an : Option Addr) (cdv ct : Value) (us : List Value), us.length = ps.length → bindArgs (PySem.W.fnOf x qual params body sc .none kV doc pm an cdv ct) ⟨us, []⟩ = pure (ps.zip us)) : MB K fd ps n [] (argsN n) (fun us _ => us) :=
  mb_all hn (F.bindsN h)
end
end PL
set_option maxHeartbeats 4000000
/-! ### the law's end -/
namespace PL
open PySem L2 PySem.Spec PyProof.Rows
/-- the law's def, called at the script, gives True -/
theorem law_end {P : Program} {w : World} {K : PySem.W.Frag} {mg mb : Str → Option Value} {k : Nat} {fa a : Addr} {fd : FuncData} {x : Str} {f : FT} {G : Gx} {s₁ : Shared} {vs : List Value} {ns : List Int}
    (hGK : G.K = K) (KX : K.In s₁.heap) (hns : s₁.heap.Ns mainGlobals mg) (hb : s₁.heap.Ns builtinsNs mb) (hbb : ∀ x : Str, x ≠ "__name__" → mb x = bootBuiltins x)
    (hlim : s₁.heap.NoLimit) (hg : s₁.gens = #[]) (ha : s₁.heap.get? a = some { cls := .type "list", data := .seq vs.toArray }) (hi : IntsAre vs ns) (hl : ns.length ≤ sizeLine) (hr : Room k callerA)
    (F : ∀ base : Heap, K.In base → base.Ns mainGlobals mg → FnG P w K mg base k fa fd [x] (spOf G 1 none f)) (hbind : ∀ (s : Shared) (u : Value), BindsTo s fd ⟨[u], []⟩ [(x, u)])
    (hf : ∃ out, f [.st (ns.map .int)] = .ok (.bl true) false out) :
    codeAny (model P w) callerA (.call (.ref fa) ⟨[.ref a], []⟩) (fun r s' => r = .ok (.ret (.bool true)) ∧ OldK s₁.heap s'.heap ∧ s'.os = s₁.os ∧ AllBare s'.gens) s₁ := by
  have rv := vals_ints hi
  have lenV := hi.length
  have core : ∀ H : Hp, Only H → SqF K H a (ns.map V.int) → HOk P w H s₁.heap → (∀ b, H b ≠ none → b = a) → (H a ≠ none → K.lookup a = none) → codeAny (model P w) callerA (.call (.ref fa) ⟨[.ref a], []⟩)
      (fun r s' => r = .ok (.ret (.bool true)) ∧ OldK s₁.heap s'.heap ∧ s'.os = s₁.os ∧ AllBare s'.gens) s₁ := by
    intro H hO hS hok hA hK
    have away : ∀ {b : Addr} {o : Obj} {es : Array DictEntry} {ep : Nat}, s₁.heap.get? b = some o → o.data = .dict es ep → H b = none := fun {b o es ep} e d => Classical.byContradiction fun q => by
      cases hA b q
      rw [ha] at e; cases e
      exact nomatch (show Data.seq vs.toArray _ = Data.dict es ep from d)
    have nsK : ∀ {b : Addr} {m : Str → Option Value}, s₁.heap.Ns b m → (hidT s₁.heap H).Ns b m := fun ⟨o, es, ep, e, d, r⟩ => ⟨o, es, ep, hidT_get e (away e d), d, r⟩
    have inB : K.In (hidT s₁.heap H) := fun b o e => hidT_get (KX b o e) (Classical.byContradiction fun q => by
      cases hA b q
      rw [hK q] at e; cases e)
    have e0 : Env0 P w K mg (hidT s₁.heap H) callerA [] s₁ H :=
      ⟨rfl, ⟨inB, nsK hns, ⟨mb, nsK hb, hbb⟩, let ⟨mc, h1, h2⟩ := hlim; ⟨mc, nsK h1, h2⟩⟩, fun b o e => of_hidT e, Nat.le_of_eq (hidT_size _ _), trivial, fun b hb => absurd (show b ∈ ([] : List Addr) from hb) (by simp), hok, .of_eq hg⟩
    obtain ⟨out, hf⟩ := hf
    have sp : spOf G 1 none f [.ref a] H (fun v _ => v = .bl true) fun _ _ _ => False := by
      refine ⟨[.st (ns.map .int)], fun _ => False, PreF.mk rfl rfl (fun i d e _ => ?_) (fun i d e z => nomatch z) (fun _ z => False.elim z), ?_⟩
      · cases i with
        | zero => cases e; exact ⟨_, rfl, .st (by rw [hGK]; exact hS) (DRs.ofInts ns)⟩
        | succ i => cases e
      · rw [hf]
        intro v H' B' _ r
        cases (r : DR G H' B' (.bl true) v)
        rfl
    refine codeAny_mono ((F _ inB (nsK hns)).run callerA [] s₁ H ⟨[.ref a], []⟩ [.ref a] [.ref a] _ _ rfl hr e0 (hbind s₁ (.ref a)) (.cons rfl .nil) sp) fun r s' h => ?_
    cases r with
    | error e =>
      obtain ⟨_, _, _, _, _, _, _, _, _, _, _, _, z⟩ := h
      exact False.elim z
    | ok fl =>
      cases fl with
      | next => exact False.elim h
      | brk => exact False.elim h
      | cont => exact False.elim h
      | ret u =>
        obtain ⟨v, H', os, bare, un, hok', r', q⟩ := h
        cases (show v = .bl true from q)
        cases (show u = Value.bool true from r')
        refine ⟨rfl, OldK.of_keep fun b o e => ?_, os, bare⟩
        rcases hO b with z | ⟨ob, xs, z⟩
        · exact un.keep b o e z (fun y => absurd (show b ∈ ([] : List Addr) from y) (by simp)) (by simp)
        · obtain ⟨e1, _⟩ := hok b _ z
          obtain ⟨e2, _⟩ := hok' b _ (un.frzs b ob _ z)
          rw [e] at e1; cases e1
          exact e2
  cases hk : K.lookup a with
  | some o =>
    have e := KX a o hk
    rw [ha] at e
    cases e
    exact core (fun _ => none) (fun _ => .inl rfl) (.inr ⟨_, vs.toArray, _, hk, rfl, rfl, rfl, by rw [List.size_toArray, lenV]; exact hl, by simpa using rv⟩) (fun b u z => nomatch (show (none : Option HO) = some u from z)) (fun b z => absurd rfl z) fun z => absurd rfl z
  | none =>
    let fz : HO := .frz { cls := .type "list", data := .seq vs.toArray } (.lst (ns.map V.int))
    let H : Hp := fun b => if b = a then some fz else none
    have at_ : ∀ b u, H b = some u → b = a ∧ u = fz := fun b u z => by
      by_cases hb : b = a
      · exact ⟨hb, (Option.some.inj ((if_pos hb).symm.trans z)).symm⟩
      · exact nomatch (if_neg hb).symm.trans z
    refine core H (fun b => ?_) (.inl ⟨_, if_pos rfl⟩) (fun b u z => ?_) (fun b z => ?_) fun _ => hk
    · by_cases hb : b = a
      · exact .inr ⟨_, _, if_pos hb⟩
      · exact .inl (if_neg hb)
    · obtain ⟨hb, hu⟩ := at_ b u z
      subst hb hu
      exact ⟨ha, by rw [List.length_map]; exact hl, vs, _, rv, ha⟩
    · cases q : H b with
      | none => exact absurd q z
      | some u => exact (at_ b u q).1
theorem walk_end {l : PySem.W.OpenLaw} {n k : Nat} {q : Program} {loose : List Str} {XP : (Str → Option Value) → Heap → Prop} {YP : World → Heap → Prop} {d : DefRec} {x : Str} (hn : l.most = some n) (hn2 : n ≤ sizeLine) (hdf : d.params.defaults = []) (hr : Room k callerA)
    (F : ∀ (w : World) (mg : Str → Option Value) (fa : Addr) (h : Heap), YP w h → h.Ns mainGlobals mg → mg d.name = some (.ref fa) → ∃ (K : PySem.W.Frag) (fd : FuncData) (f : FT) (G : Gx), G.K = K ∧ K.In h ∧ (∀ (s : Shared) (u : Value), BindsTo s fd ⟨[u], []⟩ [(x, u)]) ∧
      (∀ ns : List Int, ns.length ≤ n → ∃ out, f [.st (ns.map .int)] = .ok (.bl true) false out) ∧ ∀ base : Heap, K.In base → base.Ns mainGlobals mg → FnG l.prog w K mg base k fa fd [x] (spOf G 1 none f)) :
    PySem.W.WalkO q loose XP YP l.row.toRowW d [] (fun f vs => PySem.call f vs) := by
  refine Att.attach_call hn hdf fun w s₀ s₁ mg mb fa o pm cd doc a vs ns G Y ho hd hcd hmg hobj hints hlen hg => ?_
  obtain ⟨K, fd, f, Gx, hGK, KX, hb, hf, hF⟩ := F w mg fa _ Y G.T.g hmg
  exact law_end hGK KX G.T.g G.T.b G.T.builtins G.T.nolimit hg hobj hints (Nat.le_trans hlen hn2) hr hF hb (hf ns hlen)
end PL
set_option maxHeartbeats 4000000
/-! ### dicts: keys ints or texts (dic), tuples of them (dct) -/
namespace PL
open PySem L2 PySem.Spec PyProof.Rows
def keyOf : D → Option Key
  | .int i => some (.inl i)
  | .str s => some (.inr s)
  | _ => none
def keysOf1 : List D → Option (List Key)
  | [] => some []
  | d :: ds => match keyOf d, keysOf1 ds with
    | some k, some ks => some (k :: ks)
    | _, _ => none
def keysOf : D → Option (List Key)
  | .tup ds => keysOf1 ds
  | _ => none
theorem keyOf_eq {d : D} {k : Key} (h : keyOf d = some k) : d = keyD k := by
  cases d <;> simp [keyOf] at h <;> subst h <;> rfl
theorem keyOf_D (k : Key) : keyOf (keyD k) = some k := by cases k <;> rfl
theorem keysOf1_eq : ∀ {ds : List D} {ks : List Key}, keysOf1 ds = some ks → ds = ks.map keyD
  | [], _, h => by cases h; rfl
  | d :: ds, ks, h => by
    unfold keysOf1 at h
    cases e1 : keyOf d with
    | none => simp [e1] at h
    | some k =>
      cases e2 : keysOf1 ds with
      | none => simp [e1, e2] at h
      | some r => simp only [e1, e2] at h; cases h; rw [keyOf_eq e1, keysOf1_eq e2]; rfl
theorem keysOf1_D : ∀ ks : List Key, keysOf1 (ks.map keyD) = some ks
  | [] => rfl
  | k :: ks => by
    show (match keyOf (keyD k), keysOf1 (ks.map keyD) with | some k, some ks => some (k :: ks) | _, _ => none) = _
    rw [keyOf_D, keysOf1_D ks]
theorem keysOf_eq {d : D} {ks : List Key} (h : keysOf d = some ks) : d = keysD ks := by
  cases d <;> try cases h
  exact congrArg D.tup (keysOf1_eq h)
theorem keysOf_D (ks : List Key) : keysOf (keysD ks) = some ks := keysOf1_D ks
/-- the one key is the other -/
def kEq (a b : D) : Bool := match keyOf a, keyOf b with
  | some x, some y => decide (x = y)
  | _, _ => false
def tEq (a b : D) : Bool := match keysOf a, keysOf b with
  | some x, some y => decide (x = y)
  | _, _ => false
theorem kEq_D (a b : Key) : kEq (keyD a) (keyD b) = decide (a = b) := by
  unfold kEq; rw [keyOf_D, keyOf_D]
theorem tEq_D (a b : List Key) : tEq (keysD a) (keysD b) = decide (a = b) := by
  unfold tEq; rw [keysOf_D, keysOf_D]
def dget (eq : D → D → Bool) (ds : List (D × D)) (k : D) : Option D := (ds.find? fun p => eq p.1 k).map (·.2)
def dput (eq : D → D → Bool) (ds : List (D × D)) (k v : D) : List (D × D) := if (ds.any fun p => eq p.1 k) = true then ds.map (fun p => if eq p.1 k then (p.1, v) else p) else ds ++ [(k, v)]
section
variable {G : Gx} {H : Hp} {B : Addr → Prop} {κ : Type} [DecidableEq κ] {emb : κ → D} {eq : D → D → Bool}
theorem get_rel (he : ∀ a b, eq (emb a) (emb b) = decide (a = b)) {k : κ} : ∀ {ds : List (D × D)} {kvs : List (κ × V)}, ds.map (·.1) = kvs.map (fun p => emb p.1) → DRp G H B ds (kvs.map (·.2)) →
    (∃ d v, dget eq ds (emb k) = some d ∧ valV kvs k = some v ∧ DR G H B d v) ∨ (dget eq ds (emb k) = none ∧ valV kvs k = none)
  | [], [], _, _ => .inr ⟨rfl, rfl⟩
  | [], _ :: _, e, _ => by simp at e
  | _ :: _, [], e, _ => by simp at e
  | (kd, d) :: ds, (kk, v) :: kvs, e, r => by
    simp only [List.map_cons, List.cons.injEq] at e
    obtain ⟨e1, e2⟩ := e
    subst e1
    cases r with
    | cons r1 r2 =>
      by_cases z : kk = k
      · left
        refine ⟨d, v, ?_, valV_pos z, r1⟩
        have : eq (emb kk) (emb k) = true := by rw [he]; exact decide_eq_true z
        simp [dget, List.find?_cons, this]
      · have q : eq (emb kk) (emb k) = false := by rw [he]; exact decide_eq_false z
        have e3 : dget eq ((emb kk, d) :: ds) (emb k) = dget eq ds (emb k) := by simp [dget, List.find?_cons, q]
        rw [e3, valV_neg z]
        exact get_rel he e2 r2
theorem any_rel (he : ∀ a b, eq (emb a) (emb b) = decide (a = b)) {k : κ} : ∀ {ds : List (D × D)} {kvs : List (κ × V)}, ds.map (·.1) = kvs.map (fun p => emb p.1) → (ds.any fun p => eq p.1 (emb k)) = kvs.any fun kv => decide (kv.1 = k)
  | [], [], _ => rfl
  | [], _ :: _, e => by simp at e
  | _ :: _, [], e => by simp at e
  | (kd, d) :: ds, (kk, v) :: kvs, e => by
    simp only [List.map_cons, List.cons.injEq] at e
    obtain ⟨e1, e2⟩ := e
    subst e1
    rw [List.any_cons, List.any_cons, any_rel he e2, he]
theorem upd_rel (he : ∀ a b, eq (emb a) (emb b) = decide (a = b)) {k : κ} {x : D} {v : V} (hx : DR G H B x v) : ∀ {ds : List (D × D)} {kvs : List (κ × V)}, ds.map (·.1) = kvs.map (fun p => emb p.1) → DRp G H B ds (kvs.map (·.2)) →
    (ds.map fun p => if eq p.1 (emb k) then (p.1, x) else p).map (·.1) = (kvs.map fun kv => if kv.1 = k then (kv.1, v) else kv).map (fun p => emb p.1) ∧ DRp G H B (ds.map fun p => if eq p.1 (emb k) then (p.1, x) else p) ((kvs.map fun kv => if kv.1 = k then (kv.1, v) else kv).map (·.2))
  | [], [], _, _ => ⟨rfl, .nil⟩
  | [], _ :: _, e, _ => by simp at e
  | _ :: _, [], e, _ => by simp at e
  | (kd, d) :: ds, (kk, w) :: kvs, e, r => by
    simp only [List.map_cons, List.cons.injEq] at e
    obtain ⟨e1, e2⟩ := e
    subst e1
    cases r with
    | cons r1 r2 =>
      obtain ⟨q1, q2⟩ := upd_rel he hx e2 r2
      by_cases z : kk = k
      · have : eq (emb kk) (emb k) = true := by rw [he]; exact decide_eq_true z
        simp only [List.map_cons, this, if_true, if_pos z]
        exact ⟨by rw [q1], .cons hx q2⟩
      · have : eq (emb kk) (emb k) = false := by rw [he]; exact decide_eq_false z
        simp only [List.map_cons, this, Bool.false_eq_true, if_false, if_neg z]
        exact ⟨by rw [q1], .cons r1 q2⟩
theorem DRp.app : ∀ {ds es : List (D × D)} {vs ws : List V}, DRp G H B ds vs → DRp G H B es ws → DRp G H B (ds ++ es) (vs ++ ws)
  | [], _, _, _, h, k => by cases h; exact k
  | (a, d) :: ds, _, _, _, h, k => by
    cases h with
    | cons h1 h2 => exact .cons h1 (DRp.app h2 k)
theorem DRp.length : ∀ {ds : List (D × D)} {vs : List V}, DRp G H B ds vs → ds.length = vs.length
  | [], _, h => by cases h; rfl
  | (k, d) :: ds, _, h => by
    cases h with
    | cons h1 h2 => simp [DRp.length h2]
theorem put_rel (he : ∀ a b, eq (emb a) (emb b) = decide (a = b)) {k : κ} {x : D} {v : V} (hx : DR G H B x v) {ds : List (D × D)} {kvs : List (κ × V)} (e : ds.map (·.1) = kvs.map (fun p => emb p.1)) (r : DRp G H B ds (kvs.map (·.2))) :
    (dput eq ds (emb k) x).map (·.1) = (putK kvs k v).map (fun p => emb p.1) ∧ DRp G H B (dput eq ds (emb k) x) ((putK kvs k v).map (·.2)) := by
  unfold dput putK
  rw [any_rel he e]
  by_cases z : (kvs.any fun kv => decide (kv.1 = k)) = true
  · rw [if_pos z, if_pos z]
    exact upd_rel he hx e r
  · rw [if_neg z, if_neg z]
    refine ⟨by rw [List.map_append, List.map_append, e]; rfl, ?_⟩
    rw [List.map_append]
    exact r.app (.cons hx .nil)
theorem dr_key : ∀ {k : Key} {v : V}, DR G H B (keyD k) v → v = kV k
  | .inl i, _, h => by cases h; rfl
  | .inr s, _, h => by cases h; rfl
theorem drs_keys : ∀ {ks : List Key} {vs : List V}, DRs G H B (ks.map keyD) vs → vs = ks.map kV
  | [], _, h => by cases h; rfl
  | k :: ks, _, h => by
    cases h with
    | cons h1 h2 => rw [dr_key h1, drs_keys h2]; rfl
theorem dr_keys {ks : List Key} {v : V} (h : DR G H B (keysD ks) v) : ∃ b, v = .ref b ∧ H b = some (.tup (ks.map kV)) := by
  cases h with
  | tup r hs => rw [drs_keys hs] at r; exact ⟨_, rfl, r⟩
theorem TR.key {k : Key} {v : V} (h : TR G H B (keyD k) v) : v = kV k := by
  rcases h with h | ⟨a, e, h⟩
  · exact dr_key h
  · cases k <;> rcases h with ⟨_, _, z, _⟩ | ⟨_, _, z, _⟩ | ⟨_, _, z, _⟩ <;> cases z
theorem TR.keys {ks : List Key} {v : V} (h : TR G H B (keysD ks) v) : ∃ b, v = .ref b ∧ H b = some (.tup (ks.map kV)) := dr_keys h.toTup
theorem TR.dic {ds : List (D × D)} {v : V} (h : TR G H B (.dic ds) v) : ∃ a kvs, v = .ref a ∧ H a = some (.dK kvs) ∧ ds.map (·.1) = kvs.map (fun p => keyD p.1) ∧ DRp G H B ds (kvs.map (·.2)) := by
  rcases h with h | ⟨a, e, h⟩
  · cases h with
    | dicK n r e hs => exact ⟨_, _, rfl, r, e, hs⟩
  · rcases h with ⟨_, _, e1, _⟩ | ⟨ds', kvs, e1, e2, e3, e4⟩ | ⟨_, _, e1, _⟩
    · cases e1
    · cases e1; exact ⟨a, kvs, e, e2, e3, e4⟩
    · cases e1
theorem TR.dct {ds : List (D × D)} {v : V} (h : TR G H B (.dct ds) v) : ∃ a kvs, v = .ref a ∧ H a = some (.dT kvs) ∧ ds.map (·.1) = kvs.map (fun p => keysD p.1) ∧ DRp G H B ds (kvs.map (·.2)) := by
  rcases h with h | ⟨a, e, h⟩
  · cases h with
    | dicT n r e hs => exact ⟨_, _, rfl, r, e, hs⟩
  · rcases h with ⟨_, _, e1, _⟩ | ⟨_, _, e1, _⟩ | ⟨ds', kvs, e1, e2, e3, e4⟩
    · cases e1
    · cases e1
    · cases e1; exact ⟨a, kvs, e, e2, e3, e4⟩
end
/-- the look-up: no promise where the key is no key of that kind; some none: not there -/
def dlook : D → D → Option (Option D)
  | .dic ds, k => match keyOf k with
    | some _ => some (dget kEq ds k)
    | none => none
  | .dct ds, k => match keysOf k with
    | some _ => some (dget tEq ds k)
    | none => none
  | _, _ => none
def dstore : D → D → D → Option D
  | .dic ds, k, v => match keyOf k with
    | some _ => if small (ds.length + 1) then some (.dic (dput kEq ds k v)) else none
    | none => none
  | .dct ds, k, v => match keysOf k with
    | some _ => if small (ds.length + 1) then some (.dct (dput tEq ds k v)) else none
    | none => none
  | _, _, _ => none
section
variable {G : Gx} {H : Hp} {B : Addr → Prop}
theorem look_ok {x k : D} {v w : V} {o : Option D} (hx : TR G H B x v) (hk : TR G H B k w) (e : dlook x k = some o) : ∃ a ov, v = .ref a ∧ DGet H a w ov ∧ ((∃ d u, o = some d ∧ ov = some u ∧ DR G H B d u) ∨ (o = none ∧ ov = none)) := by
  cases x <;> try cases e
  · rename_i ds
    unfold dlook at e
    simp only at e
    cases ek : keyOf k with
    | none => simp [ek] at e
    | some kk =>
      simp only [ek] at e
      cases e
      have := keyOf_eq ek
      subst this
      obtain ⟨a, kvs, rfl, h1, h2, h3⟩ := hx.dic
      have := hk.key
      subst this
      refine ⟨a, valV kvs kk, rfl, .k h1, ?_⟩
      rcases get_rel kEq_D (k := kk) h2 h3 with ⟨d, u, q1, q2, q3⟩ | ⟨q1, q2⟩
      · exact .inl ⟨d, u, q1, q2, q3⟩
      · exact .inr ⟨q1, q2⟩
  · rename_i ds
    unfold dlook at e
    simp only at e
    cases ek : keysOf k with
    | none => simp [ek] at e
    | some kk =>
      simp only [ek] at e
      cases e
      have := keysOf_eq ek
      subst this
      obtain ⟨a, kvs, rfl, h1, h2, h3⟩ := hx.dct
      obtain ⟨b, rfl, hb⟩ := hk.keys
      refine ⟨a, valV kvs kk, rfl, .t h1 hb, ?_⟩
      rcases get_rel tEq_D (k := kk) h2 h3 with ⟨d, u, q1, q2, q3⟩ | ⟨q1, q2⟩
      · exact .inl ⟨d, u, q1, q2, q3⟩
      · exact .inr ⟨q1, q2⟩
theorem store_ok {x k d x' : D} {a : Addr} {w u : V} (hx : OwR G H B x a) (hk : TR G H B k w) (hd : DR G H B d u) (mu : ∀ b, B b → Mut (H b)) (ha : B a) (e : dstore x k d = some x') : ∃ o, DPut H a w u (upd H a o) ∧ OwR G (upd H a o) B x' a ∧ Mut (some o) := by
  have mono : ∀ o, Mono H B (upd H a o) B := fun o => ⟨fun b ob e n => by rw [upd_ne (fun z => n (by rw [z]; exact ha))]; exact e, mu, fun _ b => .inl b⟩
  cases x <;> try cases e
  · rename_i ds
    unfold dstore at e
    simp only at e
    cases ek : keyOf k with
    | none => simp [ek] at e
    | some kk =>
      simp only [ek] at e
      split at e
      · rename_i hs
        cases e
        have := keyOf_eq ek
        subst this
        rcases hx with ⟨_, _, z, _⟩ | ⟨ds', kvs, e1, h1, h2, h3⟩ | ⟨_, _, z, _⟩
        · cases z
        · cases e1
          have := hk.key
          subst this
          obtain ⟨p1, p2⟩ := put_rel kEq_D (k := kk) hd h2 h3
          have hl : kvs.length < sizeLine := by
            have h3l := h3.length
            rw [List.length_map] at h3l
            have := small_ok hs
            omega
          exact ⟨.dK (putK kvs kk u), .k h1 hl, .inr (.inl ⟨_, _, rfl, upd_same, p1, p2.mono (mono _)⟩), trivial⟩
        · cases z
      · cases e
  · rename_i ds
    unfold dstore at e
    simp only at e
    cases ek : keysOf k with
    | none => simp [ek] at e
    | some kk =>
      simp only [ek] at e
      split at e
      · rename_i hs
        cases e
        have := keysOf_eq ek
        subst this
        rcases hx with ⟨_, _, z, _⟩ | ⟨_, _, z, _⟩ | ⟨ds', kvs, e1, h1, h2, h3⟩
        · cases z
        · cases z
        · cases e1
          obtain ⟨b, rfl, hb⟩ := hk.keys
          obtain ⟨p1, p2⟩ := put_rel tEq_D (k := kk) hd h2 h3
          have hl : kvs.length < sizeLine := by
            have h3l := h3.length
            rw [List.length_map] at h3l
            have := small_ok hs
            omega
          exact ⟨.dT (putK kvs kk u), .t h1 hb hl, .inr (.inr ⟨_, _, rfl, upd_same, p1, p2.mono (mono _)⟩), trivial⟩
      · cases e
end
/-! d[k] -/
def rIxDict : R2 := fun x y H Q => ∃ a v, x = .ref a ∧ DGet H a y (some v) ∧ Q v H
def gIxDict : D → D → Option Pd := fun x k => match dlook x k with
  | some (some d) => some (.d d)
  | _ => none
def gIxA : D → D → Option Pd := gOr gIx gIxDict
section
variable {X : Cx} {F : Fr0} {W : WX}
theorem ixr_dict (hu : X.A.units + 1 < cLine) : IxR X rIxDict := by
  intro value slice pins s σ H x y v u Q I rx ry h hs
  obtain ⟨a, w, rfl, g, q⟩ := h
  obtain rfl : v = Value.ref a := rx
  exact tail_any (dict_typeIs I g) PySem.F.slot_dict_getitem.lookup (d_getItem hu I g ry fun w' s' I' r => ⟨w, H, I', r, q⟩) hs
theorem o_ixDict : OpS F rIxDict gIxDict := by
  intro σ ρ H B v w x y p Q s h1 h2 e k
  unfold gIxDict at e
  cases e1 : dlook x y with
  | none => simp [e1] at e
  | some o =>
    cases o with
    | none => simp [e1] at e
    | some d =>
      simp only [e1] at e
      cases e
      obtain ⟨a, ov, rfl, g, q⟩ := look_ok h1 h2 e1
      rcases q with ⟨d', u, z1, z2, z3⟩ | ⟨z1, _⟩
      · cases z1
        subst z2
        exact ⟨a, u, rfl, g, k u H B (.refl s) z3⟩
      · cases z1
theorem o_ixA : OpS F (fun x y H Q => rIxA F.G.K x y H Q ∨ rIxDict x y H Q) gIxA := OpS.or o_ix o_ixDict
theorem ixr_A {K : PySem.W.Frag} (hK : K = X.K) (hu : X.A.units + 1 < cLine) : IxR X (fun x y H Q => rIxA K x y H Q ∨ rIxDict x y H Q) := (ixr_all hK).or (ixr_dict hu)
/-! k in d -/
def gInD (neg : Bool) : D → D → Option Pd := fun k x => match dlook x k with
  | some o => some (.d (.bl (if neg then !o.isSome else o.isSome)))
  | none => none
def rInDict (neg : Bool) : R2 := fun y x H Q => ∃ a o, x = .ref a ∧ DGet H a y o ∧ Q (.bl (if neg then !o.isSome else o.isSome)) H
theorem opr_inDict (hu : X.A.units + 1 < cLine) : OpR X (compareOp .In) (rInDict false) := by
  intro pins s σ H y x iv u Q I ry rx h
  obtain ⟨a, o, rfl, g, q⟩ := h
  obtain rfl : u = Value.ref a := rx
  exact d_in hu I g ry fun s' I' => ⟨.bl o.isSome, H, I', rfl, q⟩
theorem opr_notInDict (hu : X.A.units + 1 < cLine) : OpR X (compareOp .NotIn) (rInDict true) := by
  intro pins s σ H y x iv u Q I ry rx h
  obtain ⟨a, o, rfl, g, q⟩ := h
  obtain rfl : u = Value.ref a := rx
  exact d_notIn hu I g ry fun s' I' => ⟨.bl (!o.isSome), H, I', rfl, q⟩
theorem o_inDict (neg : Bool) : OpS F (rInDict neg) (gInD neg) := by
  intro σ ρ H B v w x y p Q s h1 h2 e k
  unfold gInD at e
  cases e1 : dlook y x with
  | none => simp [e1] at e
  | some o =>
    simp only [e1] at e
    cases e
    obtain ⟨a, ov, rfl, g, q⟩ := look_ok h2 h1 e1
    have : ov.isSome = o.isSome := by
      rcases q with ⟨d', u, z1, z2, _⟩ | ⟨z1, z2⟩ <;> rw [z1, z2] <;> rfl
    refine ⟨a, ov, rfl, g, ?_⟩
    rw [this]
    exact k _ H B (.refl s) (.bl _)
end
end PL
set_option maxHeartbeats 4000000
/-! ### x in a list or tuple of any data; stores and augmented stores in own lists and dicts -/
namespace PL
open PySem L2 PySem.Spec PyProof.Rows
def rInSeq (K : PySem.W.Frag) (neg : Bool) : R2 := fun x y H Q => ∃ d ds, Dp K H x d ∧ (Dp K H y (.list ds) ∨ Dp K H y (.tuple ds)) ∧ SeqAt.shaped d = true ∧ SeqAt.shaped (.list ds) = true ∧ Q (.bl (if neg then !ds.any (fun z => PyData.eqv z d) else ds.any fun z => PyData.eqv z d)) H
theorem shaped_lt {ds : List PyData} (h : SeqAt.shaped (.list ds) = true) : SeqAt.shaped (.tuple ds) = true := by
  unfold SeqAt.shaped at *
  simpa [PyData.canLay0, PyData.depth] using h
section
variable {X : Cx}
theorem opr_inSeq (hu : X.A.units + 65 < cLine) : OpR X (compareOp .In) (rInSeq X.K false) := by
  intro pins s σ H x y v u Q I rx ry h
  obtain ⟨d, ds, hd, he, sd, se, q⟩ := h
  obtain ⟨as, r1⟩ := Dp.reads I d x v hd rx
  rcases he with he | he
  · obtain ⟨bs, r2⟩ := Dp.reads I (.list ds) y u he ry
    exact SeqAt.in_list_reads r2 r1 (SeqAt.canLay_of_shaped se) (SeqAt.canLay_of_shaped sd) (room_in_shaped sd hu) ⟨.bl _, H, I, rfl, q⟩
  · obtain ⟨bs, r2⟩ := Dp.reads I (.tuple ds) y u he ry
    exact SeqAt.in_tuple_reads r2 r1 (SeqAt.canLay_of_shaped se) (SeqAt.canLay_of_shaped sd) (room_in_shaped sd hu) ⟨.bl _, H, I, rfl, q⟩
theorem opr_notInSeq (hu : X.A.units + 65 < cLine) : OpR X (compareOp .NotIn) (rInSeq X.K true) := by
  intro pins s σ H x y v u Q I rx ry h
  obtain ⟨d, ds, hd, he, sd, se, q⟩ := h
  obtain ⟨as, r1⟩ := Dp.reads I d x v hd rx
  rcases he with he | he
  · obtain ⟨bs, r2⟩ := Dp.reads I (.list ds) y u he ry
    exact SeqAt.notIn_list_reads r2 r1 (SeqAt.canLay_of_shaped se) (SeqAt.canLay_of_shaped sd) (room_in_shaped sd hu) ⟨.bl _, H, I, rfl, q⟩
  · obtain ⟨bs, r2⟩ := Dp.reads I (.tuple ds) y u he ry
    exact SeqAt.notIn_tuple_reads r2 r1 (SeqAt.canLay_of_shaped se) (SeqAt.canLay_of_shaped sd) (room_in_shaped sd hu) ⟨.bl _, H, I, rfl, q⟩
end
def inSeqD (x : D) (ds : List D) : Option Bool := match pyD x, pyDs ds with
  | some d, some es => if SeqAt.shaped d && SeqAt.shaped (.list es) then some (es.any fun z => PyData.eqv z d) else none
  | _, _ => none
def gInSeq (neg : Bool) : D → D → Option Pd
  | x, .lst ds => (inSeqD x ds).map fun b => .d (.bl (if neg then !b else b))
  | x, .tup ds => (inSeqD x ds).map fun b => .d (.bl (if neg then !b else b))
  | _, _ => none
section
variable {F : Fr0}
theorem inSeq_get {x : D} {ds : List D} {b : Bool} (e : inSeqD x ds = some b) : ∃ d es, pyD x = some d ∧ pyDs ds = some es ∧ SeqAt.shaped d = true ∧ SeqAt.shaped (.list es) = true ∧ b = es.any fun z => PyData.eqv z d := by
  unfold inSeqD at e
  cases e1 : pyD x with
  | none => simp [e1] at e
  | some d =>
    cases e2 : pyDs ds with
    | none => simp [e1, e2] at e
    | some es =>
      simp only [e1, e2] at e
      split at e
      · rename_i h
        rw [Bool.and_eq_true] at h
        cases e
        exact ⟨d, es, rfl, rfl, h.1, h.2, rfl⟩
      · cases e
theorem o_inSeq (neg : Bool) : OpS F (rInSeq F.G.K neg) (gInSeq neg) := by
  intro σ ρ H B v w x y p Q s h1 h2 e k
  cases y <;> try cases e
  · rename_i ds
    obtain ⟨b, eb, rfl⟩ := Option.map_eq_some_iff.mp e
    obtain ⟨d, es, e1, e2, s1, s2, rfl⟩ := inSeq_get eb
    exact ⟨d, es, h1.dp e1, .inl (h2.dp (by simp [pyD, e2])), s1, s2, by cases neg <;> exact k _ H B (.refl s) (.bl _)⟩
  · rename_i ds
    obtain ⟨b, eb, rfl⟩ := Option.map_eq_some_iff.mp e
    obtain ⟨d, es, e1, e2, s1, s2, rfl⟩ := inSeq_get eb
    exact ⟨d, es, h1.dp e1, .inr (h2.dp (by simp [pyD, e2])), s1, s2, by cases neg <;> exact k _ H B (.refl s) (.bl _)⟩
def gIn : D → D → Option Pd := gOr (gInSeq false) (gInD false)
def gNotIn : D → D → Option Pd := gOr (gInSeq true) (gInD true)
abbrev rInA (K : PySem.W.Frag) (neg : Bool) : R2 := fun x y H Q => rInSeq K neg x y H Q ∨ rInDict neg x y H Q
theorem o_in : OpS F (rInA F.G.K false) gIn := OpS.or (o_inSeq false) (o_inDict false)
theorem o_notin : OpS F (rInA F.G.K true) gNotIn := OpS.or (o_inSeq true) (o_inDict true)
theorem opr_in {X : Cx} (hK : F.G.K = X.K) (hu : X.A.units + 65 < cLine) : OpR X (compareOp .In) (rInA F.G.K false) := by
  rw [hK]
  exact (opr_inSeq hu).or (opr_inDict (by omega))
theorem opr_notin {X : Cx} (hK : F.G.K = X.K) (hu : X.A.units + 65 < cLine) : OpR X (compareOp .NotIn) (rInA F.G.K true) := by
  rw [hK]
  exact (opr_notInSeq hu).or (opr_notInDict (by omega))
end
/-! stores -/
def istore (x k d : D) : Option D := match x, k with
  | .lst ds, .int i => (ixN ds.length i).map fun m => .lst (ds.set m d)
  | x, k => dstore x k d
theorem PSet.or {X : Cx} {t t' : TSet} (h : PSet X t) (h' : PSet X t') : PSet X (fun o i v H Q => t o i v H Q ∨ t' o i v H Q) := by
  intro pins s σ H o i v ov iv u Q I r1 r2 r3 q
  rcases q with q | q
  · exact h pins s σ H o i v ov iv u Q I r1 r2 r3 q
  · exact h' pins s σ H o i v ov iv u Q I r1 r2 r3 q
def rSetD : TSet := fun o i v H Q => ∃ a H', o = .ref a ∧ DPut H a i v H' ∧ Q H'
theorem set_dict {X : Cx} (hu : X.A.units + 1 < cLine) : PSet X rSetD := by
  intro pins s σ H o i v ov iv u Q I r1 r2 r3 q
  obtain ⟨a, H', rfl, g, q⟩ := q
  obtain rfl : ov = Value.ref a := r1
  exact d_setItem hu I g r2 r3 fun s' I' => ⟨H', I', q⟩
abbrev rSetA : TSet := fun o i v H Q => rSetL o i v H Q ∨ rSetD o i v H Q
theorem istore_ok {G : Gx} {H : Hp} {B : Addr → Prop} {x k d x' : D} {a : Addr} {w u : V} (hx : OwR G H B x a) (hk : TR G H B k w) (hd : DR G H B d u) (mu : ∀ b, B b → Mut (H b)) (ha : B a) (e : istore x k d = some x') :
    ∃ o, OwR G (upd H a o) B x' a ∧ Mut (some o) ∧ ∀ Q : Hp → Prop, Q (upd H a o) → rSetA (.ref a) w u H Q := by
  have viaD : dstore x k d = some x' → ∃ o, OwR G (upd H a o) B x' a ∧ Mut (some o) ∧ ∀ Q : Hp → Prop, Q (upd H a o) → rSetA (.ref a) w u H Q := fun e => by
    obtain ⟨o, h1, h2, h3⟩ := store_ok hx hk hd mu ha e
    exact ⟨o, h2, h3, fun Q q => .inr ⟨a, _, rfl, h1, q⟩⟩
  unfold istore at e
  split at e
  · rename_i ds i
    obtain ⟨m, em, rfl⟩ := Option.map_eq_some_iff.mp e
    obtain ⟨vs, h1, h2⟩ := own_lst hx
    have hw := hk.int
    subst hw
    refine ⟨.lst (vs.set m u), .inl ⟨_, _, rfl, upd_same, (DRs.set hd m h2).mono ⟨fun b ob e n => by rw [upd_ne (fun z => n (by rw [z]; exact ha))]; exact e, mu, fun _ b => .inl b⟩⟩, trivial, fun Q q => .inl ⟨a, vs, i, m, rfl, rfl, h1, by rw [← h2.length]; exact em, q⟩⟩
  · exact viaD e
def gItemA (j : Nat) (t : Ex) : Pd → Rho → Rs Unit := fun p ρ => match p.dat, ρ[j]? with
  | some d, some (.own _) => (match t ρ with
    | .ok q ρ1 => (match q.get ρ1, ρ1[j]? with
      | some k, some (.own x) => (match istore x k d with
        | some x' => .ok () (ρ1.set j (.own x'))
        | none => .bad)
      | _, _ => .bad)
    | _ => .bad)
  | _, _ => .bad
theorem q_itemA (j : Nat) (t : Ex) : Quiet (gItemA j t) := fun p ρ x ρ' z => by
  unfold gItemA at z
  split at z <;> try cases z
  split at z <;> try cases z
  split at z <;> try cases z
  split at z <;> cases z
section
variable {X : Cx} {F : Fr0} {pos : Pos} {x : Str}
theorem rg_itemA (j : Nat) {t : Ex} {ie : Expr} {p2 : Pos} (hu : X.A.units + 1 < cLine) (hi : PE X ie (TEx F WF t)) (hN : X.N[j]? = some x := by rfl) (hv : Vis X.env.scope x := by first | exact Or.inl rfl | exact Or.inr (Or.inl rfl) | exact Or.inr (Or.inr rfl)) (hd : (x == ("__debug__" : Str)) = false := by decide)
    (hcd : (x == ("__classdict__" : Str)) = false := by decide) (ha : ∀ v, assign (.Subscript (.Name x p2) ie pos) X.env v = (do
      let ov ← holding [v] (eval (.Name x p2) X.env)
      let iv ← holding [v, ov] (eval ie X.env)
      standAt pos
      holding [v, ov, iv] (setItem ov iv v)
      release [v, ov, iv] []) := by intro _; rfl) : PG X (.Subscript (.Name x p2) ie pos) (TGx F (gItemA j t)) :=
  pg_imp (pg_sub (pv j hN hv hd hcd) hi (PSet.or set_list (set_dict hu)) ha) fun v σ H Q ⟨ρ, B, p, s, r, h⟩ => by
    unfold gItemA at h
    cases e1 : p.dat with
    | none => simp only [e1] at h; exact h.elim
    | some d =>
      cases e0 : ρ[j]? with
      | none => simp only [e1, e0] at h; exact h.elim
      | some sl0 =>
        cases sl0 <;> try (simp only [e1, e0] at h; exact h.elim)
        rename_i d0
        simp only [e1, e0] at h
        obtain ⟨B2, s2, m2, hd2⟩ := s.drop0 r e1
        obtain ⟨a, ha0, hb0, _, _⟩ := s2.own j _ d0 e0 rfl
        refine ⟨.ref a, ha0, ρ, B2, s2, ?_⟩
        cases e2 : t ρ with
        | er y ρ1 => simp only [e2] at h; exact h.elim
        | bad => simp only [e2] at h; exact h.elim
        | ok q ρ1 =>
          simp only [e2] at h
          intro w H1 B1 st rq
          cases e3 : q.get ρ1 with
          | none => simp only [e3] at h; exact h.elim
          | some z =>
            cases e4 : ρ1[j]? with
            | none => simp only [e3, e4] at h; exact h.elim
            | some sl =>
              cases sl <;> try (simp only [e3, e4] at h; exact h.elim)
              rename_i dl
              simp only [e3, e4] at h
              cases e5 : istore dl z d with
              | none => simp only [e5] at h; exact h.elim
              | some x' =>
                simp only [e5] at h
                obtain ⟨a', h1, h2, h3, _⟩ := st.sr.own j _ _ e4 rfl
                rw [ha0] at h1; cases h1
                have hd3 : DR F.G H1 B1 d v := hd2.mono (st.mono s2)
                obtain ⟨o, ow, mo, kk⟩ := istore_ok h3 (rq.tr st.sr e3) hd3 st.sr.mu h2 e5
                obtain ⟨u1, u2, u3⟩ := st.sr.upOwn (o := o) e4 ha0 mo ow
                refine kk _ ?_
                refine h σ _ B1 ⟨u1, (m2.trans (st.mono s2)).trans u2, fun i y e => ?_⟩
                have q1 : ρ1[i]? = some (.lent y) := by
                  rcases st.sl i with ⟨d1, d2, f1, f2⟩ | f2
                  · rw [e] at f1; cases f1
                  · rw [f2, e]
                exact lent_upOwn e4 i y q1
end
end PL
set_option maxHeartbeats 4000000
/-! ### {k: v for ..}, keys tuples of ints and texts (the library's proof for plain keys, turned to tuples) -/
namespace PL
open PySem L2 PySem.Spec PyProof.Rows
theorem d_dictSetT {X : Cx} {pins : List (Addr × Obj)} {σ : L2.St} {H : Hp} {s : Shared} {E : Value → Shared → Prop} {D b : Addr} {kvs : List (List Key × V)} {k : List Key} {v : V} {u r : Value} {Q : Unit → Shared → Prop} (hu : X.A.units < cLine)
    (I : Inv X pins σ H s) (hD : H D = some (.dT kvs)) (hz : kvs.length < sizeLine) (hb : H b = some (.tup (k.map kV))) (ry : RelV (.ref b) u) (rv : RelV v r)
    (h : ∀ s', Inv X pins σ (upd H D (.dT (putK kvs k v))) s' → Q () s') : wpAny (model X.prog X.w) X.A (dictSet D u r) Q E s := by
  cases (show u = Value.ref b from ry)
  obtain ⟨z, hd, xs, rel, dd⟩ := dt_of I.hok hD
  have hzv : xs.length ≤ sizeLine := by rw [← Paired.length rel]; exact z
  have hl : (putK kvs k v).length ≤ sizeLine := by have := length_putK kvs k v; omega
  refine wpAny_dictSet_heap (hsz := hzv) (show (tupleKind (mixKind X.prog X.w)).room X.A from hu) (key_of I.hok hb) dd fun h' dd' hs => h _ ?_
  obtain ⟨q, es, ep, hq, h2, h3, h4, _, h5⟩ := dd'
  refine d_write I (by rw [hD]; exact True.intro) hs ⟨q, hq⟩ ⟨hl, hd, _, (rel.put k hb rv).keeps fun c ys ec => ?_, q, es, ep, hq, h2, h3, h4, h5⟩
  rw [upd_ne (ne_of ec hD (fun z => nomatch z))]
  exact ec
section
variable {X : Cx}
def tDct (wi : TI) (g : TG) (tt : TT) (tk tv : TE) (vs : List Nat) : TE := fun σ H Q => wi σ H fun J H1 => ∀ D, H1 D = none → ∃ W : Nat → Nat → Hp → Prop, (∃ m, W 0 m (upd H1 D (.dT []))) ∧ ∀ i m H, W i m H →
  (J.stop i H ∧ Q (.ref D) H) ∨ (J.go i H ∧ ∃ Nx : Hp → Prop, (∀ H', Nx H' → ∃ m', m' < m ∧ W (i + 1) m' H') ∧ ∀ x H', J.yld i H x H' → g x (wipe σ vs) H' fun σ2 H2 => wipe σ2 vs = wipe σ vs ∧ tt σ2 H2 fun b H3 =>
    if b = true then tk σ2 H3 fun y H4 => tv σ2 H4 fun z H5 => ∃ kvs k b, y = .ref b ∧ H5 b = some (.tup (k.map kV)) ∧ H5 D = some (.dT kvs) ∧ kvs.length < sizeLine ∧ Nx (upd H5 D (.dT (putK kvs k z))) else Nx H3)
theorem dct_core {pins : List (Addr × Obj)} {s : Shared} {σ : L2.St} {H : Hp} {Q : VK} {kx vx tg iter : Expr} {ifs : List Expr} {scope : Scope} {own : List (Str × Nat)} {pos pos' : Pos} {wi : TI} {g : TG} {tt : TT} {tk tv : TE} {use : Option (Value → Sem Unit)} {Qf : Value → Shared → Prop}
    (hu : X.A.units < cLine) (hc : X.calm = true) (hN : X.N.Nodup) (I : Inv X pins σ H s) (hi : PI X tg iter wi) (ok : BlkOk X.N X.env.scope scope own)
    (hg : ∀ (s : Shared) (H : Hp) (C : Addr) (cl : List (Str × Addr)) (fp : List Addr), PG (X.blk s H scope (compEnvC scope cl C X.env) fp) tg g) (ht : ∀ (s : Shared) (H : Hp) (C : Addr) (cl : List (Str × Addr)) (fp : List Addr), PTs (X.blk s H scope (compEnvC scope cl C X.env) fp) ifs tt)
    (hk : ∀ (s : Shared) (H : Hp) (C : Addr) (cl : List (Str × Addr)) (fp : List Addr), PE (X.blk s H scope (compEnvC scope cl C X.env) fp) kx tk)
    (he : ∀ (s : Shared) (H : Hp) (C : Addr) (cl : List (Str × Addr)) (fp : List Addr), PE (X.blk s H scope (compEnvC scope cl C X.env) fp) vx tv) (hs : ∀ x, foldedSetIterable iter X.env x = pure x)
    (h : tDct wi g tt tk tv (own.map (·.2)) σ H Q)
    (hRR : ∀ D C s' m H', Inv X pins σ H' s' → Q (.ref D) H' → s'.heap.Ns C m → FpOk X pins H' C → compPost (model X.prog X.w) X.A X.xe use Qf (.ref D) C (.ok .next) s') :
    wpAny (model X.prog X.w) X.A (comprehension (.DictComp kx vx [⟨tg, iter, ifs, 0⟩] scope pos) scope X.env pos' newDict false (eval iter X.env) use) Qf X.xe s := by
  have hfree : ∀ y ∈ scope.names, y.2 = .free → ∃ c, X.env.cells.lookup y.1 = some c := fun y hy e => by
    rcases ok.free y hy e with k | k
    · exact I.ok.has _ (.inl k)
    · exact I.ok.has _ (.inr k)
  refine wpAny_comprehension_free (use := use) rfl hs (closure_ok hfree) ok.kind (fun y hy e => by rw [ok.uniq y hy, e])
    (thn (hi.run pins s σ H _ I h) fun xv s1 hx => thn hx fun itv s2 h2 => ?_)
  obtain ⟨it, fp, tn, J, H2, e, I2, T, st2, f2, q⟩ := h2
  subst e
  refine wpAny_newObj_type (newEnv_comp ?_)
  generalize hD : s2.heap.objs.size = D
  have hDn : H2 D = none := I2.hok.fresh (Nat.le_of_eq hD)
  obtain ⟨W, ⟨m0, w0⟩, turn⟩ := q D hDn
  -- the new list
  generalize hs3 : ({ s2 with heap := s2.heap.push { cls := .type "dict", data := .dict #[] } } : Shared) = s3
  have I3 : Inv X pins σ (upd H2 D (.dT [])) s3 := by
    rw [← hs3]
    refine I2.laid (t' := s2.toks) (fun b o e => Heap.get?_push_of_some _ e) (Nat.le_of_eq hD) ?_
    rw [← hD]
    exact dt_empty s2.heap I2.big
  have h3 : s3.heap = s2.heap.push { cls := .type "dict", data := .dict #[] } := by rw [← hs3]
  have sz : ∀ b ∈ fp, b < s2.heap.objs.size := fun b hb => by
    obtain ⟨o, e, _⟩ := T.obj _ _ st2 b hb
    exact Heap.lt_size e
  have f3 : ∀ b ∈ fp, FpOk X pins (upd H2 D (.dT [])) b ∧ b < s3.heap.objs.size := fun b hb => by
    have hlt := sz b hb
    refine ⟨⟨?_, (f2 b hb).2⟩, by rw [h3, Heap.size_push]; exact Nat.lt_succ_of_lt hlt⟩
    rw [upd_ne (by rw [← hD]; exact Nat.ne_of_lt hlt)]
    exact (f2 b hb).1
  have st3 : tn 0 s3.heap := T.keep _ _ _ st2 fun b _ o e => by rw [h3]; exact Heap.get?_push_of_some _ e
  have I4 := block_start I3 ok hN f3
  have pg := hg s3 (upd H2 D (.dT [])) s3.heap.objs.size (cellsFrom (s3.heap.objs.size + 1) scope.names (cloFrom X.env.cells scope.names [])) fp
  have pt := ht s3 (upd H2 D (.dT [])) s3.heap.objs.size (cellsFrom (s3.heap.objs.size + 1) scope.names (cloFrom X.env.cells scope.names [])) fp
  have pk := hk s3 (upd H2 D (.dT [])) s3.heap.objs.size (cellsFrom (s3.heap.objs.size + 1) scope.names (cloFrom X.env.cells scope.names [])) fp
  have pe := he s3 (upd H2 D (.dT [])) s3.heap.objs.size (cellsFrom (s3.heap.objs.size + 1) scope.names (cloFrom X.env.cells scope.names [])) fp
  show codeAny _ _ (.compStart (.DictComp kx vx [⟨tg, iter, ifs, 0⟩] scope pos) 0 (.ref it) (.ref D) (compEnvC scope (cellsFrom (s3.heap.objs.size + 1) scope.names (cloFrom X.env.cells scope.names [])) s3.heap.objs.size X.env)) (compPost (model X.prog X.w) X.A X.xe use Qf (.ref D) s3.heap.objs.size) { s3 with heap := pushCells (s3.heap.push { cls := .type "dict", data := .dict #[] }) scope.names }
  have nfp : ∀ b ∈ fp, (upd H2 D (.dT [])) b = none := fun b hb => (f3 b hb).1.1
  generalize hce : compEnvC scope (cellsFrom (s3.heap.objs.size + 1) scope.names (cloFrom X.env.cells scope.names [])) s3.heap.objs.size X.env = ce at I4 pg pt pk pe ⊢
  have cL : ce.locals = s3.heap.objs.size := by subst hce; rfl
  generalize hH3 : upd H2 D (.dT []) = H3 at I3 I4 pg pt pk pe w0 nfp f3
  generalize hs4 : ({ s3 with heap := pushCells (s3.heap.push { cls := .type "dict", data := .dict #[] }) scope.names } : Shared) = s4 at I4 ⊢
  have st4 : tn 0 s4.heap := T.keep _ _ _ st3 fun b _ o e => by rw [← hs4]; exact pushCells_keeps _ _ _ _ (Heap.get?_push_of_some _ e)
  have stat : ∀ {σ' : L2.St} {H' : Hp} {s' : Shared}, Inv (X.blk s3 H3 scope ce fp) [] σ' H' s' → (∀ b ∈ fp, H' b = none) → ∀ b ∈ fp, FpOk (X.blk s3 H3 scope ce fp) [] H' b := fun {σ' H' s'} I' hn b hb =>
    ⟨hn b hb, (I'.ok.exf b hb).1, I'.ok.exfs b hb, .inl hb, fun x c e => (I'.ok.exf b hb).2 x c e, fun p hp => absurd (show p ∈ ([] : List (Addr × Obj)) ++ [] from hp) (by simp)⟩
  have loop : codeAny (model X.prog X.w) X.A (.compLoop (.DictComp kx vx [⟨tg, iter, ifs, 0⟩] scope pos) 0 (.ref it) (.ref D) ce) (compPost (model X.prog X.w) X.A X.xe use Qf (.ref D) s3.heap.objs.size) s4 := by
    refine compLoop_anyD (fun n s' => ∃ i H', Inv (X.blk s3 H3 scope ce fp) [] (wipe σ (own.map (·.2))) H' s' ∧ tn i s'.heap ∧ (∀ b ∈ fp, H' b = none) ∧ W i n H') ?_ m0 ⟨0, H3, I4, st4, nfp, w0⟩
    rintro n s5 ⟨i, H5, I5, st5, n5, w5⟩
    rcases turn i n H5 w5 with ⟨stop, qq⟩ | ⟨go, Nx, hNx, step⟩
    · have td := T.done (X.blk s3 H3 scope ce fp) rfl rfl rfl hc i [] s5 _ H5 (fun _ _ => False) I5 (stat I5 n5) st5 stop
      refine thnF td fun r s6 ⟨hr, I6⟩ => ?_
      subst hr
      -- back in the def's context
      have I7 : Inv X pins σ H5 s6 := I3.call' (ch := fp) I6.os I6.base I6.hok I6.bare fun b hb => ⟨(f3 b hb).1.2.2.2.1, (f3 b hb).1.2.1, (f3 b hb).1.2.2.2.2.1, (f3 b hb).1.2.2.2.2.2⟩
      have nC : H5 s3.heap.objs.size = none := by
        have z : H5 ce.locals = none := I6.free
        rw [cL] at z
        exact z
      obtain ⟨m, hn, _⟩ := I6.loc
      have hn : s6.heap.Ns ce.locals m := hn
      rw [cL] at hn
      exact hRR D s3.heap.objs.size s6 m H5 I7 qq hn (I3.fpOk (Nat.le_refl _) nC)
    · have ti := T.item (X.blk s3 H3 scope ce fp) rfl rfl rfl hc i [] s5 _ H5 (fun _ _ => False) I5 (stat I5 n5) st5 go
      refine thnF ti fun r s6 ⟨u, hr, h6⟩ => ?_
      subst hr
      refine thnF h6 fun _ s7 ⟨x, H7, I7, r7, y7, st7, n7⟩ => ?_
      have I7' := I7.pinned (stat I7 n7) (T.obj _ _ st7)
      refine thnF (pg.run _ s7 _ H7 x u _ I7' r7 (step x H7 y7)) fun _ s8 ⟨σ8, H8, I8, hw8, q8⟩ => ?_
      refine thnF (pt.run _ s8 σ8 H8 _ I8 q8) fun b s9 ⟨H9, I9, q9⟩ => ?_
      -- the turn's end
      have fin : ∀ {s' : Shared} {H' : Hp}, Inv (X.blk s3 H3 scope ce fp) ([] ++ pinsAt fp s7.heap) σ8 H' s' → Nx H' → ∃ m, m < n ∧ ∃ i H', Inv (X.blk s3 H3 scope ce fp) [] (wipe σ (own.map (·.2))) H' s' ∧ tn i s'.heap ∧ (∀ b ∈ fp, H' b = none) ∧ W i m H' := fun {s' H'} I' nx => by
        obtain ⟨m', hm, w'⟩ := hNx H' nx
        have pin' : ∀ b ∈ fp, ∀ o, s7.heap.get? b = some o → s'.heap.get? b = some o ∧ H' b = none := fun b hb o e =>
          let z := I'.pin (b, o) (List.mem_append_right _ (List.mem_append_right _ (mem_pinsAt hb e)))
          ⟨z.1, z.2.1⟩
        have hl : (wipe σ (own.map (·.2))).length = σ8.length := by rw [← hw8, wipe_length]
        refine ⟨m', hm, i + 1, H', (I'.unpinned (pins := [])).weak hl (fun j v e => ?_), T.keep _ _ _ st7 fun b hb o e => (pin' b hb o e).1, fun b hb => ?_, w'⟩
        · rw [← hw8] at e
          exact (wipe_some e).1
        · obtain ⟨o, e, _⟩ := T.obj _ _ st7 b hb
          exact (pin' b hb o e).2
      cases b with
      | false =>
        simp only [Bool.false_eq_true, if_false] at q9 ⊢
        exact fin I9 q9
      | true =>
        simp only [if_true] at q9 ⊢
        refine thnF (pk.run _ s9 σ8 H9 _ I9 q9) fun z s10 ⟨yk, H10, I10, r10, q10⟩ => ?_
        refine thnF (pe.run _ s10 σ8 H10 _ I10 q10) fun z2 s11 ⟨yv, H11, I11, r11, kvs, k, kb, ek, hkb, hD11, hz11, nx⟩ => ?_
        subst ek
        exact d_dictSetT (X := X.blk s3 H3 scope ce fp) hu I11 hD11 hz11 hkb r10 r11 fun s12 I12 => fin I12 nx
  exact codeAny_compStart_dict loop (T.self X.A 0 _ _ _ st4 loop)
/-- as a value -/
theorem pe_dct {kx vx tg iter : Expr} {ifs : List Expr} {scope : Scope} {own : List (Str × Nat)} {pos : Pos} {wi : TI} {g : TG} {tt : TT} {tk tv : TE} (hu : X.A.units < cLine) (hc : X.calm = true) (hN : X.N.Nodup) (hi : PI X tg iter wi) (ok : BlkOk X.N X.env.scope scope own)
    (hg : ∀ (s : Shared) (H : Hp) (C : Addr) (cl : List (Str × Addr)) (fp : List Addr), PG (X.blk s H scope (compEnvC scope cl C X.env) fp) tg g) (ht : ∀ (s : Shared) (H : Hp) (C : Addr) (cl : List (Str × Addr)) (fp : List Addr), PTs (X.blk s H scope (compEnvC scope cl C X.env) fp) ifs tt)
    (hk : ∀ (s : Shared) (H : Hp) (C : Addr) (cl : List (Str × Addr)) (fp : List Addr), PE (X.blk s H scope (compEnvC scope cl C X.env) fp) kx tk)
    (he : ∀ (s : Shared) (H : Hp) (C : Addr) (cl : List (Str × Addr)) (fp : List Addr), PE (X.blk s H scope (compEnvC scope cl C X.env) fp) vx tv) (hs : ∀ x, foldedSetIterable iter X.env x = pure x := by intro _; rfl) :
    PE X (.DictComp kx vx [⟨tg, iter, ifs, 0⟩] scope pos) (tDct wi g tt tk tv (own.map (·.2))) := by
  refine ⟨fun pins s σ H Q I h => ?_⟩
  rw [arm_eval_DictComp]
  refine dct_core hu hc hN I hi ok hg ht hk he hs h fun D C s' m H' I' q hn f => ⟨m, hn, fun h'' sb => ?_⟩
  obtain ⟨f0, f1, f2, f3, f4, f5⟩ := f
  exact ⟨.ref D, H', I'.turned (t' := s'.toks) (fun b o hb e => (sb.2 b hb).trans e) f0 f1 f3 f4 f5, rfl, q⟩
end
end PL
set_option maxHeartbeats 4000000
/-! ### {k: v for ..} and dict([..]) over data, keys tuples -/
namespace PL
open PySem L2 PySem.Spec PyProof.Rows
def dcompG (ct : CT) (cond : Rho → Rs Bool) (tk tv : Ex) : List D → Rho → List (D × D) → Rs (List (D × D))
  | [], ρ, acc => .ok acc ρ
  | d :: ds, ρ, acc => match cStore ct d ρ with
    | none => .bad
    | some ρ1 => (match cond ρ1 with
      | .ok true ρ2 => (match tk ρ2 with
        | .ok pk ρ3 => (match pk.dat with
          | some k => (match tv ρ3 with
            | .ok pv ρ4 => (match pv.dat with
              | some y => (match keysOf k with
                | some _ => dcompG ct cond tk tv ds (wipeR ρ4 ct.slots) (dput tEq acc k y)
                | none => .bad)
              | none => .bad)
            | _ => .bad)
          | none => .bad)
        | _ => .bad)
      | .ok false ρ2 => dcompG ct cond tk tv ds (wipeR ρ2 ct.slots) acc
      | _ => .bad)
def eDComp (it : Itx) (ct : CT) (cond : Rho → Rs Bool) (tk tv : Ex) : Ex := fun ρ => (it ρ).bind fun z ρ1 => if freeR ρ1 ct.slots then (match dcompG ct cond tk tv z.1 (wipeR ρ1 ct.slots) [] with
    | .ok ds ρ2 => if small (ds.length + 1) then .ok (.f (.dct ds)) (unlend z.2 (restR ρ1 ct.slots ρ2)) else .bad
    | _ => .bad) else .bad
theorem dput_len (eq : D → D → Bool) (ds : List (D × D)) (k v : D) : ds.length ≤ (dput eq ds k v).length := by
  unfold dput
  split
  · rw [List.length_map]; exact Nat.le_refl _
  · rw [List.length_append]; omega
section
variable {X : Cx} {F : Fr0} {W : WX} {kx elt tg it : Expr} {ifs : List Expr} {scope : Scope} {own : List (Str × Nat)} {pos : Pos} {t : Itx} {ct : CT} {cond : Rho → Rs Bool} {tk te : Ex}
theorem dcompG_len : ∀ (zs : List D) (ρz : Rho) (az : List (D × D)) (out : List (D × D)) (ρo : Rho), dcompG ct cond tk te zs ρz az = .ok out ρo → az.length ≤ out.length
  | [], ρz, az, out, ρo, q => by cases q; exact Nat.le_refl _
  | z :: zs, ρz, az, out, ρo, q => by
    unfold dcompG at q
    split at q
    · cases q
    · split at q
      · split at q
        · split at q
          · split at q
            · split at q
              · split at q
                · exact Nat.le_trans (dput_len _ _ _ _) (dcompG_len _ _ _ _ _ q)
                · cases q
              · cases q
            · cases q
          · cases q
        · cases q
      · exact dcompG_len _ _ _ _ _ q
      · cases q
theorem tex_dcomp {vs : List Nat} {K : PySem.W.Frag} (hK : F.G.K = K) (hvs : vs = ct.slots) (hio : ∀ i ∈ ct.slots, F.iom[i]? ≠ some true) {σ : L2.St} {H : Hp} {Q : VK} (hq : TEx F W (eDComp t ct cond tk te) σ H Q) : tDct (TIx F W t) (gCT K ct) (TTx F WF cond) (TEx F WF tk) (TEx F WF te) vs σ H Q := by
  obtain ⟨ρ, B, s, h⟩ := hq
  rw [hvs]
  refine ⟨ρ, B, s, ?_⟩
  unfold eDComp at h
  cases e : t ρ with
  | er x ρ1 => rw [e] at h; exact fun c d H' B' st r => h c d H' B' st r
  | bad => rw [e] at h; exact h.elim
  | ok z ρ1 =>
    rw [e] at h
    obtain ⟨xs, l⟩ := z
    change AftG F W σ ρ H B _ Q (if freeR ρ1 ct.slots then _ else _) at h
    intro J ρm H1 B1 stm hlr wk
    cases hf : freeR ρ1 ct.slots with
    | false => rw [hf] at h; exact h.elim
    | true =>
      rw [hf, if_pos rfl] at h
      obtain ⟨P, p0, pst, pgo⟩ := wk
      have st1 := stm.lent' s hlr
      have sw := st1.sr.wiped (vs := ct.slots) hf
      have hww : wipe (wipe σ ct.slots) ct.slots = wipe σ ct.slots := wipe_idem σ ct.slots
      intro Df hD
      have pw : P (wipe σ ct.slots) (wipeR ρ1 ct.slots) H1 B1 := pst _ _ _ _ _ _ _ _ p0 (SStp.wiped st1.sr hf)
      have fin : ∀ r, AftG F W σ ρ H B (fun H' B' ρ' => PdR F H H' B' σ ρ') Q (match r with
          | .ok ds ρ2 => if small (ds.length + 1) = true then .ok (.f (.dct ds)) (unlend l (restR ρ1 ct.slots ρ2)) else .bad
          | _ => .bad) → ∀ acc ρ2, r = Rs.ok acc ρ2 → small (acc.length + 1) = true ∧ ∀ v H' B', Stp F σ ρ H B (unlend l (restR ρ1 ct.slots ρ2)) H' B' → PdR F H H' B' σ (unlend l (restR ρ1 ct.slots ρ2)) (.f (.dct acc)) v → Q v H' := fun r hr acc ρ2 er => by
        subst er
        cases e2 : small (acc.length + 1) with
        | false => simp only [e2] at hr; exact hr.elim
        | true => simp only [e2] at hr; exact ⟨rfl, hr⟩
      have fin0 := fin (dcompG ct cond tk te xs (wipeR ρ1 ct.slots) []) h
      -- the new list
      have s0 := Stp.allocB (o := .dT []) sw hD trivial
      refine ⟨fun i m Hi => m = xs.length - i ∧ i ≤ xs.length ∧ ∃ ρi Bi acc vacc, Stp F (wipe σ ct.slots) (wipeR ρ1 ct.slots) H1 B1 ρi Hi Bi ∧ freeR ρi ct.slots = true ∧ (∀ (k : Nat) sl, k ∈ ct.slots → ρi[k]? = some sl → sl = .un) ∧ P (wipe σ ct.slots) ρi Hi Bi ∧ Bi Df ∧ Hi Df = some (.dT vacc) ∧
          acc.map (·.1) = vacc.map (fun p => keysD p.1) ∧ DRp F.G Hi Bi acc (vacc.map (·.2)) ∧ dcompG ct cond tk te (xs.drop i) ρi acc = dcompG ct cond tk te xs (wipeR ρ1 ct.slots) [],
        ⟨xs.length, by simp, Nat.zero_le _, wipeR ρ1 ct.slots, fun b => B1 b ∨ b = Df, [], [], s0, ?_, fun k sl hk e => wipeR_in hk e, pst _ _ _ _ _ _ _ _ pw (s0.s sw), .inr rfl, upd_same, rfl, .nil, by rw [List.drop_zero]⟩, ?_⟩
      · refine List.all_eq_true.mpr fun j hj => ?_
        cases ej : (wipeR ρ1 ct.slots)[j]? with
        | none => rfl
        | some sl => rw [wipeR_in hj ej]; rfl
      rintro i m Hi ⟨rfl, hile, ρi, Bi, acc, vacc, sti, fri, uni, pi, bD, hDi, kacc, dacc, ceq⟩
      have cne : dcompG ct cond tk te xs (wipeR ρ1 ct.slots) [] ≠ .bad := fun z => by rw [z] at h; exact h.elim
      obtain ⟨g1, g2⟩ := pgo i _ ρi Hi Bi pi sti.sr
      have lni : ρi.length = (wipeR ρ1 ct.slots).length := by rw [← sti.sr.len, ← sw.len]
      -- D is no slot's
      have nD : ∀ {ρk : Rho} {Hk : Hp} {Bk : Addr → Prop}, Stp F (wipe σ ct.slots) (wipeR ρ1 ct.slots) H1 B1 ρk Hk Bk → ∀ (k : Nat) (sl : Sl) (d : D), ρk[k]? = some sl → sl.held = some d → (wipe σ ct.slots)[k]? ≠ some (some (.ref Df)) := fun {ρk Hk Bk} stk k sl d e1 e2 e3 => by
        obtain ⟨sl', d', q1, q2⟩ := stk.held' e1 e2
        obtain ⟨b, w1, w2, _⟩ := sw.own k sl' d' q1 q2
        rw [e3] at w1; cases w1
        obtain ⟨u, hu⟩ := sw.bdom w2
        rw [hD] at hu; cases hu
      by_cases hlt : i < xs.length
      · have hx : xs[i]? = some xs[i] := by simp [hlt]
        have hdrop : xs.drop i = xs[i] :: xs.drop (i + 1) := List.drop_eq_getElem_cons hlt
        obtain ⟨go, yl⟩ := g1 _ hx
        rw [hdrop] at ceq
        let NX : Hp → Prop := fun H' => ∃ ρk Bk acc' vacc', Stp F (wipe σ ct.slots) (wipeR ρ1 ct.slots) H1 B1 ρk H' Bk ∧ freeR ρk ct.slots = true ∧ (∀ (k : Nat) sl, k ∈ ct.slots → ρk[k]? = some sl → sl = .un) ∧ P (wipe σ ct.slots) ρk H' Bk ∧ Bk Df ∧ H' Df = some (.dT vacc') ∧
            acc'.map (·.1) = vacc'.map (fun p => keysD p.1) ∧ DRp F.G H' Bk acc' (vacc'.map (·.2)) ∧ dcompG ct cond tk te (xs.drop (i + 1)) ρk acc' = dcompG ct cond tk te xs (wipeR ρ1 ct.slots) []
        refine .inr ⟨go, NX, fun H' ⟨ρk, Bk, acc', vacc', q⟩ => ⟨xs.length - (i + 1), by omega, rfl, hlt, ρk, Bk, acc', vacc', q⟩, fun x H2 y => ?_⟩
        obtain ⟨y1, y2⟩ := yl x H2 y
        have st2 := sti.trans sw y1
        have hD2 : H2 Df = some (.dT vacc) := y1.keep Df _ hDi fun k d e1 e2 => nD sti k _ d e1 rfl e2
        have dacc2 := dacc.mono (y1.mono sti.sr)
        have bD2 := y1.bsub Df bD
        cases ec : cStore ct xs[i] ρi with
        | none => simp only [dcompG, ec] at ceq; exact absurd ceq.symm cne
        | some ρ2 =>
          simp only [dcompG, ec] at ceq
          refine ct_out hK y1.sr hio fri y2 ec fun σ2 s3 w1 w2 f3 => ⟨by rw [w1, hww], ?_⟩
          have tn : Turned F (wipe σ ct.slots) σ2 ρi ρ2 ct.slots := ⟨w1, w2, f3⟩
          have ln2 : ρ2.length = ρi.length := cStore_len ec
          -- the end of a turn
          have back : ∀ {ρ4 : Rho} {H4 : Hp} {B4 : Addr → Prop}, Stp F σ2 ρ2 H2 Bi ρ4 H4 B4 → Stp F (wipe σ ct.slots) ρi H2 Bi (wipeR ρ4 ct.slots) H4 B4 := fun {ρ4 H4 B4} st4 => Turned.back hww fri uni ln2 tn st4
          have frW : ∀ ρ4 : Rho, freeR (wipeR ρ4 ct.slots) ct.slots = true := fun ρ4 => List.all_eq_true.mpr fun j hj => by
            cases ej : (wipeR ρ4 ct.slots)[j]? with
            | none => rfl
            | some sl => rw [wipeR_in hj ej]; rfl
          refine ⟨ρ2, Bi, s3, ?_⟩
          cases econd : cond ρ2 with
          | bad => simp only [econd] at ceq; exact absurd ceq.symm cne
          | er x' ρ4 => simp only [econd] at ceq; exact absurd ceq.symm cne
          | ok b ρ4 =>
            simp only [econd] at ceq
            intro b' H4 B4 st4 eb
            subst eb
            have bk4 := back st4
            have stc := st2.trans sw bk4
            have hD4 : H4 Df = some (.dT vacc) := bk4.keep Df _ hD2 fun k d e1 e2 => nD sti k _ d e1 rfl e2
            cases b with
            | false =>
              rw [if_neg Bool.false_ne_true]
              exact ⟨wipeR ρ4 ct.slots, B4, acc, vacc, stc, frW ρ4, fun k sl hk e => wipeR_in hk e, pst _ _ _ _ _ _ _ _ (pst _ _ _ _ _ _ _ _ pi (y1.s sti.sr)) (bk4.s y1.sr), bk4.bsub Df bD2, hD4, kacc, dacc2.mono (bk4.mono y1.sr), ceq⟩
            | true =>
              rw [if_pos rfl]
              refine ⟨ρ4, B4, st4.sr, ?_⟩
              cases ek : tk ρ4 with
              | bad => simp only [ek] at ceq; exact absurd ceq.symm cne
              | er x' ρ5 => simp only [ek] at ceq; exact absurd ceq.symm cne
              | ok pk ρ5 =>
                simp only [ek] at ceq
                intro kv H5 B5 st5 rk
                cases epk : pk.dat with
                | none => simp only [epk] at ceq; exact absurd ceq.symm cne
                | some kd =>
                  simp only [epk] at ceq
                  obtain ⟨B6, st6, hd6⟩ := PdR.toDat st4.sr st5 rk epk
                  refine ⟨ρ5, B6, st6.sr, ?_⟩
                  cases ee : te ρ5 with
                  | bad => simp only [ee] at ceq; exact absurd ceq.symm cne
                  | er x' ρ6 => simp only [ee] at ceq; exact absurd ceq.symm cne
                  | ok p ρ6 =>
                    simp only [ee] at ceq
                    intro yv H7 B7 st7 rp
                    cases ep : p.dat with
                    | none => simp only [ep] at ceq; exact absurd ceq.symm cne
                    | some yd =>
                      simp only [ep] at ceq
                      cases eks : keysOf kd with
                      | none => simp only [eks] at ceq; exact absurd ceq.symm cne
                      | some ks =>
                        simp only [eks] at ceq
                        have ekd := keysOf_eq eks
                        subst ekd
                        obtain ⟨B8, st8, hd8⟩ := PdR.toDat st6.sr st7 rp ep
                        obtain ⟨kb, rfl, hkb⟩ := dr_keys (hd6.mono (st8.mono st6.sr))
                        have bk6 := back ((st4.trans s3 st6).trans s3 st8)
                        have stf := st2.trans sw bk6
                        have hD6 : H7 Df = some (.dT vacc) := bk6.keep Df _ hD2 fun k d e1 e2 => nD sti k _ d e1 rfl e2
                        have bD6 := bk6.bsub Df bD2
                        have dacc6 := dacc2.mono (bk6.mono y1.sr)
                        obtain ⟨f1, f2⟩ := Stp.floatSet (o := .dT (putK vacc ks yv)) sw stf hD bD6 (nD stf) trivial
                        obtain ⟨pr1, pr2⟩ := put_rel tEq_D (k := ks) hd8 kacc dacc6
                        refine ⟨vacc, ks, kb, rfl, hkb, hD6, ?_, wipeR ρ6 ct.slots, B8, dput tEq acc (keysD ks) yd, putK vacc ks yv, f1, frW ρ6, fun k sl hk e => wipeR_in hk e, ?_, bD6, upd_same, pr1, pr2.mono f2, ceq⟩
                        · -- the dict stays within the line
                          cases eout : dcompG ct cond tk te xs (wipeR ρ1 ct.slots) [] with
                          | bad => exact absurd eout cne
                          | er _ _ => rw [eout] at h; exact h.elim
                          | ok out ρo =>
                            rw [eout] at ceq
                            have l1 := dcompG_len _ _ _ _ _ ceq
                            obtain ⟨sm, _⟩ := fin0 out ρo eout
                            have l2 := small_ok sm
                            have l3 := dacc.length
                            have l4 := dput_len tEq acc (keysD ks) yd
                            rw [List.length_map] at l3
                            omega
                        · exact pst _ _ _ _ _ _ _ _ (pst _ _ _ _ _ _ _ _ (pst _ _ _ _ _ _ _ _ pi (y1.s sti.sr)) (bk6.s y1.sr)) ⟨f1.sr, f2, fun k d e => ⟨e, rfl⟩⟩
      · have ei : i = xs.length := by omega
        subst ei
        refine .inl ⟨g2 (Nat.le_refl _), ?_⟩
        rw [List.drop_length] at ceq
        obtain ⟨sm, kq⟩ := fin0 acc ρi ceq.symm
        have cb := comp_back st1.sr stm.sr hlr hf sti
        refine kq _ Hi Bi (stm.trans s cb) ⟨Df, rfl, bD, .inr (.inr ⟨acc, vacc, rfl, hDi, kacc, dacc⟩), stm.dom s hD, fun k sl d e1 e2 e3 => ?_⟩
        obtain ⟨sl', d', q1, q2⟩ := cb.held' e1 e2
        obtain ⟨b, w1, w2, _⟩ := stm.sr.own k sl' d' q1 q2
        rw [e3] at w1; cases w1
        obtain ⟨u, hu⟩ := stm.sr.bdom w2
        rw [hD] at hu; cases hu
theorem re_dcomp (hu : X.A.units < cLine) (hK : F.G.K = X.K) (hc : X.calm = true) (hN : X.N.Nodup) (hi : PI X tg it (TIx F W t)) (ok : BlkOk X.N X.env.scope scope own) (hvs : own.map (·.2) = ct.slots) (hio : ∀ i ∈ ct.slots, F.iom[i]? ≠ some true)
    (hg : ∀ (s : Shared) (H : Hp) (C : Addr) (cl : List (Str × Addr)) (fp : List Addr), PG (X.blk s H scope (compEnvC scope cl C X.env) fp) tg (gCT X.K ct))
    (ht : ∀ (s : Shared) (H : Hp) (C : Addr) (cl : List (Str × Addr)) (fp : List Addr), PTs (X.blk s H scope (compEnvC scope cl C X.env) fp) ifs (TTx F WF cond))
    (hk : ∀ (s : Shared) (H : Hp) (C : Addr) (cl : List (Str × Addr)) (fp : List Addr), PE (X.blk s H scope (compEnvC scope cl C X.env) fp) kx (TEx F WF tk))
    (he : ∀ (s : Shared) (H : Hp) (C : Addr) (cl : List (Str × Addr)) (fp : List Addr), PE (X.blk s H scope (compEnvC scope cl C X.env) fp) elt (TEx F WF te)) (hs : ∀ x, foldedSetIterable it X.env x = pure x := by intro _; rfl) :
    PE X (.DictComp kx elt [⟨tg, it, ifs, 0⟩] scope pos) (TEx F W (eDComp t ct cond tk te)) := by
  refine pe_imp (pe_dct hu hc hN hi ok hg ht hk he hs) fun _ _ _ h => tex_dcomp hK hvs hio h

end
end PL
set_option maxHeartbeats 4000000
/-! ### dict(xs), xs a list of pairs (key, value) -/
namespace PL
open PySem L2 PySem.Spec PyProof.Rows
def mergeT (kvs more : List (List Key × V)) : List (List Key × V) := more.foldl (fun acc kv => putK acc kv.1 kv.2) kvs
theorem KT.merge {H : Hp} : ∀ {more : List (List Key × V)} {ps : List (List Key × Addr × Value)} {kvs : List (List Key × V)} {xs : List (List Key × Addr × Value)}, KT H more ps → KT H kvs xs → KT H (mergeT kvs more) (storedAllH xs ps)
  | _, _, _, _, .nil, q => q
  | _, _, _, _, .cons (a := p) (b := q) h t, r => by
    have e := r.put p.1 (b := q.2.1) h.2.1 h.2.2
    have h1 : p.1 = q.1 := h.1
    rw [h1] at e
    show KT H (mergeT (putK _ p.1 p.2) _) (storedAllH (storedH _ q.1 q.2.1 q.2.2) _)
    rw [h1]
    exact KT.merge t e
theorem length_mergeT : ∀ (more kvs : List (List Key × V)), (mergeT kvs more).length ≤ kvs.length + more.length
  | [], kvs => by show kvs.length ≤ kvs.length + 0; omega
  | p :: r, kvs => by
    have h1 := length_mergeT r (putK kvs p.1 p.2)
    have h2 := length_putK kvs p.1 p.2
    show (mergeT (putK kvs p.1 p.2) r).length ≤ _
    rw [List.length_cons]; omega
section
variable {X : Cx}
theorem pairs_ofT {pins : List (Addr × Obj)} {σ : L2.St} {H : Hp} {s : Shared} (I : Inv X pins σ H s) : ∀ {ps : List Addr} {kvs : List (List Key × V)}, Paired (fun p kv => ∃ kb, SqT X.K H p [.ref kb, kv.2] ∧ H kb = some (.tup (kv.1.map kV))) ps kvs →
    ∃ prs : List (List Key × Addr × Value), KT H kvs prs ∧ prs.length = ps.length ∧ ∀ (j : Nat) (q : List Key × Addr × Value), prs[j]? = some q → ∃ (b : Addr), ps[j]? = some b ∧ IsTup s.heap b #[.ref q.2.1, q.2.2] ∧ H q.2.1 = some (.tup (q.1.map kV))
  | _, _, .nil => ⟨[], .nil, rfl, fun j q e => by simp at e⟩
  | _, _, .cons (a := p) (b := kv) h t => by
    obtain ⟨prs, r, hl, hp⟩ := pairs_ofT I t
    obtain ⟨kb, h, hkb⟩ := h
    obtain ⟨its, rv, ht, _⟩ := I.tuple h
    obtain ⟨u, y, ei, ru, ry⟩ := vals2 rv
    subst ei
    obtain rfl : u = Value.ref kb := ru
    refine ⟨(kv.1, kb, y) :: prs, .cons ⟨rfl, hkb, ry⟩ r, by rw [List.length_cons, List.length_cons, hl], fun j q e => ?_⟩
    cases j with
    | zero =>
      have e' : (kv.1, kb, y) = q := Option.some.inj e
      subst e'
      exact ⟨p, rfl, ht, hkb⟩
    | succ j =>
      obtain ⟨b, e1, e2, e3⟩ := hp j q (by simpa using e)
      exact ⟨b, by simpa using e1, e2, e3⟩
def rDictT (K : PySem.W.Frag) : List V → Hp → VK → Prop := fun xs H Q => ∃ (a : Addr) (ps : List Addr) (kvs : List (List Key × V)), xs = [.ref a] ∧ SqL K H a (ps.map V.ref) ∧ Paired (fun p kv => ∃ kb, SqT K H p [.ref kb, kv.2] ∧ H kb = some (.tup (kv.1.map kV))) ps kvs ∧
    ∀ p, H p = none → Q (.ref p) (upd H p (.dT (mergeT [] kvs)))
theorem call_dictPT (hcalm : X.calm = true) (hu : X.A.units + 2 < cLine) : CallR X (.type "dict") (rDictT X.K) := by
  intro pins s σ H xs us Q I r q
  obtain ⟨a, ps, kvs, ex, hq, hp, q⟩ := q
  subst ex
  obtain ⟨u, eu, rx⟩ := vals1 r
  subst eu
  cases rx
  obtain ⟨its, rv, pl, hz⟩ := I.list hq
  have ei := refs_at rv
  subst ei
  rw [List.length_map] at hz
  obtain ⟨prs, rel, hl, hpr⟩ := pairs_ofT I hp
  obtain ⟨o, n, ho, hc, hd, hdat⟩ := pl
  have hps : ∀ (j : Nat) (k v : Value), (prs.map fun q => ((Value.ref q.2.1, q.2.2) : Value × Value))[j]? = some (k, v) → ∃ q, prs[j]? = some q ∧ k = .ref q.2.1 ∧ v = q.2.2 := fun j k v e => by
    rw [List.getElem?_map] at e
    obtain ⟨q, e1, e2⟩ := Option.map_eq_some_iff.mp e
    cases e2
    exact ⟨q, e1, rfl, rfl⟩
  have ok : PlainSeq "list" s.heap a (ps.map Value.ref).toArray ∧ PairItems s.heap (ps.map Value.ref).toArray (fun j => ps.getD j 0) (prs.map fun q => (Value.ref q.2.1, q.2.2)) := by
    refine ⟨⟨o, n, ho, hc, hd, hdat⟩, by simp [hl], fun j k v e => ?_⟩
    obtain ⟨q', e1, rfl, rfl⟩ := hps j k v e
    obtain ⟨b, f1, f2, f3⟩ := hpr j q' e1
    have fb : ps.getD j 0 = b := by rw [List.getD_eq_getElem?_getD, f1]; rfl
    dsimp only
    rw [fb]
    exact ⟨by simp [f1], .inl f2⟩
  refine call_dict_pairsH (knd := tupleKind (mixKind X.prog X.w)) (ps := prs) (PairArg.list a (ps.map Value.ref).toArray (fun j => ps.getD j 0) (prs.map fun q => (Value.ref q.2.1, q.2.2))) (I.ok.hd hcalm) (show X.A.in1.in1.units < cLine from ?_) ok ⟨by simp, fun i key v e => ?_⟩ (fun h' hk x hx => ?_) (by rw [List.length_map, hl]; exact hz) fun h' tk hd' k => ?_
  · show X.A.units + 1 + 1 < cLine
    omega
  · obtain ⟨q', e1, rfl, rfl⟩ := hps i key v e
    exact ⟨q'.1, q'.2.1, e1, rfl⟩
  · obtain ⟨j, hj, rfl⟩ := List.mem_iff_getElem.mp hx
    obtain ⟨b, f1, f2, f3⟩ := hpr j prs[j] (by simp [hj])
    obtain ⟨ob, arr, m, g1, g2⟩ := key_of I.hok f3
    exact ⟨ob, arr, m, hk _ _ (Nat.ne_of_lt (Heap.lt_size g1)) (by simp) g1, g2⟩
  · have hm : (s.heap.objs.size == sysModules) = false := beq_eq_false_iff_ne.mpr (Nat.ne_of_gt I.big)
    have hlen : (mergeT [] kvs).length ≤ sizeLine := by
      refine Nat.le_trans (length_mergeT kvs []) ?_
      rw [List.length_nil, Nat.zero_add, Paired.length rel, hl]
      exact hz
    have kt : KT (upd H s.heap.objs.size (.dT (mergeT [] kvs))) (mergeT [] kvs) (storedAllH [] prs) := (KT.merge rel .nil).keeps fun c ys ec => by
      rw [upd_ne (ne_free ec (I.hok.fresh (Nat.le_refl _)))]; exact ec
    obtain ⟨ob, es, ep, g⟩ := hd'
    exact ⟨.ref s.heap.objs.size, upd H s.heap.objs.size (.dT (mergeT [] kvs)), I.laid (t' := tk) (fun b o e => k b o (by simp) e) (Nat.le_refl _) (show ObjOk X.prog X.w _ _ _ (.dT (mergeT [] kvs)) from ⟨hlen, hm, _, kt, ob, es, ep, g.1, g.2.1, g.2.2.1, g.2.2.2.1, g.2.2.2.2.2⟩), rfl, q _ (I.hok.fresh (Nat.le_refl _))⟩
end
/-- the pairs of a list: keys tuples -/
def pairsT : List D → Option (List (D × D))
  | [] => some []
  | .tup [k, v] :: ds => match keysOf k, pairsT ds with
    | some _, some r => some ((k, v) :: r)
    | _, _ => none
  | _ :: _ => none
def cDictT : List D → Option Pd
  | [.lst xs] => (match pairsT xs with
    | some ps => some (.f (.dct (ps.foldl (fun acc p => dput tEq acc p.1 p.2) [])))
    | none => none)
  | _ => none
section
variable {F : Fr0}
theorem pairsT_rel {G : Gx} {H : Hp} {B : Addr → Prop} : ∀ {xs : List D} {ps : List (D × D)} {vs : List V}, pairsT xs = some ps → DRs G H B xs vs →
    ∃ (as : List Addr) (kvs : List (List Key × V)), vs = as.map V.ref ∧ Paired (fun p kv => ∃ kb, SqT G.K H p [.ref kb, kv.2] ∧ H kb = some (.tup (kv.1.map kV))) as kvs ∧ ps.map (·.1) = kvs.map (fun p => keysD p.1) ∧ DRp G H B ps (kvs.map (·.2))
  | [], _, _, e, h => by cases e; cases h; exact ⟨[], [], rfl, .nil, rfl, .nil⟩
  | x :: xs, ps, vs, e, h => by
    unfold pairsT at e
    split at e
    · rename_i z; cases z
    · rename_i k v ds z
      cases z
      cases ek : keysOf k with
      | none => simp [ek] at e
      | some ks =>
        cases er : pairsT xs with
        | none => simp [ek, er] at e
        | some r =>
          simp only [ek, er] at e
          cases e
          cases h with
          | cons h1 h2 =>
            obtain ⟨as, kvs, e1, e2, e3, e4⟩ := pairsT_rel er h2
            have := keysOf_eq ek
            subst this
            cases h1 with
            | tup rd hs =>
              rename_i a us
              cases hs with
              | cons g1 g2 =>
                cases g2 with
                | cons g3 g4 =>
                  cases g4
                  obtain ⟨kb, rfl, hkb⟩ := dr_keys g1
                  rename_i u
                  exact ⟨a :: as, (ks, u) :: kvs, by rw [e1]; rfl, .cons ⟨kb, .inl (.inl rd), hkb⟩ e2, by rw [List.map_cons, List.map_cons, e3], .cons g3 e4⟩
    · cases e
theorem merge_rel {G : Gx} {H : Hp} {B : Addr → Prop} : ∀ {ps : List (D × D)} {kvs : List (List Key × V)} {ds : List (D × D)} {ws : List (List Key × V)}, ps.map (·.1) = kvs.map (fun p => keysD p.1) → DRp G H B ps (kvs.map (·.2)) → ds.map (·.1) = ws.map (fun p => keysD p.1) → DRp G H B ds (ws.map (·.2)) →
    (ps.foldl (fun acc p => dput tEq acc p.1 p.2) ds).map (·.1) = (mergeT ws kvs).map (fun p => keysD p.1) ∧ DRp G H B (ps.foldl (fun acc p => dput tEq acc p.1 p.2) ds) ((mergeT ws kvs).map (·.2))
  | [], [], _, _, _, _, h1, h2 => ⟨h1, h2⟩
  | [], _ :: _, _, _, e, _, _, _ => by simp at e
  | _ :: _, [], _, _, e, _, _, _ => by simp at e
  | (k, d) :: ps, (ks, v) :: kvs, ds, ws, e, r, h1, h2 => by
    simp only [List.map_cons, List.cons.injEq] at e
    obtain ⟨e1, e2⟩ := e
    subst e1
    cases r with
    | cons r1 r2 =>
      obtain ⟨q1, q2⟩ := put_rel tEq_D (k := ks) r1 h1 h2
      exact merge_rel (ps := ps) (kvs := kvs) (ds := dput tEq ds (keysD ks) d) (ws := putK ws ks v) e2 r2 q1 q2
theorem c_dictT : CallS F (rDictT F.G.K) cDictT := by
  intro σ ρ H B vs ds p Q s h1 e k
  unfold cDictT at e
  split at e <;> try cases e
  rename_i xs
  cases ep : pairsT xs with
  | none => simp [ep] at e
  | some ps =>
    simp only [ep] at e
    cases e
    obtain ⟨v, rfl, t⟩ := h1.one
    obtain ⟨a, us, rfl, q1, d1⟩ := t.lst
    obtain ⟨as, kvs, e1, e2, e3, e4⟩ := pairsT_rel ep d1
    subst e1
    refine ⟨a, as, kvs, rfl, .inl (.inl q1), e2, fun q hq => ?_⟩
    have st := Stp.allocB (o := .dT (mergeT [] kvs)) s hq trivial
    obtain ⟨m1, m2⟩ := merge_rel (ds := []) (ws := []) e3 e4 rfl .nil
    refine k _ _ _ st ⟨q, rfl, .inr rfl, .inr (.inr ⟨_, _, rfl, upd_same, m1, m2.mono (st.mono s)⟩), hq, fun i sl d e1 e2 e3 => ?_⟩
    obtain ⟨b, w1, w2, _⟩ := s.own i sl d e1 e2
    rw [e3] at w1; cases w1
    obtain ⟨u, hu⟩ := s.bdom w2
    rw [hq] at hu; cases hu
theorem cr_dictT {X : Cx} (hK : F.G.K = X.K) (hc : X.calm = true) (hu : X.A.units + 2 < cLine) : CallR X (.type "dict") (rDictT F.G.K) := by rw [hK]; exact call_dictPT hc hu
end
end PL
set_option maxHeartbeats 4000000
/-! ### sorted of tuples of ints, any length: a list, a tuple, a dict's keys -/
namespace PL
open PySem L2 PySem.Spec PyProof.Rows
def lexI : List Int → List Int → Bool
  | [], [] => false
  | [], _ :: _ => true
  | _ :: _, [] => false
  | x :: r, y :: t => decide (x < y) || (!decide (y < x) && lexI r t)
theorem lexI_inl : ∀ (a b : List Int), PyProof.Rows.lexLt PyProof.Rows.itemOrd (a.map Sum.inl) (b.map Sum.inl) = lexI a b
  | [], [] => rfl
  | [], _ :: _ => rfl
  | _ :: _, [] => rfl
  | x :: r, y :: t => by
    show (decide (x < y) || (!decide (y < x) && PyProof.Rows.lexLt PyProof.Rows.itemOrd (r.map Sum.inl) (t.map Sum.inl))) = _
    rw [lexI_inl r t]; rfl
theorem lexI_total : ∀ (a b : List Int), lexI a b = false → lexI b a = false → a = b
  | [], [], _, _ => rfl
  | [], _ :: _, h, _ => by cases h
  | _ :: _, [], _, h => by cases h
  | x :: r, y :: t, h, k => by
    unfold lexI at h k
    simp only [Bool.or_eq_false_iff, Bool.and_eq_false_iff, decide_eq_false_iff_not, Bool.not_eq_false', decide_eq_true_eq] at h k
    obtain ⟨h1, h2⟩ := h
    obtain ⟨k1, k2⟩ := k
    have e : x = y := by omega
    subst e
    rw [lexI_total r t (h2.resolve_left (Int.lt_irrefl _)) (k2.resolve_left (Int.lt_irrefl _))]
def ltoI : Int ⊕ List Nat → Int
  | .inl i => i
  | .inr _ => 0
abbrev noShape : Nat → Bool := fun _ => false
theorem tupItems_ints : ∀ {ns : List Int} {its : List Value} {i : Nat}, Vals (ns.map V.int) its → PyProof.Rows.tupItems noShape i its = some (ns.map Sum.inl)
  | [], _, _, h => by cases h; rfl
  | n :: ns, _, i, h => by
    cases h with
    | cons h1 h2 =>
      obtain ⟨t, rfl⟩ := h1
      show (if noShape i = true then none else (PyProof.Rows.tupItems noShape (i + 1) _).map (Sum.inl n :: ·)) = _
      rw [if_neg (by simp), tupItems_ints h2]
      rfl
def TAt (h : Heap) (p : Addr × List Int) : Prop := ∃ o its n, h.get? p.1 = some o ∧ o.cls = .type "tuple" ∧ o.data = .seq its n ∧ Vals (p.2.map V.int) its.toList
theorem TAt.keep {h h' : Heap} {p : Addr × List Int} (k : ∀ o, h.get? p.1 = some o → h'.get? p.1 = some o) (t : TAt h p) : TAt h' p :=
  let ⟨o, its, n, e, r⟩ := t; ⟨o, its, n, k o e, r⟩
def kfOf (h : Heap) : Value → Addr × List Int
  | .ref b => (b, ((PyProof.Rows.G.tupKeyC h noShape (.ref b)).getD []).map ltoI)
  | _ => (0, [])
theorem TAt.key {h : Heap} {p : Addr × List Int} (t : TAt h p) : PyProof.Rows.G.tupKeyC h noShape (.ref p.1) = some (p.2.map Sum.inl) := by
  obtain ⟨o, its, n, e, c, d, r⟩ := t
  unfold PyProof.Rows.G.tupKeyC
  have : PyProof.Rows.G.isTupObj h (.ref p.1) = true := by
    unfold PyProof.Rows.G.isTupObj
    simp only [e, c]
    decide
  rw [if_pos this]
  unfold PyProof.Rows.tupKey
  simp only [e, d]
  exact tupItems_ints r
theorem TAt.kf {h : Heap} {p : Addr × List Int} (t : TAt h p) : kfOf h (.ref p.1) = p := by
  unfold kfOf
  simp only [t.key, Option.getD_some, List.map_map]
  have : p.2.map (ltoI ∘ Sum.inl) = p.2 := by
    have : (ltoI ∘ Sum.inl) = (id : Int → Int) := rfl
    rw [this, List.map_id]
  rw [this]
section
variable {prog : Program} {w : World} {A : Around} {E : Value → Shared → Prop} {s : Shared}
theorem call_sort_lex {a : Addr} {ks : List (Addr × List Int)} {n : Nat} {Q : Value → Shared → Prop} (ho : s.heap.get? a = some (seqObj "list" (ks.map fun p => Value.ref p.1).toArray n)) (ht : ∀ p ∈ ks, TAt s.heap p ∧ p.2 ≠ []) (hz : ks.length ≤ sizeLine)
    (h : ∀ (ks' : List (Addr × List Int)) (out : Array Value), out.toList = ks'.map (fun p => Value.ref p.1) → ks'.Perm ks → ks'.Pairwise (fun p q => lexI q.2 p.2 = false) → Q .none { s with heap := sortedHeap s.heap a (ks.map fun p => Value.ref p.1) out }) :
    wpAny (model prog w) A (call (.builtin "list.sort") [.ref a]) Q E s := by
  have tups : ∀ ks : List (Addr × List Int), (∀ p ∈ ks, TAt s.heap p ∧ p.2 ≠ []) → ∃ fs, PyProof.Rows.TupsOf s.heap noShape (ks.map fun p => Value.ref p.1) fs := fun ks => by
    induction ks with
    | nil => exact fun _ => ⟨[], .nil⟩
    | cons p ks ih =>
      intro hh
      obtain ⟨fs, hf⟩ := ih fun q hq => hh q (List.mem_cons_of_mem _ hq)
      obtain ⟨⟨o, its, m, e, c, d, r⟩, ne⟩ := hh p List.mem_cons_self
      obtain ⟨pa, pn⟩ := p
      cases pn with
      | nil => exact absurd rfl ne
      | cons i is =>
        obtain ⟨l⟩ := its
        cases r with
        | @cons _ v _ l2 r1 r2 =>
          obtain ⟨t, rfl⟩ := r1
          exact ⟨_, .cons ⟨pa, o, _, m, rfl, e, c, d, rfl, fun _ => ⟨i, t, rfl⟩, fun z => by cases z⟩ hf⟩
  obtain ⟨fs, hfs⟩ := tups ks ht
  have keys : ∀ v, v ∈ (ks.map fun p => Value.ref p.1) → ∃ l, PyProof.Rows.G.tupKeyC s.heap noShape v = some l := fun v hv => by
    obtain ⟨p, hp, rfl⟩ := List.mem_map.mp hv
    exact ⟨_, (ht p hp).1.key⟩
  refine wpAny_call_entry slot_list_sort ⟨_, ho, rfl⟩ entry_list_sort (PyProof.Rows.G.list_sort_tups ho hfs keys (by rw [List.length_map]; exact hz) fun st' hp hs _ => ⟨_, rfl, ?_⟩) (args_list_sort _)
  have hl : (arrOf st').toList.Perm ((ks.map fun p => Value.ref p.1).zip (ks.map fun p => Value.ref p.1)) := by rw [← pairsOf_toList]; exact Array.perm_iff_toList_perm.mp hp
  have hmem : ∀ p, p ∈ (arrOf st').toList → p.1 = p.2 ∧ p.1 ∈ (ks.map fun p => Value.ref p.1) := fun p hp' => mem_zip_self (hl.mem_iff.mp hp')
  have hkf : ∀ v ∈ (ks.map fun p => Value.ref p.1), Value.ref (kfOf s.heap v).1 = v ∧ PyProof.Rows.G.tupKeyC s.heap noShape v = some ((kfOf s.heap v).2.map Sum.inl) := fun v hv => by
    obtain ⟨p, hp, rfl⟩ := List.mem_map.mp hv
    rw [(ht p hp).1.kf]
    exact ⟨rfl, (ht p hp).1.key⟩
  refine h ((arrOf st').toList.map fun p => kfOf s.heap p.1) _ ?_ ?_ ?_
  · rw [Array.toList_map, List.map_map]
    refine List.map_congr_left fun p hp' => ?_
    have q := hmem p hp'
    show p.2 = Value.ref (kfOf s.heap p.1).1
    rw [(hkf p.1 q.2).1, q.1]
  · have e : ((ks.map fun p => Value.ref p.1).zip (ks.map fun p => Value.ref p.1)).map (fun p => kfOf s.heap p.1) = ks := by
      have : ((ks.map fun p => Value.ref p.1).zip (ks.map fun p => Value.ref p.1)).map (fun p => kfOf s.heap p.1) = (((ks.map fun p => Value.ref p.1).zip (ks.map fun p => Value.ref p.1)).map Prod.fst).map (kfOf s.heap) := by rw [List.map_map]; rfl
      rw [this, List.map_fst_zip (Nat.le_refl _), List.map_map]
      refine (List.map_congr_left fun p hp' => ?_).trans (List.map_id _)
      exact (ht p hp').1.kf
    have := hl.map fun p => kfOf s.heap p.1
    rw [e] at this
    exact this
  · rw [List.pairwise_map, List.pairwise_iff_getElem]
    intro i j hi hj hij
    have hi' : i < (arrOf st').size := by simpa using hi
    have hj' : j < (arrOf st').size := by simpa using hj
    have h1 := hs i j (Nat.le_of_lt hij) (by rw [← hp.size_eq]; exact hj')
    have k1 := (hkf _ (hmem (arrOf st')[i] (by simp)).2).2
    have k2 := (hkf _ (hmem (arrOf st')[j] (by simp)).2).2
    have e1 : KK (PyProof.Rows.G.tupKindC s.heap noShape) (arrOf st') i = (kfOf s.heap ((arrOf st')[i]).1).2.map Sum.inl := by
      unfold KK
      rw [Array.getElem?_eq_getElem hi']
      show (PyProof.Rows.G.tupKeyC s.heap noShape ((arrOf st')[i]).1).getD [] = _
      rw [k1]; rfl
    have e2 : KK (PyProof.Rows.G.tupKindC s.heap noShape) (arrOf st') j = (kfOf s.heap ((arrOf st')[j]).1).2.map Sum.inl := by
      unfold KK
      rw [Array.getElem?_eq_getElem hj']
      show (PyProof.Rows.G.tupKeyC s.heap noShape ((arrOf st')[j]).1).getD [] = _
      rw [k2]; rfl
    rw [e1, e2] at h1
    have h2 : PyProof.Rows.lexLt PyProof.Rows.itemOrd _ _ = false := h1
    rw [lexI_inl] at h2
    simpa using h2
end
end PL
set_option maxHeartbeats 4000000
/-! ### sorted(x): the calls -/
namespace PL
open PySem L2 PySem.Spec PyProof.Rows
/-- what is made of sorted -/
def SortOut (H : Hp) (nss : List (List Int)) (Q : VK) : Prop := ∀ (ks : List (Addr × List Int)) (p : Addr), (∀ q ∈ ks, H q.1 = some (.tup (q.2.map V.int))) → (ks.map (·.2)).Perm nss → (ks.map (·.2)).Pairwise (fun a b => lexI b a = false) → H p = none → Q (.ref p) (upd H p (.lst (ks.map fun q => V.ref q.1)))
theorem vals_of_addr : ∀ (ks : List (Addr × List Int)), Vals (ks.map fun q => V.ref q.1) (ks.map fun q => Value.ref q.1)
  | [] => .nil
  | _ :: ks => .cons rfl (vals_of_addr ks)
theorem addr_vals : ∀ {ks : List (Addr × List Int)} {us : List Value}, Vals (ks.map fun q => V.ref q.1) us → us = ks.map fun q => Value.ref q.1
  | [], _, h => by cases h; rfl
  | p :: ks, _, h => by
    cases h with
    | cons h1 h2 => cases h1; rw [addr_vals h2]; rfl
section
variable {X : Cx} {pins : List (Addr × Obj)} {σ : L2.St} {H : Hp} {s : Shared}
theorem tat_of (I : HOk X.prog X.w H s.heap) {p : Addr × List Int} (h : H p.1 = some (.tup (p.2.map V.int))) : TAt s.heap p := by
  obtain ⟨_, its, r, o, h1, h2, n, h3⟩ := (show ObjOk X.prog X.w H s.heap p.1 (.tup (p.2.map V.int)) from I p.1 _ h)
  exact ⟨o, its.toArray, n, h1, h2, h3, by simpa using r⟩
/-- behind the collecting -/
theorem sort_tail {A : Around} {E : Value → Shared → Prop} (I : Inv X pins σ H s) {ks : List (Addr × List Int)} {Q : VK} (hk : ∀ p ∈ ks, H p.1 = some (.tup (p.2.map V.int)) ∧ p.2 ≠ []) (hz : ks.length ≤ sizeLine) (h' : Heap) (tk : Nat) (k : ∀ b o, s.heap.get? b = some o → h'.get? b = some o) {nss : List (List Int)} (hn : ks.map (·.2) = nss) (q : SortOut H nss Q) :
    wpAny (model X.prog X.w) A (call (.builtin "list.sort") [.ref h'.objs.size]) (fun _ s' => EP X pins σ Q (.ref h'.objs.size) s') E { s with heap := h'.push (seqObj "list" (ks.map fun q => Value.ref q.1).toArray 0), toks := tk } := by
  have hoL : (h'.push (seqObj "list" (ks.map fun q => Value.ref q.1).toArray 0)).get? h'.objs.size = some (seqObj "list" (ks.map fun q => Value.ref q.1).toArray 0) := Heap.get?_push_size _ rfl
  refine call_sort_lex (s := { s with heap := h'.push (seqObj "list" (ks.map fun q => Value.ref q.1).toArray 0), toks := tk }) hoL (fun p hp => ⟨(tat_of I.hok (hk p hp).1).keep fun o e => Heap.get?_push_of_some _ (k _ _ e), (hk p hp).2⟩) hz fun ks' out h1 h2 h3 => ?_
  obtain ⟨e', he'⟩ := PyProof.Rows.sortedHeap_at (vs := ks.map fun q => Value.ref q.1) (out := out) hoL
  have hlen : (ks'.map fun q => V.ref q.1).length ≤ sizeLine := by rw [List.length_map, h2.length_eq]; exact hz
  have I1 : Inv X pins σ H { s with heap := h', toks := tk } := I.kept k
  refine ⟨.ref h'.objs.size, upd H h'.objs.size (.lst (ks'.map fun q => V.ref q.1)), I1.laid (t' := tk) (fun b u e => ?_) (Nat.le_refl _) (show ObjOk X.prog X.w _ _ _ (.lst (ks'.map fun q => V.ref q.1)) from ⟨hlen, out.toList, e', by rw [h1]; exact vals_of_addr ks', by rw [Array.toArray_toList]; exact he'⟩), rfl,
    q ks' _ (fun p hp => (hk p (h2.mem_iff.mp hp)).1) (by rw [← hn]; exact h2.map _) (List.pairwise_map.mpr h3) (I1.hok.fresh (Nat.le_refl _))⟩
  have hb : b < h'.objs.size := Heap.lt_size e
  rw [PyProof.Rows.sortedHeap_old (Nat.ne_of_lt hb) (by rw [size_push']; exact Nat.lt_succ_of_lt hb)]
  exact Heap.get?_push_of_some _ e
end
section
variable {prog : Program} {w : World} {A : Around} {E : Value → Shared → Prop} {s : Shared}
theorem collect_tuple {l : Addr} {vs : List Value} {Q : List Value → Shared → Prop} (hl : IsTup s.heap l vs.toArray)
    (h : Q vs { s with heap := (s.heap.push (seqObj "list" #[] 0)).update s.heap.objs.size (Obj.mapSeq (· ++ vs.toArray)) }) (hsz : vs.length ≤ sizeLine := by size_fits) :
    wpAny (model prog w) A (collect (.ref l)) Q E s := by
  obtain ⟨o, ho, hc, n, hd⟩ := id hl
  unfold collect
  refine wpAny_bind (wpAny_runValue (codeAny_builtin entry_proto_collect' ?_))
  show wpAny _ _ (do again (.builtin "list.__iadd__" ⟨[← newList [], .ref l], []⟩)) _ _ s
  refine wpAny_bind (wpAny_newList (wpAny_pure ⟨Code.quiet_builtin _ (by decide +kernel), codeAny_builtin entry_list_iadd' ?_⟩))
  show wpAny _ _ (Builtin.List.listExtendWith (.ref s.heap.objs.size) (.ref l) (.ref s.heap.objs.size)) _ _ { s with heap := s.heap.push (seqObj "list" #[] 0) }
  unfold Builtin.List.listExtendWith
  have ho' : (s.heap.push (seqObj "list" #[] 0)).get? l = some o := Heap.get?_push_of_some _ ho
  refine wpAny_bind (wpAny_typeOf (T := "tuple") ⟨o, ho', hc⟩ ?_)
  have ht : (Value.type "tuple" == Value.type "tuple") = true := by rfl
  rw [if_pos (by rw [ht]; simp)]
  refine wpAny_bind (listItems_at ho' hd ?_)
  refine wpAny_bind (listItems_at (xs := #[]) (n := 0) (Heap.get?_push_size _ rfl) rfl ?_)
  rw [if_neg (by simp)]
  refine wpAny_bind (listUpdate_at (xs := #[]) (n := 0) (Heap.get?_push_size _ rfl) rfl ?_ (Nat.zero_le _) (by show (#[] ++ vs.toArray).size ≤ sizeLine + 1; simp only [Array.size_append, List.size_toArray, List.length_nil]; omega))
  refine wpAny_pure ?_
  show wpAny (model prog w) A (do
      let o ← load s.heap.objs.size
      match o.data with
      | .seq xs _ => pure xs.toList
      | _ => unsupported "internal:collect") Q E { s with heap := (s.heap.push (seqObj "list" #[] 0)).update s.heap.objs.size (Obj.mapSeq (· ++ vs.toArray)) }
  refine wpAny_bind (wpAny_load (get?_update_seq (Heap.get?_push_size _ rfl) _) ?_)
  show wpAny _ _ (pure ((#[] : Array Value) ++ vs.toArray).toList) Q E _
  rw [show ((#[] : Array Value) ++ vs.toArray).toList = vs by simp]
  exact wpAny_pure h
end
def rSortL (K : PySem.W.Frag) : List V → Hp → VK → Prop := fun vs H Q => ∃ (a : Addr) (ks : List (Addr × List Int)), vs = [V.ref a] ∧ SqL K H a (ks.map fun q => V.ref q.1) ∧ (∀ p ∈ ks, H p.1 = some (.tup (p.2.map V.int)) ∧ p.2 ≠ []) ∧ SortOut H (ks.map (·.2)) Q
def rSortT (K : PySem.W.Frag) : List V → Hp → VK → Prop := fun vs H Q => ∃ (a : Addr) (ks : List (Addr × List Int)), vs = [V.ref a] ∧ SqT K H a (ks.map fun q => V.ref q.1) ∧ (∀ p ∈ ks, H p.1 = some (.tup (p.2.map V.int)) ∧ p.2 ≠ []) ∧ SortOut H (ks.map (·.2)) Q
def rSortD : List V → Hp → VK → Prop := fun vs H Q => ∃ (a : Addr) (kvs : List (List Key × V)) (nss : List (List Int)), vs = [V.ref a] ∧ H a = some (.dT kvs) ∧ kvs.map (·.1) = nss.map (fun ns => ns.map Sum.inl) ∧ (∀ ns ∈ nss, ns ≠ []) ∧ SortOut H nss Q
section
variable {X : Cx}
theorem old_push {h : Heap} {vs : List Value} : (∀ b o, h.get? b = some o → ((h.push (seqObj "list" #[] 0)).update h.objs.size (Obj.mapSeq (· ++ vs.toArray))).get? b = some o) ∧ h.objs.size ≤ ((h.push (seqObj "list" #[] 0)).update h.objs.size (Obj.mapSeq (· ++ vs.toArray))).objs.size := by
  refine ⟨fun b o e => ?_, by rw [Heap.size_update, size_push']; exact Nat.le_succ _⟩
  rw [Heap.get?_update_ne _ _ _ _ (Nat.ne_of_lt (Heap.lt_size e))]
  exact Heap.get?_push_of_some _ e
theorem crx_sortL : CallR X (.builtin "sorted") (rSortL X.K) := by
  intro pins s σ H vs us Q I r h
  obtain ⟨a, ks, rfl, hs, hk, q⟩ := h
  obtain ⟨its, rv, hl, hz⟩ := I.list hs
  have ei := addr_vals rv
  subst ei
  rw [Vals.ref1 r]
  rw [List.length_map] at hz
  refine Calls.call_function_entry kind_sorted plain_sorted entry_sorted (args_sorted1 _) ?_
  unfold Builtin.«sorted»
  refine wpAny_bind (m := checkCount "sorted" 1 1 _) (wpAny_pure ?_)
  refine wpAny_bind (collect_list hl.isList ?_ (by rw [List.length_map]; exact hz))
  refine wpAny_bind (wpAny_newList ?_ (by rw [List.length_map]; exact hz))
  have g := sort_tail (A := X.A.in1) (E := X.xe) I hk hz _ s.toks (old_push (vs := ks.map fun q => Value.ref q.1)).1 rfl q
  refine wpAny_bind (wpAny_holding (wpAny_mono g (fun _ s' x => ?_) fun _ _ e => e))
  exact wpAny_pure ⟨_, rfl, x⟩
theorem crx_sortT : CallR X (.builtin "sorted") (rSortT X.K) := by
  intro pins s σ H vs us Q I r h
  obtain ⟨a, ks, rfl, hs, hk, q⟩ := h
  obtain ⟨its, rv, hl, hz⟩ := I.tuple hs
  have ei := addr_vals rv
  subst ei
  rw [Vals.ref1 r]
  rw [List.length_map] at hz
  refine Calls.call_function_entry kind_sorted plain_sorted entry_sorted (args_sorted1 _) ?_
  unfold Builtin.«sorted»
  refine wpAny_bind (m := checkCount "sorted" 1 1 _) (wpAny_pure ?_)
  refine wpAny_bind (collect_tuple hl ?_ (by rw [List.length_map]; exact hz))
  refine wpAny_bind (wpAny_newList ?_ (by rw [List.length_map]; exact hz))
  have g := sort_tail (A := X.A.in1) (E := X.xe) I hk hz _ s.toks (old_push (vs := ks.map fun q => Value.ref q.1)).1 rfl q
  refine wpAny_bind (wpAny_holding (wpAny_mono g (fun _ s' x => ?_) fun _ _ e => e))
  exact wpAny_pure ⟨_, rfl, x⟩
theorem crx_sortD (hc : X.calm = true) : CallR X (.builtin "sorted") rSortD := by
  intro pins s σ H vs us Q I r h
  obtain ⟨a, kvs, nss, rfl, hd, hks, hne, q⟩ := h
  obtain ⟨z, lo, xs, rel, dd⟩ := dt_of I.hok hd
  obtain ⟨o, es, ep, ho, hx, hdat, hes, his, hnd⟩ := id dd
  rw [Vals.ref1 r]
  have hxl : xs.length = kvs.length := (Paired.length rel).symm
  -- the keys' addresses
  have keyl : ∀ {kvs : List (List Key × V)} {xs : List (List Key × Addr × Value)} {nss : List (List Int)}, KT H kvs xs → kvs.map (·.1) = nss.map (fun ns => ns.map Sum.inl) → ∃ ks : List (Addr × List Int), xs.map (fun x => x.2.1) = ks.map (·.1) ∧ ks.map (·.2) = nss ∧ ∀ p ∈ ks, H p.1 = some (.tup (p.2.map V.int)) := by
    intro kvs xs nss rel
    induction rel generalizing nss with
    | nil =>
      intro e
      cases nss with
      | nil => exact ⟨[], rfl, rfl, fun _ z => absurd z (by simp)⟩
      | cons _ _ => simp at e
    | @cons p x ps xs h t ih =>
      intro e
      cases nss with
      | nil => simp at e
      | cons ns nss =>
        simp only [List.map_cons, List.cons.injEq] at e
        obtain ⟨ks, g1, g2, g3⟩ := ih e.2
        refine ⟨(x.2.1, ns) :: ks, by rw [List.map_cons, List.map_cons, g1], by rw [List.map_cons, g2], fun q hq => ?_⟩
        rcases List.mem_cons.mp hq with rfl | hq
        · have := h.2.1
          rw [e.1, List.map_map] at this
          exact this
        · exact g3 q hq
  obtain ⟨ks, g1, g2, g3⟩ := keyl rel hks
  have hkl : ks.length = xs.length := by
    have e := congrArg List.length g1
    simpa using e.symm
  have hzk : ks.length ≤ sizeLine := by rw [hkl, hxl]; exact z
  have hk : ∀ p ∈ ks, H p.1 = some (.tup (p.2.map V.int)) ∧ p.2 ≠ [] := fun p hp => ⟨g3 p hp, hne _ (by rw [← g2]; exact List.mem_map.mpr ⟨p, hp, rfl⟩)⟩
  have raw : s.heap.DictRaw a es ep := ⟨o, ho, hx, hdat⟩
  have hel : es.size = ks.length := by
    have e := congrArg List.length hes
    simp at e
    omega
  refine Calls.call_function_entry kind_sorted plain_sorted entry_sorted (args_sorted1 _) ?_
  unfold Builtin.«sorted»
  refine wpAny_bind (m := checkCount "sorted" 1 1 _) (wpAny_pure ?_)
  refine wpAny_bind (PySem.W.kdu_collect (A := X.A.in1) (PySem.KdlSrc.rawDict lo) (I.ok.hd hc) raw (by rw [hel]; exact hzk) fun h' tk acc hkp hacc => ?_)
  have eacc : acc.toList = ks.map fun q => Value.ref q.1 := by
    have e1 : (ks.map fun q => Value.ref q.1) = xs.map fun x => Value.ref x.2.1 := by
      have := congrArg (List.map Value.ref) g1
      rw [List.map_map, List.map_map] at this
      exact this.symm
    rw [e1]
    refine List.ext_getElem? fun j => ?_
    by_cases hj : j < es.size
    · have hja : j < acc.size := by rw [hacc.1]; exact hj
      obtain ⟨_, e2⟩ := hacc.2 j acc[j] (Array.getElem?_eq_getElem hja)
      rw [Array.getElem?_toList, Array.getElem?_eq_getElem hja, e2, List.getElem?_map]
      have e3 : es[j]? = (xs[j]?).map (entryOfKey (tupleKind (mixKind X.prog X.w))) := by rw [← Array.getElem?_toList, hes, List.getElem?_map]
      rw [Array.getElem?_eq_getElem hj] at e3
      cases e4 : xs[j]? with
      | none => rw [e4] at e3; cases e3
      | some x =>
        rw [e4] at e3
        have e5 := Option.some.inj e3
        rw [e5]; rfl
    · rw [List.getElem?_eq_none (by rw [Array.length_toList, hacc.1]; omega), List.getElem?_eq_none (by rw [List.length_map]; omega)]
  rw [eacc]
  refine wpAny_bind (wpAny_newList ?_ (by rw [List.length_map]; exact hzk))
  have g := sort_tail (A := X.A.in1) (E := X.xe) I hk hzk h' tk hkp g2 q
  refine wpAny_bind (wpAny_holding (wpAny_mono g (fun _ s' x => ?_) fun _ _ e => e))
  exact wpAny_pure ⟨_, rfl, x⟩
end
end PL
set_option maxHeartbeats 4000000
/-! ### sorted(x) over data -/
namespace PL
open PySem L2 PySem.Spec PyProof.Rows
def rSortIT (K : PySem.W.Frag) : List V → Hp → VK → Prop := fun vs H Q => ∃ (a : Addr) (ns : List Int), vs = [V.ref a] ∧ SqT K H a (ns.map V.int) ∧
  ∀ (ns' : List Int) (p : Addr), ns'.Perm ns → ns'.Pairwise (· ≤ ·) → H p = none → Q (.ref p) (upd H p (.lst (ns'.map V.int)))
section
variable {X : Cx}
theorem crx_sortIT : CallR X (.builtin "sorted") (rSortIT X.K) := by
  intro pins s σ H vs us Q I r h
  obtain ⟨a, ns, rfl, hs, q⟩ := h
  obtain ⟨its, rv, hl, hz⟩ := I.tuple hs
  rw [Vals.ref1 r]
  have hi := rv.ints
  have hzi : its.length ≤ sizeLine := by rw [← rv.length]; exact hz
  refine Calls.call_function_entry kind_sorted plain_sorted entry_sorted (args_sorted1 _) ?_
  unfold Builtin.«sorted»
  refine wpAny_bind (m := checkCount "sorted" 1 1 _) (wpAny_pure ?_)
  refine wpAny_bind (collect_tuple hl ?_ hzi)
  refine wpAny_bind (wpAny_newList ?_ hzi)
  generalize hh' : (s.heap.push (seqObj "list" #[] 0)).update s.heap.objs.size (Obj.mapSeq (· ++ its.toArray)) = h'
  have k : ∀ b o, s.heap.get? b = some o → h'.get? b = some o := by rw [← hh']; exact old_push.1
  have hoL : (h'.push (seqObj "list" its.toArray 0)).get? h'.objs.size = some (seqObj "list" its.toArray 0) := Heap.get?_push_size _ rfl
  have I1 : Inv X pins σ H { s with heap := h', toks := s.toks } := I.kept k
  show wpAny _ _ _ _ _ { s with heap := h'.push (seqObj "list" its.toArray 0) }
  refine wpAny_bind (wpAny_holding (wpAny_call_entry PyProof.Rows.slot_list_sort ⟨_, hoL, rfl⟩ PyProof.Rows.entry_list_sort
    (SrtO.list_sort_ord (s := { s with heap := h'.push (seqObj "list" its.toArray 0) }) SrtO.swo_int hoL hzi (fun h2 => SrtO.ints_sortable hi h2) fun out h1 h2 => ⟨.none, rfl, ?_⟩) (PyProof.Rows.args_list_sort _)))
  obtain ⟨k1, k2, k3⟩ := SrtO.ints_out hi h1 h2
  obtain ⟨ep, he'⟩ := PyProof.Rows.sortedHeap_at (vs := its) (out := out.toArray) hoL
  have hlen : ((out.map SrtO.iv).map V.int).length ≤ sizeLine := by
    rw [List.length_map, k2.length_eq]
    rw [List.length_map] at hz
    exact hz
  refine wpAny_pure ⟨_, rfl, .ref h'.objs.size, upd H h'.objs.size (.lst ((out.map SrtO.iv).map V.int)), I1.laid (t' := s.toks) (fun b u e => ?_) (Nat.le_refl _) (show ObjOk X.prog X.w _ _ _ (.lst ((out.map SrtO.iv).map V.int)) from ⟨hlen, out, ep, vals_of_ints k1, he'⟩), rfl, q _ _ k2 k3 (I1.hok.fresh (Nat.le_refl _))⟩
  have hb : b < h'.objs.size := Heap.lt_size e
  rw [PyProof.Rows.sortedHeap_old (Nat.ne_of_lt hb) (by rw [size_push']; exact Nat.lt_succ_of_lt hb)]
  exact Heap.get?_push_of_some _ e
end
/-- sorted, tuples by their ints -/
def sortL (nss : List (List Int)) : List (List Int) := nss.mergeSort fun a b => !lexI b a
theorem lexI_irr : ∀ a, lexI a a = false
  | [] => rfl
  | x :: r => by
    unfold lexI
    rw [lexI_irr r, decide_eq_false (Int.lt_irrefl x)]; rfl
theorem lexI_asym : ∀ a b, lexI a b = true → lexI b a = false
  | [], [], h => by cases h
  | [], _ :: _, _ => rfl
  | _ :: _, [], h => by cases h
  | x :: r, y :: t, h => by
    unfold lexI at h ⊢
    simp only [Bool.or_eq_true, Bool.and_eq_true, decide_eq_true_eq, Bool.not_eq_true', decide_eq_false_iff_not, Bool.or_eq_false_iff, Bool.and_eq_false_iff, Bool.not_eq_false'] at h ⊢
    rcases h with h | ⟨h1, h2⟩
    · exact ⟨by omega, .inl h⟩
    · by_cases e : x < y
      · exact ⟨by omega, .inl e⟩
      · exact ⟨h1, .inr (lexI_asym r t h2)⟩
theorem lexI_trans : ∀ a b c, lexI b a = false → lexI c b = false → lexI c a = false
  | [], _, [], _, _ => rfl
  | [], [], _ :: _, _, _ => rfl
  | [], _ :: _, _ :: _, _, _ => rfl
  | _ :: _, [], _, h, _ => by cases h
  | _ :: _, _ :: _, [], _, k => by cases k
  | x :: r, y :: t, z :: u, h, k => by
    unfold lexI at h k ⊢
    simp only [Bool.or_eq_false_iff, Bool.and_eq_false_iff, decide_eq_false_iff_not, Bool.not_eq_false', decide_eq_true_eq] at h k ⊢
    obtain ⟨h1, h2⟩ := h
    obtain ⟨k1, k2⟩ := k
    refine ⟨by omega, ?_⟩
    by_cases e : x < z
    · exact .inl e
    · right
      have e1 : y = x := by omega
      have e2 : z = y := by omega
      subst e1; subst e2
      exact lexI_trans r t u (h2.resolve_left (Int.lt_irrefl _)) (k2.resolve_left (Int.lt_irrefl _))
theorem sortL_perm (nss : List (List Int)) : (sortL nss).Perm nss := List.mergeSort_perm nss _
theorem sortL_le (nss : List (List Int)) : (sortL nss).Pairwise fun a b => lexI b a = false := by
  have h := List.pairwise_mergeSort (le := fun a b : List Int => !lexI b a) (fun a b c h1 h2 => by
    have := lexI_trans a b c (by simpa using h1) (by simpa using h2)
    simp [this]) (fun a b => by
      cases e : lexI b a with
      | false => simp
      | true => simp [lexI_asym b a e]) nss
  exact h.imp fun h => by simpa using h
theorem sortL_eq {ms nss : List (List Int)} (p : ms.Perm nss) (h : ms.Pairwise fun a b => lexI b a = false) : ms = sortL nss :=
  perm_sorted_eq (fun x _ y _ a b => lexI_total x y b a) (p.trans (sortL_perm nss).symm) h (sortL_le nss)
def neOk (nss : List (List Int)) : Bool := nss.all fun ns => !ns.isEmpty
theorem neOk_get {nss : List (List Int)} (h : neOk nss = true) : ∀ ns ∈ nss, ns ≠ [] := fun ns hn e => by
  have := List.all_eq_true.mp h ns hn
  rw [e] at this; cases this
def cSortIT : List D → Option Pd
  | [.tup xs] => (match intsOf xs with
    | some ns => some (.f (.lst ((sortI ns).map .int)))
    | none => none)
  | _ => none
def cSortL : List D → Option Pd
  | [.lst xs] => (match tupsOf xs with
    | some nss => if neOk nss then some (.f (.lst ((sortL nss).map tupD))) else none
    | none => none)
  | _ => none
def cSortT : List D → Option Pd
  | [.tup xs] => (match tupsOf xs with
    | some nss => if neOk nss then some (.f (.lst ((sortL nss).map tupD))) else none
    | none => none)
  | _ => none
def cSortD : List D → Option Pd
  | [.dct kvs] => (match tupsOf (kvs.map (·.1)) with
    | some nss => if neOk nss then some (.f (.lst ((sortL nss).map tupD))) else none
    | none => none)
  | _ => none
section
variable {F : Fr0}
theorem sortOut_k {σ : L2.St} {ρ : Rho} {H H0 : Hp} {B : Addr → Prop} {nss : List (List Int)} {Q : VK} (s : SR F H σ ρ B) (k : ∀ v H' B', Stp F σ ρ H B ρ H' B' → PdR F H H' B' σ ρ (.f (.lst ((sortL nss).map tupD))) v → Q v H') : SortOut H nss Q := fun ks p hk pm pw hp => by
  have e := sortL_eq pm pw
  obtain ⟨st, r⟩ := new_lst s hp (addr_drs hk)
  rw [e] at r
  exact k _ _ _ st r
theorem c_sortIT : CallS F (rSortIT F.G.K) cSortIT := by
  intro σ ρ H B vs ds p Q s h1 e k
  unfold cSortIT at e
  split at e <;> try cases e
  rename_i xs
  cases e1 : intsOf xs with
  | none => simp [e1] at e
  | some ns =>
    simp only [e1] at e
    cases e
    rw [intsOf_eq e1] at h1
    obtain ⟨v, rfl, t⟩ := h1.one
    obtain ⟨a, us, rfl, q1, d1⟩ := t.tup
    have := d1.ints
    subst this
    refine ⟨a, ns, rfl, q1, fun ns' p h2 h3 hp => ?_⟩
    obtain ⟨st, r⟩ := new_lst s hp (DRs.ofInts ns')
    rw [sortI_eq h2 h3] at st r ⊢
    exact k _ _ _ st r
theorem c_sortL : CallS F (rSortL F.G.K) cSortL := by
  intro σ ρ H B vs ds p Q s h1 e k
  unfold cSortL at e
  split at e <;> try cases e
  rename_i xs
  cases e1 : tupsOf xs with
  | none => simp [e1] at e
  | some nss =>
    simp only [e1] at e
    split at e
    · rename_i hne
      cases e
      rw [tupsOf_eq e1] at h1
      obtain ⟨v, rfl, t⟩ := h1.one
      obtain ⟨a, us, rfl, q1, d1⟩ := t.lst
      obtain ⟨ks, e2, e3, e4⟩ := tups_addr d1
      subst e2
      refine ⟨a, ks, rfl, .inl (.inl q1), fun p hp => ⟨e4 p hp, neOk_get hne _ (by rw [e3]; exact List.mem_map.mpr ⟨p, hp, rfl⟩)⟩, ?_⟩
      rw [← e3]
      exact sortOut_k (H0 := H) s k
    · cases e
theorem c_sortT : CallS F (rSortT F.G.K) cSortT := by
  intro σ ρ H B vs ds p Q s h1 e k
  unfold cSortT at e
  split at e <;> try cases e
  rename_i xs
  cases e1 : tupsOf xs with
  | none => simp [e1] at e
  | some nss =>
    simp only [e1] at e
    split at e
    · rename_i hne
      cases e
      rw [tupsOf_eq e1] at h1
      obtain ⟨v, rfl, t⟩ := h1.one
      obtain ⟨a, us, rfl, q1, d1⟩ := t.tup
      obtain ⟨ks, e2, e3, e4⟩ := tups_addr d1
      subst e2
      refine ⟨a, ks, rfl, q1, fun p hp => ⟨e4 p hp, neOk_get hne _ (by rw [e3]; exact List.mem_map.mpr ⟨p, hp, rfl⟩)⟩, ?_⟩
      rw [← e3]
      exact sortOut_k (H0 := H) s k
    · cases e
theorem keysD_int (ns : List Int) : tupD ns = keysD (ns.map Sum.inl) := by
  show D.tup (ns.map D.int) = D.tup ((ns.map Sum.inl).map keyD)
  rw [List.map_map]; rfl
theorem keysD_inj {a b : List Key} (h : keysD a = keysD b) : a = b := by
  have := keysOf_D a
  rw [h, keysOf_D b] at this
  exact (Option.some.inj this).symm
theorem c_sortD : CallS F rSortD cSortD := by
  intro σ ρ H B vs ds p Q s h1 e k
  unfold cSortD at e
  split at e <;> try cases e
  rename_i kvd
  cases e1 : tupsOf (kvd.map (·.1)) with
  | none => simp [e1] at e
  | some nss =>
    simp only [e1] at e
    split at e
    · rename_i hne
      cases e
      obtain ⟨v, rfl, t⟩ := h1.one
      obtain ⟨a, kvs, rfl, q1, e2, _⟩ := t.dct
      refine ⟨a, kvs, nss, rfl, q1, ?_, neOk_get hne, sortOut_k (H0 := H) s k⟩
      have e3 := tupsOf_eq e1
      rw [e2] at e3
      have gen : ∀ (kvs : List (List Key × V)) (nss : List (List Int)), kvs.map (fun p => keysD p.1) = nss.map tupD → kvs.map (·.1) = nss.map (fun ns => ns.map Sum.inl) := fun kvs => by
        induction kvs with
        | nil => intro nss e; cases nss with
          | nil => rfl
          | cons _ _ => simp at e
        | cons x kvs ih => intro nss e; cases nss with
          | nil => simp at e
          | cons ns nss =>
            simp only [List.map_cons, List.cons.injEq] at e
            rw [keysD_int] at e
            rw [List.map_cons, List.map_cons, keysD_inj e.1, ih nss e.2]
      exact gen kvs nss e3
    · cases e
def cSortA : List D → Option Pd := cOr cSortI (cOr cSortIT (cOr cSortL (cOr cSortT cSortD)))
abbrev rSortA (K : PySem.W.Frag) : List V → Hp → VK → Prop := fun xs H Q => rSortedI K xs H Q ∨ rSortIT K xs H Q ∨ rSortL K xs H Q ∨ rSortT K xs H Q ∨ rSortD xs H Q
theorem c_sortA : CallS F (rSortA F.G.K) cSortA := CallS.or c_sortI (CallS.or c_sortIT (CallS.or c_sortL (CallS.or c_sortT c_sortD)))
theorem crr_sortA {X : Cx} (hK : F.G.K = X.K) (hc : X.calm = true) : CallR X (.builtin "sorted") (rSortA F.G.K) := by
  rw [hK]
  exact cr_sortedI.or (crx_sortIT.or (crx_sortL.or (crx_sortT.or (crx_sortD hc))))
end
end PL
set_option maxHeartbeats 4000000
/-! ### x = {k: v for ..}; d[k] += e -/
namespace PL
open PySem L2 PySem.Spec PyProof.Rows
section
variable {X : Cx}
theorem ps_setDct {i : Nat} {y : Str} {py : Pos} {kx elt tg iter : Expr} {ifs : List Expr} {scope : Scope} {own : List (Str × Nat)} {pos spos : Pos} {wi : TI} {g : TG} {tt : TT} {tk te : TE} (hu : X.A.units < cLine) (hc : X.calm = true) (hN : X.N.Nodup) (hy : X.N[i]? = some y) (hyl : X.env.scope.names.lookup y = some .local)
    (hsw : swapsWith (.DictComp kx elt [⟨tg, iter, ifs, 0⟩] scope pos) (some (.Name y py)) spos.line X.env = pure true) (hi : PI X tg iter wi) (ok : BlkOk X.N X.env.scope scope own)
    (hg : ∀ (s : Shared) (H : Hp) (C : Addr) (cl : List (Str × Addr)) (fp : List Addr), PG (X.blk s H scope (compEnvC scope cl C X.env) fp) tg g) (ht : ∀ (s : Shared) (H : Hp) (C : Addr) (cl : List (Str × Addr)) (fp : List Addr), PTs (X.blk s H scope (compEnvC scope cl C X.env) fp) ifs tt)
    (hk : ∀ (s : Shared) (H : Hp) (C : Addr) (cl : List (Str × Addr)) (fp : List Addr), PE (X.blk s H scope (compEnvC scope cl C X.env) fp) kx tk)
    (he : ∀ (s : Shared) (H : Hp) (C : Addr) (cl : List (Str × Addr)) (fp : List Addr), PE (X.blk s H scope (compEnvC scope cl C X.env) fp) elt te) (hs : ∀ x, foldedSetIterable iter X.env x = pure x := by intro _; rfl) :
    PS X (.Assign [.Name y py] (.DictComp kx elt [⟨tg, iter, ifs, 0⟩] scope pos) spos) (tAsg (tDct wi g tt tk te (own.map (·.2))) (gName i)) := by
  refine ⟨fun pins s σ H D I h => ?_⟩
  rw [exec_Assign_Name_used _ _ _ _ hsw]
  refine wpAny_bind (wpAny_standAt (wpAny_bind ?_))
  show wpAny _ X.A (do let _ ← comprehension (.DictComp kx elt [⟨tg, iter, ifs, 0⟩] scope pos) scope X.env (firstIterPos [⟨tg, iter, ifs, 0⟩] pos) newDict false (eval iter X.env) (some (assign (.Name y py) X.env))) _ _ s
  have h : tDct wi g tt tk te (own.map (·.2)) σ H (fun x H1 => gName i x σ H1 D.nx) := h
  refine wpAny_bind (thn (dct_core (Qf := fun _ s' => SP X pins D .next s') hu hc hN I hi ok hg ht hk he hs h fun L C s' m H' I' q hn f => ?_) fun _ s' hq => wpAny_pure (wpAny_pure hq))
  show wpAny _ _ (assign (.Name y py) X.env (.ref L)) _ _ _
  refine wpAny_assign_Name (store_ok2 (v := V.ref L) I' hN hy (.inl hyl) rfl (fun s2 I2 ⟨a, sb, ha⟩ => ?_) (.inr hyl))
  obtain ⟨f0, f1, f2, f3, f4, f5⟩ := f
  have haC : C ≠ a := by
    rcases ha with z | z
    · rw [z]; exact f1
    · exact fun e => f4 y a z e.symm
  refine ⟨m, hn.sameBut sb haC, fun h3 sb3 => ?_⟩
  exact ⟨_, H', I2.turned (t' := s2.toks) (fun b o hb e => (sb3.2 b hb).trans e) f0 f1 f3 f4 f5, q⟩
end
section
variable {X : Cx} {F : Fr0} {W : WX} {kx elt tg it : Expr} {ifs : List Expr} {scope : Scope} {own : List (Str × Nat)} {pos spos : Pos} {t : Itx} {ct : CT} {cond : Rho → Rs Bool} {tk te : Ex}
theorem rs_setDComp (o : Bool) {i : Nat} {y : Str} {py : Pos} (hu : X.A.units < cLine) (hK : F.G.K = X.K) (hc : X.calm = true) (hN : X.N.Nodup) (hii : F.iom[i]? ≠ some true) (hi : PI X tg it (TIx F W t)) (ok : BlkOk X.N X.env.scope scope own) (hvs : own.map (·.2) = ct.slots) (hio : ∀ i ∈ ct.slots, F.iom[i]? ≠ some true)
    (hg : ∀ (s : Shared) (H : Hp) (C : Addr) (cl : List (Str × Addr)) (fp : List Addr), PG (X.blk s H scope (compEnvC scope cl C X.env) fp) tg (gCT X.K ct))
    (ht : ∀ (s : Shared) (H : Hp) (C : Addr) (cl : List (Str × Addr)) (fp : List Addr), PTs (X.blk s H scope (compEnvC scope cl C X.env) fp) ifs (TTx F WF cond))
    (hk : ∀ (s : Shared) (H : Hp) (C : Addr) (cl : List (Str × Addr)) (fp : List Addr), PE (X.blk s H scope (compEnvC scope cl C X.env) fp) kx (TEx F WF tk))
    (he : ∀ (s : Shared) (H : Hp) (C : Addr) (cl : List (Str × Addr)) (fp : List Addr), PE (X.blk s H scope (compEnvC scope cl C X.env) fp) elt (TEx F WF te))
    (hy : X.N[i]? = some y := by rfl) (hyl : X.env.scope.names.lookup y = some .local := by rfl) (hsw : swapsWith (.DictComp kx elt [⟨tg, it, ifs, 0⟩] scope pos) (some (.Name y py)) spos.line X.env = pure true := by rfl) (hs : ∀ x, foldedSetIterable it X.env x = pure x := by intro _; rfl) :
    PS X (.Assign [.Name y py] (.DictComp kx elt [⟨tg, it, ifs, 0⟩] scope pos) spos) (TSx F W (sAsg (eDComp t ct cond tk te) (gS o i))) :=
  ps_imp (ps_setDct hu hc hN hy hyl hsw hi ok hg ht hk he hs) fun D σ H ⟨ρ, B, s, h⟩ => tex_dcomp hK hvs hio ⟨ρ, B, s, aft_ex s h fun a v ρ1 H1 B1 st r q => by
    have q' := AftT.from_ (st.s s) (aft_asg q (q_s o i _ _))
    have r' := PdR.back (Hs' := F.H0) (fun _ n => s.dom0 n) r
    cases o with
    | true => exact aft_set st.sr hii r' q'
    | false => exact aft_setD st.sr hii r' q'⟩
/-- d[k] op= e, of ints, in an own dict -/
def sAugD (f : Int → Int → Int) (j : Nat) (t e : Ex) : Sx := fun ρ => match ρ[j]? with
  | some (.own _) => (t ρ).bind fun q ρ1 => (match q.get ρ1, ρ1[j]? with
    | some k, some (.own x) => (match dlook x k with
      | some (some (.int old)) => (e ρ1).bind fun p ρ2 => (match p.get ρ2, q.get ρ2, ρ2[j]? with
        | some (.int y), some k2, some (.own x') => (match istore x' k2 (.int (f old y)) with
          | some x'' => .ok .nx (ρ2.set j (.own x''))
          | none => .bad)
        | _, _, _ => .bad)
      | _ => .bad)
    | _, _ => .bad)
  | _ => .bad
theorem get_dict (hu : X.A.units + 1 < cLine) : PGet X rIxDict := by
  intro pins s σ H o i ov iv Q I r1 r2 h
  obtain ⟨a, v, rfl, g, q⟩ := h
  obtain rfl : ov = Value.ref a := r1
  exact d_getItem hu I g r2 fun w' s' I' r => ⟨v, H, I', r, q⟩
theorem rs_augD {op : Operator} {f : Int → Int → Int} (j : Nat) {x : Str} {t e : Ex} {ie ee : Expr} {p2 tpos : Pos} (hu : X.A.units + 1 < cLine) (hop : PIp X op (ipI f)) (hi : PE X ie (TEx F W t)) (he : PE X ee (TEx F W e)) (hN : X.N[j]? = some x := by rfl) (hv : Vis X.env.scope x := by first | exact Or.inl rfl | exact Or.inr (Or.inl rfl) | exact Or.inr (Or.inr rfl)) (hd : (x == ("__debug__" : Str)) = false := by decide)
    (hcd : (x == ("__classdict__" : Str)) = false := by decide) (ha : ∀ ov iv new, augStore ie ov iv new = (do holding [new, ov, iv] (setItem ov iv new); release [new, ov, iv] []; pure .next) := by intros; rfl) : PS X (.AugAssign (.Subscript (.Name x p2) ie tpos) op ee pos) (TSx F W (sAugD f j t e)) :=
  ps_imp (ps_augS (pv j hN hv hd hcd) hi (get_dict hu) he hop (PSet.or set_list (set_dict hu)) ha) fun D σ H ⟨ρ, B, s, h⟩ => by
    unfold sAugD at h
    cases e0 : ρ[j]? with
    | none => simp only [e0] at h; exact h.elim
    | some sl0 =>
      cases sl0 <;> try (simp only [e0] at h; exact h.elim)
      rename_i d0
      simp only [e0] at h
      obtain ⟨a, ha0, hb0, _, _⟩ := s.own j _ d0 e0 rfl
      refine ⟨.ref a, ha0, ρ, B, s, aft_ex s h fun q w ρ1 H1 B1 st rq h => ?_⟩
      cases e3 : q.get ρ1 with
      | none => simp only [e3] at h; exact h.elim
      | some k =>
        cases e4 : ρ1[j]? with
        | none => simp only [e3, e4] at h; exact h.elim
        | some sl =>
          cases sl <;> try (simp only [e3, e4] at h; exact h.elim)
          rename_i dl
          simp only [e3, e4] at h
          cases e5 : dlook dl k with
          | none => simp only [e5] at h; exact h.elim
          | some o5 =>
            cases o5 with
            | none => simp only [e5] at h; exact h.elim
            | some old =>
              cases old <;> try (simp only [e5] at h; exact h.elim)
              rename_i old
              simp only [e5] at h
              obtain ⟨a', h1, h2, h3, _⟩ := st.sr.own j _ _ e4 rfl
              rw [ha0] at h1; cases h1
              obtain ⟨a2, ov, r1, g, q5⟩ := look_ok (.inr ⟨a, rfl, h3⟩) (rq.tr st.sr e3) e5
              cases r1
              rcases q5 with ⟨d', u, z1, z2, z3⟩ | ⟨z1, _⟩
              · cases z1
                subst z2
                cases z3
                refine ⟨a, .int old, rfl, g, ρ1, B1, st.sr, ?_⟩
                refine aft_ex st.sr (AftS.from_ (st.s s) h) fun p v ρ2 H2 B2 st2 rp h => ?_
                have rq2 := rq.step st.sr st2
                cases e6 : p.get ρ2 with
                | none => simp only [e6] at h; exact h.elim
                | some y =>
                  cases y <;> try (simp only [e6] at h; exact h.elim)
                  rename_i y
                  cases e7 : q.get ρ2 with
                  | none => simp only [e6, e7] at h; exact h.elim
                  | some k2 =>
                    cases e8 : ρ2[j]? with
                    | none => simp only [e6, e7, e8] at h; exact h.elim
                    | some sl2 =>
                      cases sl2 <;> try (simp only [e6, e7, e8] at h; exact h.elim)
                      rename_i dl2
                      simp only [e6, e7, e8] at h
                      cases e9 : istore dl2 k2 (.int (f old y)) with
                      | none => simp only [e9] at h; exact h.elim
                      | some x'' =>
                        simp only [e9] at h
                        have ev := (rp.tr st2.sr e6).int
                        subst ev
                        refine ⟨old, y, rfl, rfl, ?_⟩
                        obtain ⟨a3, w1, w2, w3, _⟩ := st2.sr.own j _ _ e8 rfl
                        rw [ha0] at w1; cases w1
                        obtain ⟨o, ow, mo, kk⟩ := istore_ok w3 (rq2.tr st2.sr e7) (.int (f old y)) st2.sr.mu w2 e9
                        obtain ⟨u1, u2, u3⟩ := st2.sr.upOwn (o := o) e8 ha0 mo ow
                        refine kk _ ?_
                        refine h σ _ B2 ((st2.s st.sr).trans ⟨u1, u2, fun i y e => lent_upOwn e8 i y e⟩)
              · cases z1
end
theorem r1 {k : Nat} {A : Around} (r : Room k A) : A.units + 1 < cLine := by have := r.un; omega
theorem r2 {k : Nat} {A : Around} (r : Room k A) : A.units + 2 < cLine := by have := r.un; omega
end PL
set_option maxHeartbeats 4000000
/-! ### plain Lean over the mirrors: how they run -/
namespace PL
open PySem L2
section
variable {α β : Type} {ρ : Rho} {a : α} {x y : D} {p : Pd}
@[simp] theorem bind_ok {k : α → Rho → Rs β} : Rs.bind (.ok a ρ) k = k a ρ := rfl
@[simp] theorem bind_er {k : α → Rho → Rs β} : Rs.bind (.er x ρ) k = .er x ρ := rfl
@[simp] theorem bind_bad {k : α → Rho → Rs β} : Rs.bind (.bad : Rs α) k = .bad := rfl
@[simp] theorem get_d : (Pd.d x).get ρ = some x := rfl
@[simp] theorem get_f : (Pd.f x).get ρ = some x := rfl
@[simp] theorem get_o {i : Nat} : (Pd.o i).get ρ = (match ρ[i]? with | some s => s.held | none => none) := rfl
@[simp] theorem dat_d : (Pd.d x).dat = some x := rfl
@[simp] theorem dat_f : (Pd.f x).dat = some x := rfl
@[simp] theorem dat_o {i : Nat} : (Pd.o i).dat = none := rfl
@[simp] theorem ag_d : (Pd.d x).ag = .d x := rfl
@[simp] theorem ag_f : (Pd.f x).ag = .d x := rfl
@[simp] theorem ag_o {i : Nat} : (Pd.o i).ag = .o i := rfl
@[simp] theorem held_un : Sl.un.held = none := rfl
@[simp] theorem held_dat : (Sl.dat x).held = none := rfl
@[simp] theorem held_own : (Sl.own x).held = some x := rfl
@[simp] theorem held_lent : (Sl.lent x).held = some x := rfl
@[simp] theorem aget_d : (Ag.d x).get ρ = some x := rfl
@[simp] theorem aget_o {i : Nat} : (Ag.o i).get ρ = (match ρ[i]? with | some s => s.held | none => none) := rfl
@[simp] theorem agsGet_nil : agsGet ρ [] = some [] := rfl
@[simp] theorem agsGet_cons {b : Ag} {as : List Ag} : agsGet ρ (b :: as) = (match b.get ρ, agsGet ρ as with | some d, some ds => some (d :: ds) | _, _ => none) := rfl
@[simp] theorem agsDat_nil : agsDat [] = some [] := rfl
@[simp] theorem agsDat_d {as : List Ag} : agsDat (.d x :: as) = (match agsDat as with | some ds => some (x :: ds) | none => none) := rfl
@[simp] theorem agsDat_o {i : Nat} {as : List Ag} : agsDat (.o i :: as) = none := rfl
@[simp] theorem ev_var {i : Nat} : eVar i ρ = (match ρ[i]? with | some (.dat d) => .ok (.d d) ρ | some (.own _) => .ok (.o i) ρ | some (.lent _) => .ok (.o i) ρ | _ => .bad) := rfl
@[simp] theorem ev_k : eK x ρ = .ok (.d x) ρ := rfl
@[simp] theorem ev_nil : aNil ρ = .ok [] ρ := rfl
@[simp] theorem ev_cons {t : Ex} {r : Rho → Rs (List Ag)} : aCons t r ρ = (t ρ).bind fun p ρ1 => (r ρ1).bind fun as ρ2 => .ok (p.ag :: as) ρ2 := rfl
@[simp] theorem ev_bin {g : D → D → Option Pd} {s t : Ex} : eBin g s t ρ = (s ρ).bind fun p ρ1 => (t ρ1).bind fun q ρ2 => op2 g p q ρ2 := rfl
@[simp] theorem ev_op2 {g : D → D → Option Pd} {q : Pd} : op2 g p q ρ = (match p.get ρ, q.get ρ with | some x, some y => (match g x y with | some r => .ok r ρ | none => .bad) | _, _ => .bad) := rfl
@[simp] theorem ev_un {g : D → Option Pd} {t : Ex} : eUn g t ρ = (t ρ).bind fun p ρ1 => op1 g p ρ1 := rfl
@[simp] theorem ev_op1 {g : D → Option Pd} : op1 g p ρ = (match p.get ρ with | some x => (match g x with | some r => .ok r ρ | none => .bad) | none => .bad) := rfl
@[simp] theorem ev_tup {r : Rho → Rs (List Ag)} : eTup r ρ = (r ρ).bind fun as ρ1 => (match agsDat as with | some ds => if small ds.length then .ok (.d (.tup ds)) ρ1 else .bad | none => .bad) := rfl
@[simp] theorem ev_lst {r : Rho → Rs (List Ag)} : eLst r ρ = (r ρ).bind fun as ρ1 => (match agsDat as with | some ds => if small ds.length then .ok (.f (.lst ds)) ρ1 else .bad | none => .bad) := rfl
@[simp] theorem ev_cb {g : List D → Option Pd} {r : Rho → Rs (List Ag)} : eCB g r ρ = (r ρ).bind fun as ρ1 => (match agsGet ρ1 as with | some ds => (match g ds with | some p => .ok p ρ1 | none => .bad) | none => .bad) := rfl
@[simp] theorem ev_tb {t : Ex} : tB t ρ = (t ρ).bind fun p ρ1 => (match p.get ρ1 with | some (.bl b) => .ok b ρ1 | _ => .bad) := rfl
@[simp] theorem ev_tand {s t : Rho → Rs Bool} : tAndP s t ρ = (s ρ).bind fun c ρ1 => if c = true then t ρ1 else .ok false ρ1 := rfl
@[simp] theorem ev_tor {s t : Rho → Rs Bool} : tOrP s t ρ = (s ρ).bind fun c ρ1 => if c = true then .ok true ρ1 else t ρ1 := rfl
@[simp] theorem ev_tnot {s : Rho → Rs Bool} : tNotP s ρ = (s ρ).bind fun c ρ1 => .ok (!c) ρ1 := rfl
@[simp] theorem ev_and {s t : Ex} : eAnd s t ρ = (s ρ).bind fun p ρ1 => (match p.get ρ1 with | some (.bl c) => if c = true then t ρ1 else .ok (.d (.bl false)) ρ1 | _ => .bad) := rfl
@[simp] theorem ev_or {s t : Ex} : eOr s t ρ = (s ρ).bind fun p ρ1 => (match p.get ρ1 with | some (.bl c) => if c = true then .ok (.d (.bl true)) ρ1 else t ρ1 | _ => .bad) := rfl
@[simp] theorem ev_if {c : Rho → Rs Bool} {s t : Ex} : eIf c s t ρ = (c ρ).bind fun k ρ1 => if k = true then s ρ1 else t ρ1 := rfl
@[simp] theorem ev_chain {g g' : D → D → Option Pd} {s t u : Ex} : eChain g g' s t u ρ = (s ρ).bind fun p ρ1 => (t ρ1).bind fun q ρ2 => (match p.get ρ2, q.get ρ2 with
    | some x, some y => (match g x y with | some (.d (.bl true)) => (u ρ2).bind fun r ρ3 => op2 g' q r ρ3 | some (.d (.bl false)) => .ok (.d (.bl false)) ρ2 | _ => .bad) | _, _ => .bad) := rfl
@[simp] theorem ev_onone : oNone ρ = .ok none ρ := rfl
@[simp] theorem ev_osome {t : Ex} : oSome t ρ = (t ρ).bind fun p ρ1 => (match p.get ρ1 with | some (.int i) => .ok (some i) ρ1 | _ => .bad) := rfl
@[simp] theorem ev_sl {t : Ex} {lo hi : Ox} : eSl t lo hi ρ = (t ρ).bind fun p ρ1 => (lo ρ1).bind fun l ρ2 => (hi ρ2).bind fun h ρ3 => (match p.get ρ3 with | some x => (match gSl x l h with | some r => .ok r ρ3 | none => .bad) | none => .bad) := rfl
@[simp] theorem ev_next : sNext ρ = .ok .nx ρ := rfl
@[simp] theorem ev_sbad : sBad ρ = .bad := rfl
@[simp] theorem ev_ret {t : Ex} : sRet t ρ = (t ρ).bind fun p ρ1 => .ok (.rt p) ρ1 := rfl
@[simp] theorem ev_retn : sRetN ρ = .ok (.rt (.d .non)) ρ := rfl
@[simp] theorem ev_expr {t : Ex} : sExpr t ρ = (t ρ).bind fun _ ρ1 => .ok .nx ρ1 := rfl
@[simp] theorem ev_sif {c : Rho → Rs Bool} {s t : Sx} : sIf c s t ρ = (c ρ).bind fun k ρ1 => if k = true then s ρ1 else t ρ1 := rfl
@[simp] theorem ev_seq {s t : Sx} : sSeq s t ρ = (match s ρ with | .ok .nx ρ1 => t ρ1 | r => r) := rfl
@[simp] theorem ev_asg {t : Ex} {g : Pd → Rho → Rs Unit} : sAsg t g ρ = (t ρ).bind fun p ρ1 => (g p ρ1).bind fun _ ρ2 => .ok .nx ρ2 := rfl
@[simp] theorem ev_gst {i : Nat} : gS true i p ρ = gSet i p ρ := rfl
@[simp] theorem ev_gsf {i : Nat} : gS false i p ρ = gSetD i p ρ := rfl
@[simp] theorem ev_gset_d {i : Nat} : gSet i (.d x) ρ = putSl i (.dat x) ρ := rfl
@[simp] theorem ev_gset_f {i : Nat} : gSet i (.f x) ρ = putSl i (.own x) ρ := rfl
@[simp] theorem ev_gsetD_d {i : Nat} : gSetD i (.d x) ρ = putSl i (.dat x) ρ := rfl
@[simp] theorem ev_gsetD_f {i : Nat} : gSetD i (.f x) ρ = putSl i (.dat x) ρ := rfl
@[simp] theorem ev_put {i : Nat} {s : Sl} : putSl i s ρ = if isLent ρ[i]? then .bad else .ok () (ρ.set i s) := rfl
@[simp] theorem lent_none : isLent none = false := rfl
@[simp] theorem lent_un : isLent (some .un) = false := rfl
@[simp] theorem lent_dat : isLent (some (.dat x)) = false := rfl
@[simp] theorem lent_own : isLent (some (.own x)) = false := rfl
@[simp] theorem lent_lent : isLent (some (.lent x)) = true := rfl
@[simp] theorem ev_gsnil : gsNil [] ρ = .ok () ρ := rfl
@[simp] theorem ev_gscons {t : Pd → Rho → Rs Unit} {u : List D → Rho → Rs Unit} {ds : List D} : gsCons t u (x :: ds) ρ = (t (.d x) ρ).bind fun _ ρ1 => u ds ρ1 := rfl
@[simp] theorem ev_gtup {n : Nat} {u : List D → Rho → Rs Unit} {ds : List D} : gTupP n u (.d (.tup ds)) ρ = if ds.length = n then u ds ρ else .bad := rfl
@[simp] theorem ev_frz {i : Nat} {t : Sx} : sFrz i t ρ = (match ρ[i]? with | some (.own d) => t (ρ.set i (.dat d)) | some (.dat _) => t ρ | _ => .bad) := rfl
@[simp] theorem ev_par2 {o1 o2 : Bool} {i j : Nat} {s t : Ex} : sPar2 o1 i o2 j s t ρ = (s ρ).bind fun p ρ1 => (t ρ1).bind fun q ρ2 => (match q with
    | .o _ => .bad
    | _ => (gS o1 i p ρ2).bind fun _ ρ3 => (gS o2 j q ρ3).bind fun _ ρ4 => .ok .nx ρ4) := rfl
@[simp] theorem ev_yes : tYesP ρ = .ok true ρ := rfl
@[simp] theorem ev_sortset {t : Ex} : eSortSet t ρ = (t ρ).bind fun p ρ1 => op1 gSortSet p ρ1 := rfl
@[simp] theorem ev_itseq {t : Ex} : itSeq t ρ = (t ρ).bind fun p ρ1 => (match p with
  | .d (.lst ds) => .ok (ds, none) ρ1
  | .f (.lst ds) => .ok (ds, none) ρ1
  | .d (.tup ds) => .ok (ds, none) ρ1
  | .o j => (match ρ1[j]? with
    | some (.own (.lst ds)) => .ok (ds, some j) (ρ1.set j (.lent (.lst ds)))
    | some (.lent (.lst ds)) => .ok (ds, none) ρ1
    | _ => .bad)
  | _ => .bad) := rfl
/-- calls without a changed parameter -/
def resOf (ρ : Rho) : FR → Rs Pd
  | .ok d true _ => .ok (.f d) ρ
  | .ok d false _ => .ok (.d d) ρ
  | .er x _ => .er x ρ
  | .bad => .bad
@[simp] theorem res_f {o : D} : resOf ρ (.ok x true o) = .ok (.f x) ρ := rfl
@[simp] theorem res_d {o : D} : resOf ρ (.ok x false o) = .ok (.d x) ρ := rfl
@[simp] theorem res_er {o : D} : resOf ρ (.er x o) = .er x ρ := rfl
@[simp] theorem res_bad : resOf ρ .bad = .bad := rfl
theorem callEnd_res {f : FT} {ss : List Src} {as as' : List Ag} {ds : List D} (h1 : srcA as ss = some as') (h2 : agF none ρ 0 as' = some ds) : callEnd none f ss as ρ = resOf ρ (f ds) := by
  unfold callEnd
  rw [h1]
  show (match agF none ρ 0 as' with | none => _ | some ds => _) = _
  rw [h2]
  show (match f ds with | .ok d true out => _ | .ok d false out => _ | .er x out => _ | .bad => _) = _
  cases f ds with
  | ok d fr out => cases fr <;> rfl
  | er x out => rfl
  | bad => rfl
@[simp] theorem ev_call {n m : Nat} {io : Option Nat} {f : FT} {ss : List Src} {r1 r2 : Rho → Rs (List Ag)} : eCallK n m io f ss r1 r2 ρ = (r1 ρ).bind fun as1 ρ1 => (r2 ρ1).bind fun as2 ρ2 => if as1.length = n ∧ as2.length = m then callEnd io f ss (as1 ++ as2) ρ2 else .bad := rfl
@[simp] theorem ce_1 {f : FT} : callEnd none f (argsN 1) [.d x] ρ = resOf ρ (f [x]) := callEnd_res rfl rfl
@[simp] theorem ce_2 {f : FT} : callEnd none f (argsN 2) [.d x, .d y] ρ = resOf ρ (f [x, y]) := callEnd_res rfl rfl
@[simp] theorem ce_3 {f : FT} {z : D} : callEnd none f (argsN 3) [.d x, .d y, .d z] ρ = resOf ρ (f [x, y, z]) := callEnd_res rfl rfl
@[simp] theorem ce_p1 {f : FT} : callEnd none f (([0] : List Nat).map .arg) [.d x] ρ = resOf ρ (f [x]) := callEnd_res rfl rfl
@[simp] theorem ce_p2 {f : FT} : callEnd none f (([1, 0] : List Nat).map .arg) [.d x, .d y] ρ = resOf ρ (f [y, x]) := callEnd_res rfl rfl
@[simp] theorem ce_p2' {f : FT} : callEnd none f (([0, 1] : List Nat).map .arg) [.d x, .d y] ρ = resOf ρ (f [x, y]) := callEnd_res rfl rfl
/-- calls that change slot j -/
def resIo (j : Nat) (ρ : Rho) : FR → Rs Pd
  | .ok d true o => .ok (.f d) (ρ.set j (.own o))
  | .ok d false o => .ok (.d d) (ρ.set j (.own o))
  | .er x o => .er x (ρ.set j (.own o))
  | .bad => .bad
@[simp] theorem rio_f {j : Nat} {o : D} : resIo j ρ (.ok x true o) = .ok (.f x) (ρ.set j (.own o)) := rfl
@[simp] theorem rio_d {j : Nat} {o : D} : resIo j ρ (.ok x false o) = .ok (.d x) (ρ.set j (.own o)) := rfl
@[simp] theorem rio_bad {j : Nat} : resIo j ρ .bad = .bad := rfl
theorem ce_io {f : FT} {j n : Nat} {z : D} {as : List Ag} {ds : List D} (h : ρ[j]? = some (.own z)) (hn : as.length + 1 = n) (hd : agF (some 0) ρ 1 as = some ds) : callEnd (some 0) f (argsN n) (.o j :: as) ρ = resIo j ρ (f (z :: ds)) := by
  subst hn
  have e : srcA (.o j :: as) (argsN (as.length + 1)) = some (.o j :: as) := by
    have key : ∀ (xs : List Ag) (k : Nat) (bs : List Ag), xs.drop k = bs → srcA xs ((List.range' k bs.length).map .arg) = some bs := by
      intro xs k bs
      induction bs generalizing k with
      | nil => intro _; rfl
      | cons b bs ih =>
        intro hb
        have h1 : xs[k]? = some b := by
          have := congrArg (·[0]?) hb
          simpa using this
        have h2 : xs.drop (k + 1) = bs := by
          rw [← List.drop_drop, hb]; rfl
        show (match xs[k]?, srcA xs ((List.range' (k + 1) bs.length).map .arg) with | some a, some r => some (a :: r) | _, _ => none) = _
        rw [h1, ih (k + 1) h2]
    have := key (.o j :: as) 0 (.o j :: as) rfl
    unfold argsN
    rw [List.range_eq_range']
    exact this
  unfold callEnd
  rw [e]
  show (match agF (some 0) ρ 0 (.o j :: as) with | none => _ | some ds => _) = _
  have e2 : agF (some 0) ρ 0 (.o j :: as) = some (z :: ds) := by
    unfold agF
    rw [if_pos rfl, h]
    show (match agF (some 0) ρ 1 as with | some ds => some (z :: ds) | none => none) = _
    rw [hd]
  rw [e2]
  show (match f (z :: ds) with | .ok d true out => _ | .ok d false out => _ | .er x out => _ | .bad => _) = _
  cases f (z :: ds) with
  | ok d fr out => cases fr <;> rfl
  | er x out => rfl
  | bad => rfl
end
/-! loops -/
theorem loop_nil {tg : Pd → Rho → Rs Unit} {body : Sx} {ρ : Rho} : loopG tg body [] ρ = .ok .nx ρ := rfl
theorem loop_cons {tg : Pd → Rho → Rs Unit} {body : Sx} {ρ ρ1 ρ2 : Rho} {d : D} {ds : List D} (h1 : tg (.d d) ρ = .ok () ρ1) (h2 : body ρ1 = .ok .nx ρ2) : loopG tg body (d :: ds) ρ = loopG tg body ds ρ2 := by
  have e : loopG tg body (d :: ds) ρ = (match tg (.d d) ρ with
    | .ok _ ρ1 => (match body ρ1 with
      | .ok .nx ρ2 => loopG tg body ds ρ2
      | .ok .ct ρ2 => loopG tg body ds ρ2
      | r => r)
    | _ => .bad) := rfl
  rw [e, h1]
  simp only [h2]
theorem loop_inv {tg : Pd → Rho → Rs Unit} {body : Sx} (P : Rho → Prop) : ∀ {ds : List D} {ρ : Rho}, (∀ d ∈ ds, ∀ ρ, P ρ → ∃ ρ1 ρ2, tg (.d d) ρ = .ok () ρ1 ∧ body ρ1 = .ok .nx ρ2 ∧ P ρ2) → P ρ → ∃ ρ', loopG tg body ds ρ = .ok .nx ρ' ∧ P ρ'
  | [], ρ, _, h0 => ⟨ρ, rfl, h0⟩
  | d :: ds, ρ, h, h0 => by
    obtain ⟨ρ1, ρ2, e1, e2, p2⟩ := h d List.mem_cons_self ρ h0
    obtain ⟨ρ', e3, p3⟩ := loop_inv P (fun d hd => h d (List.mem_cons_of_mem _ hd)) p2
    exact ⟨ρ', by rw [loop_cons e1 e2, e3], p3⟩
theorem for_none {it : Itx} {tg : Pd → Rho → Rs Unit} {body : Sx} {ρ ρ1 ρ2 : Rho} {ds : List D} (h1 : it ρ = .ok (ds, none) ρ1) (h2 : loopG tg body ds ρ1 = .ok .nx ρ2) : sFor it tg body ρ = .ok .nx ρ2 := by
  unfold sFor
  rw [h1]
  show endL none (loopG tg body ds ρ1) = _
  rw [h2]; rfl
/-! comprehensions of one name whose tests and values leave the slots as they are -/
theorem comp_go {i : Nat} {cond : Rho → Rs Bool} {elt : Ex} {ρ : Rho} {c : D → Bool} {g : D → D} : ∀ {ds acc : List D}, (∀ d ∈ ds, cond (ρ.set i (.dat d)) = .ok (c d) (ρ.set i (.dat d)) ∧ (c d = true → ∃ p, elt (ρ.set i (.dat d)) = .ok p (ρ.set i (.dat d)) ∧ p.dat = some (g d))) →
    ρ[i]? = some .un → compG (.one i) cond elt ds ρ acc = .ok (acc ++ (ds.filter c).map g) ρ
  | [], acc, _, _ => by simp [compG]
  | d :: ds, acc, h, hu => by
    obtain ⟨h1, h2⟩ := h d List.mem_cons_self
    have hl : i < ρ.length := (List.getElem?_eq_some_iff.mp hu).1
    have w : wipeR (ρ.set i (.dat d)) [i] = ρ := by
      show ((ρ.set i (.dat d))).set i .un = ρ
      rw [List.set_set]
      apply List.ext_getElem?
      intro k
      by_cases z : i = k
      · subst z; rw [List.getElem?_set_self hl, hu]
      · rw [List.getElem?_set_ne z]
    have rest := fun acc' => comp_go (cond := cond) (elt := elt) (ρ := ρ) (c := c) (g := g) (i := i) (ds := ds) (acc := acc') (fun d' hd => h d' (List.mem_cons_of_mem _ hd)) hu
    unfold compG
    show (match cond (ρ.set i (.dat d)) with | .ok true ρ2 => _ | .ok false ρ2 => _ | _ => _) = _
    rw [h1]
    cases hc : c d with
    | false =>
      show compG (.one i) cond elt ds (wipeR (ρ.set i (.dat d)) [i]) acc = _
      rw [w, rest acc, List.filter_cons_of_neg (by simp [hc])]
    | true =>
      obtain ⟨p, h3, h4⟩ := h2 hc
      show (match elt (ρ.set i (.dat d)) with | .ok p ρ3 => _ | _ => _) = _
      rw [h3]
      show (match p.dat with | some y => _ | none => _) = _
      rw [h4]
      show compG (.one i) cond elt ds (wipeR (ρ.set i (.dat d)) [i]) (acc ++ [g d]) = _
      rw [w, rest (acc ++ [g d]), List.filter_cons_of_pos (by simp [hc]), List.map_cons, List.append_assoc]; rfl
theorem comp_one {i : Nat} {it : Itx} {cond : Rho → Rs Bool} {elt : Ex} {ρ : Rho} {ds : List D} (c : D → Bool) (g : D → D) (hi : it ρ = .ok (ds, none) ρ) (hu : ρ[i]? = some .un)
    (h : ∀ d ∈ ds, cond (ρ.set i (.dat d)) = .ok (c d) (ρ.set i (.dat d)) ∧ (c d = true → ∃ p, elt (ρ.set i (.dat d)) = .ok p (ρ.set i (.dat d)) ∧ p.dat = some (g d))) (hs : small ((ds.filter c).map g).length = true) :
    eComp it (.one i) cond elt ρ = .ok (.f (.lst ((ds.filter c).map g))) ρ := by
  have hl : i < ρ.length := (List.getElem?_eq_some_iff.mp hu).1
  have w : ∀ s : Rho, s = ρ → s.set i .un = ρ := fun s e => by
    subst e
    apply List.ext_getElem?
    intro k
    by_cases z : i = k
    · subst z; rw [List.getElem?_set_self hl, hu]
    · rw [List.getElem?_set_ne z]
  unfold eComp
  rw [hi]
  have hf : freeR ρ (CT.one i).slots = true := by
    show ([i].all fun i => match ρ[i]? with | some s => s.held.isNone | none => true) = true
    simp [hu]
  show (if freeR ρ (CT.one i).slots then _ else _) = _
  rw [hf, if_pos rfl]
  have e1 : wipeR ρ (CT.one i).slots = ρ := w ρ rfl
  rw [e1, comp_go h hu]
  show (if small (([] : List D) ++ (ds.filter c).map g).length then _ else _) = _
  rw [List.nil_append, hs, if_pos rfl]
  show Rs.ok (Pd.f (.lst _)) (unlend none (restR ρ [i] ρ)) = _
  have e2 : restR ρ [i] ρ = ρ := by
    show ρ.set i (ρ.getD i .un) = ρ
    have : ρ.getD i .un = .un := by rw [List.getD_eq_getElem?_getD, hu]; rfl
    rw [this]
    exact w ρ rfl
  show Rs.ok (Pd.f (.lst _)) (restR ρ [i] ρ) = _
  rw [e2]
/-! ### data that == and repr read -/
def gdn (n : Nat) (d : D) : Prop := ∃ p, pyD d = some p ∧ p.canLay0 = true ∧ p.depth ≤ n
theorem gdn.mono {n m : Nat} {d : D} (h : gdn n d) (k : n ≤ m) : gdn m d := by
  obtain ⟨p, h1, h2, h3⟩ := h
  exact ⟨p, h1, h2, by omega⟩
theorem gdn_int {n : Nat} (i : Int) : gdn n (.int i) := ⟨.int i, by simp [pyD], by simp [PyData.canLay0], by simp [PyData.depth]⟩
theorem gdn_bl {n : Nat} (b : Bool) : gdn n (.bl b) := ⟨.bool b, by simp [pyD], by simp [PyData.canLay0], by simp [PyData.depth]⟩
theorem gdn_non {n : Nat} : gdn n .non := ⟨.none, by simp [pyD], by simp [PyData.canLay0], by simp [PyData.depth]⟩
theorem gdn_str {n : Nat} {s : Str} (h : PyData.strOk s = true) : gdn n (.str s) := ⟨.str s, by simp [pyD], by simpa [PyData.canLay0] using h, by simp [PyData.depth]⟩
theorem gdns {n : Nat} : ∀ {ds : List D}, (∀ d ∈ ds, gdn n d) → ∃ ps, pyDs ds = some ps ∧ PyData.canLayAll0 ps = true ∧ PyData.depthAll ps ≤ n
  | [], _ => ⟨[], by simp [pyDs], by simp [PyData.canLayAll0], by simp [PyData.depthAll]⟩
  | d :: ds, h => by
    obtain ⟨p, h1, h2, h3⟩ := h d List.mem_cons_self
    obtain ⟨ps, k1, k2, k3⟩ := gdns fun d hd => h d (List.mem_cons_of_mem _ hd)
    exact ⟨p :: ps, by simp [pyDs, h1, k1], by simp [PyData.canLayAll0, h2, k2], by simp [PyData.depthAll]; omega⟩
theorem gdn_tup {n : Nat} {ds : List D} (h : ∀ d ∈ ds, gdn n d) : gdn (n + 1) (.tup ds) := by
  obtain ⟨ps, k1, k2, k3⟩ := gdns h
  exact ⟨.tuple ps, by simp [pyD, k1], by simpa [PyData.canLay0] using k2, by simp [PyData.depth]; omega⟩
theorem gdn_lst {n : Nat} {ds : List D} (h : ∀ d ∈ ds, gdn n d) : gdn (n + 1) (.lst ds) := by
  obtain ⟨ps, k1, k2, k3⟩ := gdns h
  exact ⟨.list ps, by simp [pyD, k1], by simpa [PyData.canLay0] using k2, by simp [PyData.depth]; omega⟩
theorem gdns_inv {n : Nat} : ∀ {ds : List D} {ps : List PyData}, pyDs ds = some ps → PyData.canLayAll0 ps = true → PyData.depthAll ps ≤ n → ∀ d ∈ ds, gdn n d
  | [], _, _, _, _ => fun d hd => absurd hd (by simp)
  | d :: ds, ps, h1, h2, h3 => by
    unfold pyDs at h1
    cases e1 : pyD d with
    | none => simp [e1] at h1
    | some p =>
      cases e2 : pyDs ds with
      | none => simp [e1, e2] at h1
      | some qs =>
        simp only [e1, e2] at h1
        cases h1
        simp [PyData.canLayAll0] at h2
        simp [PyData.depthAll] at h3
        intro d' hd
        rcases List.mem_cons.mp hd with rfl | hd
        · exact ⟨p, e1, h2.1, by omega⟩
        · exact gdns_inv e2 h2.2 (by omega) d' hd
theorem gdn_tup_inv {n : Nat} {ds : List D} (h : gdn (n + 1) (.tup ds)) : ∀ d ∈ ds, gdn n d := by
  obtain ⟨p, h1, h2, h3⟩ := h
  unfold pyD at h1
  cases e : pyDs ds with
  | none => simp [e] at h1
  | some ps =>
    rw [e] at h1; cases h1
    exact gdns_inv e (by simpa [PyData.canLay0] using h2) (by simp [PyData.depth] at h3; omega)
theorem gdn.sh {d : D} (h : gdn 64 d) : ∃ p, pyD d = some p ∧ SeqAt.shaped p = true := by
  obtain ⟨p, h1, h2, h3⟩ := h
  exact ⟨p, h1, by unfold SeqAt.shaped; rw [h2]; simpa using h3⟩
theorem eqD_of {x y : D} {p q : PyData} (h1 : gdn 64 x) (h2 : gdn 64 y) (e1 : pyD x = some p) (e2 : pyD y = some q) : eqD x y = some (PyData.eqv p q) := by
  obtain ⟨p', a1, a2⟩ := h1.sh
  obtain ⟨q', b1, b2⟩ := h2.sh
  rw [e1] at a1; cases a1
  rw [e2] at b1; cases b1
  unfold eqD
  rw [e1, e2]
  simp [a2, b2]
theorem eqD_int (i j : Int) : eqD (.int i) (.int j) = some (i == j) := by
  rw [eqD_of (p := .int i) (q := .int j) (gdn_int i) (gdn_int j) (by simp [pyD]) (by simp [pyD])]; simp [PyData.eqv]
def isStr (s : Str) : D → Bool
  | .str t => t == s
  | _ => false
theorem eqD_str {x : D} {s : Str} (h : gdn 64 x) (hs : PyData.strOk s = true) : eqD x (.str s) = some (isStr s x) := by
  obtain ⟨p, h1, h2, h3⟩ := id h
  rw [eqD_of (q := .str s) h (gdn_str hs) h1 (by simp [pyD])]
  cases x with
  | lst ds => unfold pyD at h1; cases e : pyDs ds with
    | none => simp [e] at h1
    | some ps => rw [e] at h1; cases h1; simp [PyData.eqv, isStr]
  | tup ds => unfold pyD at h1; cases e : pyDs ds with
    | none => simp [e] at h1
    | some ps => rw [e] at h1; cases h1; simp [PyData.eqv, isStr]
  | _ => simp [pyD] at h1 <;> subst h1 <;> simp [PyData.eqv, isStr]
theorem eqD_nil {xs : List D} (h : gdn 64 (.lst xs)) : eqD (.lst xs) (.lst []) = some xs.isEmpty := by
  obtain ⟨p, h1, h2, h3⟩ := id h
  rw [eqD_of h (gdn_lst (n := 63) fun d hd => absurd hd (by simp)) h1 (q := .list []) (by simp [pyD, pyDs])]
  unfold pyD at h1
  cases e : pyDs xs with
  | none => simp [e] at h1
  | some ps =>
    rw [e] at h1; cases h1
    cases xs with
    | nil => simp [pyDs] at e; subst e; simp [PyData.eqv, PyData.eqvAll]
    | cons x xs =>
      unfold pyDs at e
      cases e1 : pyD x with
      | none => simp [e1] at e
      | some p =>
        cases e2 : pyDs xs with
        | none => simp [e1, e2] at e
        | some qs => simp only [e1, e2] at e; cases e; simp [PyData.eqv, PyData.eqvAll]
end PL
set_option maxHeartbeats 4000000
namespace PL
open PySem L2
/-! comprehensions, any targets, whose tests and values leave the slots as they are -/
theorem comp_goG {ct : CT} {cond : Rho → Rs Bool} {elt : Ex} {ρ : Rho} {st : D → Rho} {c : D → Bool} {g : D → D} : ∀ {ds acc : List D}, (∀ d ∈ ds, cStore ct d ρ = some (st d) ∧ wipeR (st d) ct.slots = ρ ∧ cond (st d) = .ok (c d) (st d) ∧ (c d = true → ∃ p, elt (st d) = .ok p (st d) ∧ p.dat = some (g d))) →
    compG ct cond elt ds ρ acc = .ok (acc ++ (ds.filter c).map g) ρ
  | [], acc, _ => by simp [compG]
  | d :: ds, acc, h => by
    obtain ⟨h0, hw, h1, h2⟩ := h d List.mem_cons_self
    have rest := fun acc' => comp_goG (cond := cond) (elt := elt) (ρ := ρ) (c := c) (g := g) (ct := ct) (st := st) (ds := ds) (acc := acc') (fun d' hd => h d' (List.mem_cons_of_mem _ hd))
    have e : compG ct cond elt (d :: ds) ρ acc = (match cStore ct d ρ with
      | none => .bad
      | some ρ1 => (match cond ρ1 with
        | .ok true ρ2 => (match elt ρ2 with
          | .ok p ρ3 => (match p.dat with
            | some y => compG ct cond elt ds (wipeR ρ3 ct.slots) (acc ++ [y])
            | none => .bad)
          | _ => .bad)
        | .ok false ρ2 => compG ct cond elt ds (wipeR ρ2 ct.slots) acc
        | _ => .bad)) := rfl
    rw [e, h0]
    simp only [h1]
    cases hc : c d with
    | false =>
      simp only [hw]
      rw [rest acc, List.filter_cons_of_neg (by simp [hc])]
    | true =>
      obtain ⟨p, h3, h4⟩ := h2 hc
      simp only [h3, h4, hw]
      rw [rest (acc ++ [g d]), List.filter_cons_of_pos (by simp [hc]), List.map_cons, List.append_assoc]; rfl
theorem comp_gen {ct : CT} {it : Itx} {cond : Rho → Rs Bool} {elt : Ex} {ρ : Rho} {ds : List D} (st : D → Rho) (c : D → Bool) (g : D → D) (hi : it ρ = .ok (ds, none) ρ) (hf : freeR ρ ct.slots = true) (hw : wipeR ρ ct.slots = ρ) (hr : restR ρ ct.slots ρ = ρ)
    (h : ∀ d ∈ ds, cStore ct d ρ = some (st d) ∧ wipeR (st d) ct.slots = ρ ∧ cond (st d) = .ok (c d) (st d) ∧ (c d = true → ∃ p, elt (st d) = .ok p (st d) ∧ p.dat = some (g d))) (hs : small ((ds.filter c).map g).length = true) :
    eComp it ct cond elt ρ = .ok (.f (.lst ((ds.filter c).map g))) ρ := by
  unfold eComp
  rw [hi]
  show (if freeR ρ ct.slots then _ else _) = _
  rw [hf, if_pos rfl, hw, comp_goG h]
  show (if small (([] : List D) ++ (ds.filter c).map g).length then _ else _) = _
  rw [List.nil_append, hs, if_pos rfl]
  show Rs.ok (Pd.f (.lst _)) (restR ρ ct.slots ρ) = _
  rw [hr]
theorem comp_map {ct : CT} {it : Itx} {elt : Ex} {ρ : Rho} {ds : List D} (st : D → Rho) (g : D → D) (hi : it ρ = .ok (ds, none) ρ) (hf : freeR ρ ct.slots = true) (hw : wipeR ρ ct.slots = ρ) (hr : restR ρ ct.slots ρ = ρ)
    (h : ∀ d ∈ ds, cStore ct d ρ = some (st d) ∧ wipeR (st d) ct.slots = ρ ∧ ∃ p, elt (st d) = .ok p (st d) ∧ p.dat = some (g d)) (hs : small ds.length = true) :
    eComp it ct tYesP elt ρ = .ok (.f (.lst (ds.map g))) ρ := by
  have := comp_gen (cond := tYesP) (elt := elt) st (fun _ => true) g hi hf hw hr (fun d hd => ⟨(h d hd).1, (h d hd).2.1, rfl, fun _ => (h d hd).2.2⟩) (by rw [List.length_map, List.filter_eq_self.mpr (fun _ _ => rfl)]; exact hs)
  rwa [List.filter_eq_self.mpr (fun _ _ => rfl)] at this
/-! parts -/
theorem cut_from {xs : List D} {k : Nat} : cutD xs (some (k : Int)) none = xs.drop k := by
  unfold cutD
  rw [HT.sIx_nat, HT.sIx_none]
  by_cases h : k ≤ xs.length
  · rw [Nat.min_eq_left h, List.take_of_length_le (by rw [List.length_drop]; omega)]
  · rw [Nat.min_eq_right (by omega), List.drop_of_length_le (Nat.le_refl _), List.drop_of_length_le (by omega)]; simp
theorem cut_to {xs : List D} {k : Nat} : cutD xs none (some (k : Int)) = xs.take k := by
  unfold cutD
  rw [HT.sIx_nat, HT.sIx_none, List.drop_zero, Nat.sub_zero]
  by_cases h : k ≤ xs.length
  · rw [Nat.min_eq_left h]
  · rw [Nat.min_eq_right (by omega), List.take_of_length_le (Nat.le_refl _), List.take_of_length_le (by omega)]
theorem zipD_tail_mem : ∀ {xs ys : List D} {d : D}, d ∈ zipD xs ys → ∃ x y, d = .tup [x, y] ∧ x ∈ xs ∧ y ∈ ys
  | [], _, _, h => by simp [zipD] at h
  | _ :: _, [], _, h => by simp [zipD] at h
  | x :: xs, y :: ys, d, h => by
    unfold zipD at h
    rcases List.mem_cons.mp h with rfl | h
    · exact ⟨x, y, rfl, List.mem_cons_self, List.mem_cons_self⟩
    · obtain ⟨a, b, e, h1, h2⟩ := zipD_tail_mem h
      exact ⟨a, b, e, List.mem_cons_of_mem _ h1, List.mem_cons_of_mem _ h2⟩
theorem zipD_length : ∀ {xs ys : List D}, (zipD xs ys).length = min xs.length ys.length
  | [], _ => by simp [zipD]
  | _ :: _, [] => by simp [zipD]
  | x :: xs, y :: ys => by simp [zipD, zipD_length]
theorem small_of {n : Nat} (h : n ≤ 16777216) : small n = true := decide_eq_true h
/-! tuples of ints -/
theorem blsOf_bl {α : Type} (f : α → Bool) (xs : List α) : blsOf (xs.map fun x => .bl (f x)) = some (xs.map f) := by
  have := blsOf_map (xs.map f)
  rwa [List.map_map] at this
/-- neighbours stand in order -/
def adj {α : Type} (lt : α → α → Bool) : List α → Bool
  | [] => true
  | [_] => true
  | x :: y :: r => lt x y && adj lt (y :: r)
theorem adj_zip {α : Type} {lt : α → α → Bool} {emb : α → D} {f : D → Bool} (hf : ∀ x y, f (.tup [emb x, emb y]) = lt x y) : ∀ xs : List α, ((zipD (xs.map emb) ((xs.map emb).drop 1)).all f) = adj lt xs
  | [] => rfl
  | [x] => rfl
  | x :: y :: r => by
    have ih := adj_zip hf (y :: r)
    simp only [List.map_cons, List.drop_succ_cons, List.drop_zero] at ih ⊢
    rw [zipD, List.all_cons, hf, ih]
    rfl
theorem eqv_ints : ∀ (ns ms : List Int), PyData.eqvAll (ns.map PyData.int) (ms.map PyData.int) = decide (ns = ms)
  | [], [] => rfl
  | [], _ :: _ => by simp [PyData.eqvAll]
  | _ :: _, [] => by simp [PyData.eqvAll]
  | n :: ns, m :: ms => by
    simp only [List.map_cons, PyData.eqvAll, PyData.eqv, eqv_ints ns ms]
    by_cases h : n = m <;> simp [h]
theorem pyDs_ints : ∀ ns : List Int, pyDs (ns.map D.int) = some (ns.map PyData.int)
  | [] => by simp [pyDs]
  | n :: ns => by simp [pyDs, pyD, pyDs_ints ns]
def tupP (ns : List Int) : PyData := .tuple (ns.map .int)
theorem pyDs_tups : ∀ nss : List (List Int), pyDs (nss.map tupD) = some (nss.map tupP)
  | [] => by simp [pyDs]
  | ns :: nss => by simp [pyDs, tupD, pyD, pyDs_ints ns, pyDs_tups nss, tupP]
theorem eqv_tups : ∀ (ns ms : List (List Int)), PyData.eqvAll (ns.map tupP) (ms.map tupP) = decide (ns = ms)
  | [], [] => rfl
  | [], _ :: _ => by simp [PyData.eqvAll]
  | _ :: _, [] => by simp [PyData.eqvAll]
  | n :: ns, m :: ms => by
    simp only [List.map_cons, PyData.eqvAll, eqv_tups ns ms]
    have : PyData.eqv (tupP n) (tupP m) = decide (n = m) := by simp [tupP, PyData.eqv, eqv_ints]
    rw [this]
    by_cases h : n = m <;> simp [h]
theorem gdn_tupD {n : Nat} (ns : List Int) : gdn (n + 1) (tupD ns) := gdn_tup fun d hd => by
  obtain ⟨i, _, rfl⟩ := List.mem_map.mp hd
  exact gdn_int i
theorem eqD_tups (ns ms : List (List Int)) : eqD (.lst (ns.map tupD)) (.lst (ms.map tupD)) = some (decide (ns = ms)) := by
  have g : ∀ ns : List (List Int), gdn 64 (.lst (ns.map tupD)) := fun ns => gdn_lst fun d hd => by
    obtain ⟨i, _, rfl⟩ := List.mem_map.mp hd
    exact gdn_tupD i
  rw [eqD_of (p := .list (ns.map tupP)) (q := .list (ms.map tupP)) (g ns) (g ms) (by simp [pyD, pyDs_tups]) (by simp [pyD, pyDs_tups])]
  simp [PyData.eqv, eqv_tups]
end PL
set_option maxHeartbeats 4000000
/-! ### sorted sets of tuples -/
namespace PL
open PySem L2
theorem lexLt_code {B : Int} : ∀ {a b : List Int}, a.length = b.length → TS.Bd B a → TS.Bd B b → HT.lexLt a b = decide (TS.code B a < TS.code B b)
  | [], [], _, _, _ => by simp [HT.lexLt, TS.code]
  | [], _ :: _, h, _, _ => by simp at h
  | _ :: _, [], h, _, _ => by simp at h
  | x :: a, y :: b, h, h1, h2 => by
    have hl : a.length = b.length := by simpa using h
    rw [HT.lexLt_cons]
    by_cases e : x = y
    · subst e
      rw [if_pos rfl, lexLt_code hl h1.tail h2.tail]
      exact decide_eq_decide.mpr (TS.code_same hl).symm
    · rw [if_neg e]
      refine decide_eq_decide.mpr ⟨fun c => TS.code_lt hl h1.tail h2.tail c, fun c => ?_⟩
      rcases Int.lt_trichotomy x y with d | d | d
      · exact d
      · exact absurd d e
      · have := TS.code_lt hl.symm h2.tail h1.tail d; omega
theorem adj_pair {d : Nat} {B : Int} : ∀ {nss : List (List Int)}, (∀ ns ∈ nss, ns.length = d ∧ TS.Bd B ns) → adj HT.lexLt nss = true → nss.Pairwise fun a b => TS.code B a < TS.code B b
  | [], _, _ => .nil
  | [x], _, _ => List.pairwise_singleton _ _
  | x :: y :: r, h, e => by
    unfold adj at e
    rw [Bool.and_eq_true] at e
    have hx := h x (by simp)
    have hy := h y (by simp)
    have lt : TS.code B x < TS.code B y := by
      have := e.1
      rw [lexLt_code (hx.1.trans hy.1.symm) hx.2 hy.2] at this
      exact of_decide_eq_true this
    have ih := adj_pair (fun ns hn => h ns (List.mem_cons_of_mem _ hn)) e.2
    refine List.pairwise_cons.mpr ⟨fun z hz => ?_, ih⟩
    rcases List.mem_cons.mp hz with rfl | hz
    · exact lt
    · exact Int.lt_trans lt ((List.pairwise_cons.mp ih).1 z hz)
theorem pair_adj {d : Nat} {B : Int} : ∀ {nss : List (List Int)}, (∀ ns ∈ nss, ns.length = d ∧ TS.Bd B ns) → (nss.Pairwise fun a b => TS.code B a < TS.code B b) → adj HT.lexLt nss = true
  | [], _, _ => rfl
  | [x], _, _ => rfl
  | x :: y :: r, h, e => by
    have hx := h x (by simp)
    have hy := h y (by simp)
    unfold adj
    rw [pair_adj (fun ns hn => h ns (List.mem_cons_of_mem _ hn)) (List.pairwise_cons.mp e).2, Bool.and_true, lexLt_code (hx.1.trans hy.1.symm) hx.2 hy.2]
    exact decide_eq_true ((List.pairwise_cons.mp e).1 y (by simp))
theorem sortSet_lt {d : Nat} {nss : List (List Int)} (hb : bdOk d nss = true) : (sortSet nss).Pairwise fun a b => TS.code bigB a < TS.code bigB b := by
  have h := (sortSet_le nss).and (sortSet_nodup nss)
  refine List.Pairwise.imp_of_mem (fun {a b} ha hb' q => ?_) h
  have ba := bdOk_get hb (sortSet_mem.mp ha)
  have bb := bdOk_get hb (sortSet_mem.mp hb')
  rcases Int.lt_or_eq_of_le q.1 with c | c
  · exact c
  · exact absurd (code_inj (ba.1.trans bb.1.symm) ba.2 bb.2 c) q.2
theorem sortSet_adj {d : Nat} {nss : List (List Int)} (hb : bdOk d nss = true) : adj HT.lexLt (sortSet nss) = true :=
  pair_adj (d := d) (B := bigB) (fun ns hn => bdOk_get hb (sortSet_mem.mp hn)) (sortSet_lt hb)
theorem sortSet_fix {d : Nat} {nss : List (List Int)} (hb : bdOk d nss = true) : decide (nss = sortSet nss) = adj HT.lexLt nss := by
  rw [Bool.eq_iff_iff]
  constructor
  · intro h
    have e := of_decide_eq_true h
    rw [e]
    exact sortSet_adj hb
  · intro h
    have p := adj_pair (d := d) (B := bigB) (fun ns hn => bdOk_get hb hn) h
    refine decide_eq_true (sortSet_eq hb (fun x => Iff.rfl) (p.imp fun q z => ?_) (p.imp fun q => Int.le_of_lt q))
    rw [z] at q
    exact Int.lt_irrefl _ q
end PL
set_option maxHeartbeats 4000000
/-! ### texts of data: repr -/
namespace PL
open PySem L2 PyProof.Rows
def so (s : Str) : Prop := ∀ k, 1114112 ≤ k → k ∉ s.cps.toList
theorem so_ok {s : Str} : PyData.strOk s = true ↔ so s := by
  unfold PyData.strOk so
  rw [Array.all_eq_true_iff_forall_mem]
  constructor
  · intro h k hk hm
    have := h k (Array.mem_toList_iff.mp hm)
    simp at this
    omega
  · intro h k hm
    have := h k
    simp
    have h2 := Array.mem_toList_iff.mpr hm
    by_cases c : 1114112 ≤ k
    · exact absurd h2 (this c)
    · omega
theorem so_app {a b : Str} (h1 : so a) (h2 : so b) : so (a ++ b) := fun k hk hm => by
  rw [Str.cps_append, Array.toList_append, List.mem_append] at hm
  exact hm.elim (h1 k hk) (h2 k hk)
theorem so_lit {s : Str} (h : PyData.strOk s = true) : so s := so_ok.mp h
theorem so_from : ∀ (ts : List Str) (k : Nat) (acc : Str), so acc → (∀ t ∈ ts, so t) → so (textFrom k acc ts)
  | [], _, _, h, _ => h
  | t :: ts, k, acc, h, ht => by
    refine so_from ts (k + 1) _ (so_app (so_app h ?_) (ht t List.mem_cons_self)) fun u hu => ht u (List.mem_cons_of_mem _ hu)
    split <;> exact so_lit (by decide +kernel)
theorem so_join : ∀ ts : List Str, (∀ t ∈ ts, so t) → so (Str.join ", " ts)
  | [], _ => so_lit (by decide +kernel)
  | [x], h => h x List.mem_cons_self
  | x :: y :: r, h => by
    show so (x ++ ", " ++ Str.join ", " (y :: r))
    exact so_app (so_app (h x List.mem_cons_self) (so_lit (by decide +kernel))) (so_join (y :: r) fun u hu => h u (List.mem_cons_of_mem _ hu))
theorem so_all {ps : List PyData} (h : ∀ p ∈ ps, so p.shown) : ∀ t ∈ PyData.shownAll ps, so t := fun t ht k hk => shownAll_free (fun x hx => h x hx k hk) t ht
/-- data whose text is told -/
structure rpp (n w : Nat) (p : PyData) : Prop where
  lay : p.canLay0 = true
  dep : p.depth ≤ n
  wei : p.weight ≤ w
  ins : p.intsShort 13 = true
  sho : p.showable = true
  nod : p.hasDict = false
  txt : so p.shown
def rpn (n w : Nat) (d : D) : Prop := ∃ p, pyD d = some p ∧ rpp n w p
theorem rpn.gd {n w : Nat} {d : D} (h : rpn n w d) : gdn n d := by
  obtain ⟨p, e, h⟩ := h
  exact ⟨p, e, h.lay, h.dep⟩
theorem rpn.mono {n m w v : Nat} {d : D} (h : rpn n w d) (k : n ≤ m) (l : w ≤ v) : rpn m v d := by
  obtain ⟨p, e, h⟩ := h
  exact ⟨p, e, h.lay, Nat.le_trans h.dep k, Nat.le_trans h.wei l, h.ins, h.sho, h.nod, h.txt⟩
theorem log2_le {i : Nat} (h : i < 10 ^ 12) : i.log2 < 40 := by
  by_cases z : i = 0
  · subst z; decide
  · rw [Nat.log2_lt z]
    exact Nat.lt_trans h (by decide)
theorem rpn_int {n : Nat} {i : Int} (h : i.natAbs < 10 ^ 12) : rpn n 41 (.int i) := by
  have hl := log2_le h
  refine ⟨.int i, by simp [pyD], by simp [PyData.canLay0], by simp [PyData.depth], ?_, ?_, ?_, by simp [PyData.hasDict], ?_⟩
  · unfold PyData.weight
    split <;> omega
  · unfold PyData.intsShort
    exact decide_eq_true (PyData.shown_int_le h)
  · unfold PyData.showable
    exact decide_eq_true (by omega)
  · exact fun k hk => shown_int_free' ⟨by omega, by omega⟩ i
theorem rpn_bl {n : Nat} (b : Bool) : rpn n 41 (.bl b) := by
  refine ⟨.bool b, by simp [pyD], by simp [PyData.canLay0], by simp [PyData.depth], by simp [PyData.weight], by simp [PyData.intsShort], by simp [PyData.showable], by simp [PyData.hasDict], ?_⟩
  rw [PyData.shown_bool]
  cases b <;> exact so_lit (by decide +kernel)
theorem rpn_non {n : Nat} : rpn n 41 .non := by
  refine ⟨.none, by simp [pyD], by simp [PyData.canLay0], by simp [PyData.depth], by simp [PyData.weight], by simp [PyData.intsShort], by simp [PyData.showable], by simp [PyData.hasDict], ?_⟩
  rw [PyData.shown_none]
  exact so_lit (by decide +kernel)
theorem rpn_str {n : Nat} {s : Str} (h : (PyData.strOk s && decide (s.cps.size ≤ 41) && PyData.strOk (reprText s)) = true) : rpn n 41 (.str s) := by
  simp only [Bool.and_eq_true, decide_eq_true_eq] at h
  refine ⟨.str s, by simp [pyD], by simp [PyData.canLay0, h.1.1], by simp [PyData.depth], by simp [PyData.weight, h.1.2], by simp [PyData.intsShort], by simp [PyData.showable], by simp [PyData.hasDict], ?_⟩
  have : (PyData.str s).shown = reprText s := by simp [PyData.shown]
  rw [this]
  exact so_lit h.2
structure rpa (n w : Nat) (ps : List PyData) : Prop where
  lay : PyData.canLayAll0 ps = true
  dep : PyData.depthAll ps ≤ n
  wei : PyData.weightAll ps ≤ w
  ins : PyData.intsShortAll 13 ps = true
  sho : PyData.showableAll ps = true
  nod : PyData.hasDictAll ps = false
  txt : ∀ p ∈ ps, so p.shown
theorem rpa_of {n w : Nat} : ∀ {ds : List D}, (∀ d ∈ ds, rpn n w d) → ∃ ps, pyDs ds = some ps ∧ rpa n (ds.length * (w + 1)) ps
  | [], _ => ⟨[], by simp [pyDs], by simp [PyData.canLayAll0], by simp [PyData.depthAll], by simp [PyData.weightAll], by simp [PyData.intsShortAll], by simp [PyData.showableAll], by simp [PyData.hasDictAll], fun p hp => absurd hp (by simp)⟩
  | d :: ds, h => by
    obtain ⟨p, e, hp⟩ := h d List.mem_cons_self
    obtain ⟨ps, e2, hps⟩ := rpa_of fun d hd => h d (List.mem_cons_of_mem _ hd)
    refine ⟨p :: ps, by simp [pyDs, e, e2], by simp [PyData.canLayAll0, hp.lay, hps.lay], ?_, ?_, by simp [PyData.intsShortAll, hp.ins, hps.ins], by simp [PyData.showableAll, hp.sho, hps.sho], by simp [PyData.hasDictAll, hp.nod, hps.nod], fun q hq => ?_⟩
    · have := hp.dep; have := hps.dep
      simp [PyData.depthAll]; omega
    · have := hp.wei; have := hps.wei
      simp only [PyData.weightAll, List.length_cons, Nat.succ_mul]; omega
    · rcases List.mem_cons.mp hq with rfl | hq
      · exact hp.txt
      · exact hps.txt q hq
theorem rpn_lst {n w : Nat} {ds : List D} (h : ∀ d ∈ ds, rpn n w d) : rpn (n + 1) (ds.length * (w + 1)) (.lst ds) := by
  obtain ⟨ps, e, h⟩ := rpa_of h
  refine ⟨.list ps, by simp [pyD, e], by simp [PyData.canLay0, h.lay], by simp [PyData.depth]; exact h.dep, by simp [PyData.weight]; exact h.wei, by simp [PyData.intsShort, h.ins], by simp [PyData.showable, h.sho], by simp [PyData.hasDict, h.nod], ?_⟩
  have : (PyData.list ps).shown = listText (PyData.shownAll ps) := by simp [PyData.shown]
  rw [this]
  exact so_app (so_from _ _ _ (so_lit (by decide +kernel)) (so_all h.txt)) (so_lit (by decide +kernel))
theorem rpn_tup {n w : Nat} {ds : List D} (h : ∀ d ∈ ds, rpn n w d) : rpn (n + 1) (ds.length * (w + 1)) (.tup ds) := by
  obtain ⟨ps, e, h⟩ := rpa_of h
  refine ⟨.tuple ps, by simp [pyD, e], by simp [PyData.canLay0, h.lay], by simp [PyData.depth]; exact h.dep, by simp [PyData.weight]; exact h.wei, by simp [PyData.intsShort, h.ins], by simp [PyData.showable, h.sho], by simp [PyData.hasDict, h.nod], ?_⟩
  have : (PyData.tuple ps).shown = tupleText (PyData.shownAll ps) := by simp [PyData.shown]
  rw [this]
  refine so_app (so_app (so_lit (by decide +kernel)) (so_join _ (so_all h.txt))) ?_
  split <;> exact so_lit (by decide +kernel)
theorem repr1 {d : D} (h : rpn 64 1048576 d) : ∃ s, cRepr1 d = some (.d (.str s)) ∧ PyData.strOk s = true := by
  obtain ⟨p, e, h⟩ := h
  refine ⟨p.shown, ?_, so_ok.mpr h.txt⟩
  have hl := PyData.shown_le 13 (by decide) p (PyData.leavesShort_of_canLay0 13 p h.lay h.ins)
  have h2 : small p.shown.length = true := small_of (by have := h.wei; omega)
  unfold cRepr1
  rw [e]
  simp [h.sho, h.nod, h.dep, h2]
/-- two answers that are alike: their texts are -/
theorem repr_same {d : D} {w : Nat} (h : rpn 63 w d) (hw : w ≤ 500000) : ∃ s, cRepr [.lst [d, d]] = some (.d (.str s)) ∧ gNe (.str s) (.str s) = some (.d (.bl false)) := by
  have h2 : rpn 64 1048576 (.lst [d, d]) := (rpn_lst (n := 63) (w := w) (ds := [d, d]) fun x hx => by simp at hx; subst hx; exact h).mono (Nat.le_refl _) (by simp; omega)
  obtain ⟨s, e, k⟩ := repr1 h2
  refine ⟨s, e, ?_⟩
  unfold gNe
  rw [eqD_str (gdn_str k) k]
  simp [isStr]
end PL
set_option maxHeartbeats 4000000
namespace Gk30
open PySem L2 PySem.Spec PyProof.Rows PL
abbrev prog : Program := PySem.Challenge.pw_eachtwo_k30_whole_over_and_needless
def top (i : Nat) : Stmt := prog.main.body.getD i (.Pass ⟨0, 0, 0, 0⟩)
abbrev ad (K : PySem.W.Frag) (x : Str) : Addr := He.fAd K (x, none)
abbrev FnP (K : PySem.W.Frag) (x : Str) (st : Stmt) (f : Addr) (fd : FuncData) : Prop := FunD K x x (defArgs st) (defBody st) (defScope st) [] [] f fd
abbrev s_is_integer : Stmt := top 6
abbrev s_is_count : Stmt := top 7
abbrev s_is_below : Stmt := top 8
abbrev s_is_row : Stmt := top 9
abbrev s_is_rising : Stmt := top 10
abbrev s_is_number : Stmt := top 15
abbrev s_is_triple_in : Stmt := top 16
abbrev s_is_lot_of : Stmt := top 17
abbrev s_pairs_of_triple : Stmt := top 18
abbrev s_all_pairs : Stmt := top 19
abbrev s_without_triple : Stmt := top 20
abbrev s_want_lot : Stmt := top 21
abbrev s_counts_of : Stmt := top 23
abbrev s_left_of : Stmt := top 24
abbrev s_is_wide_of : Stmt := top 25
abbrev s_over_of : Stmt := top 27
abbrev s_needless_of : Stmt := top 28
abbrev s_slimmed_of : Stmt := top 29
abbrev s_want_wide : Stmt := top 30
abbrev s_over : Stmt := top 31
abbrev s_needless : Stmt := top 32
abbrev s_slimmed : Stmt := top 33
abbrev s_law_pot : Stmt := top 35
abbrev s_law_draw : Stmt := top 36
abbrev s_law_pick : Stmt := top 37
abbrev s_law_all_pairs : Stmt := top 38
abbrev s_law_all_triples : Stmt := top 39
abbrev s_law_in : Stmt := top 40
abbrev s_law_counts : Stmt := top 41
abbrev s_law_left : Stmt := top 42
abbrev s_law_is_wide : Stmt := top 43
abbrev s_law_with : Stmt := top 44
abbrev s_law_without : Stmt := top 45
abbrev s_law_shuffled : Stmt := top 46
abbrev s_law_any : Stmt := top 47
abbrev s_law_wide : Stmt := top 48
abbrev s_law_needless : Stmt := top 49
abbrev s_law_right : Stmt := top 50
abbrev s_law : Stmt := top 51
structure Fc (K : PySem.W.Frag) (mg : Str → Option Value) (fd : Nat → FuncData) : Prop where
  f_is_integer : FnP K "is_integer" s_is_integer (ad K "is_integer") (fd 0)
  g_is_integer : mg "is_integer" = some (.ref (ad K "is_integer"))
  f_is_count : FnP K "is_count" s_is_count (ad K "is_count") (fd 1)
  g_is_count : mg "is_count" = some (.ref (ad K "is_count"))
  f_is_below : FnP K "is_below" s_is_below (ad K "is_below") (fd 2)
  g_is_below : mg "is_below" = some (.ref (ad K "is_below"))
  f_is_row : FnP K "is_row" s_is_row (ad K "is_row") (fd 3)
  g_is_row : mg "is_row" = some (.ref (ad K "is_row"))
  f_is_rising : FnP K "is_rising" s_is_rising (ad K "is_rising") (fd 4)
  g_is_rising : mg "is_rising" = some (.ref (ad K "is_rising"))
  f_is_number : FnP K "is_number" s_is_number (ad K "is_number") (fd 5)
  g_is_number : mg "is_number" = some (.ref (ad K "is_number"))
  f_is_triple_in : FnP K "is_triple_in" s_is_triple_in (ad K "is_triple_in") (fd 6)
  g_is_triple_in : mg "is_triple_in" = some (.ref (ad K "is_triple_in"))
  f_is_lot_of : FnP K "is_lot_of" s_is_lot_of (ad K "is_lot_of") (fd 7)
  g_is_lot_of : mg "is_lot_of" = some (.ref (ad K "is_lot_of"))
  f_pairs_of_triple : FnP K "pairs_of_triple" s_pairs_of_triple (ad K "pairs_of_triple") (fd 8)
  g_pairs_of_triple : mg "pairs_of_triple" = some (.ref (ad K "pairs_of_triple"))
  f_all_pairs : FnP K "all_pairs" s_all_pairs (ad K "all_pairs") (fd 9)
  g_all_pairs : mg "all_pairs" = some (.ref (ad K "all_pairs"))
  f_without_triple : FnP K "without_triple" s_without_triple (ad K "without_triple") (fd 10)
  g_without_triple : mg "without_triple" = some (.ref (ad K "without_triple"))
  f_want_lot : FnP K "want_lot" s_want_lot (ad K "want_lot") (fd 11)
  g_want_lot : mg "want_lot" = some (.ref (ad K "want_lot"))
  f_counts_of : FnP K "counts_of" s_counts_of (ad K "counts_of") (fd 12)
  g_counts_of : mg "counts_of" = some (.ref (ad K "counts_of"))
  f_left_of : FnP K "left_of" s_left_of (ad K "left_of") (fd 13)
  g_left_of : mg "left_of" = some (.ref (ad K "left_of"))
  f_is_wide_of : FnP K "is_wide_of" s_is_wide_of (ad K "is_wide_of") (fd 14)
  g_is_wide_of : mg "is_wide_of" = some (.ref (ad K "is_wide_of"))
  f_over_of : FnP K "over_of" s_over_of (ad K "over_of") (fd 15)
  g_over_of : mg "over_of" = some (.ref (ad K "over_of"))
  f_needless_of : FnP K "needless_of" s_needless_of (ad K "needless_of") (fd 16)
  g_needless_of : mg "needless_of" = some (.ref (ad K "needless_of"))
  f_slimmed_of : FnP K "slimmed_of" s_slimmed_of (ad K "slimmed_of") (fd 17)
  g_slimmed_of : mg "slimmed_of" = some (.ref (ad K "slimmed_of"))
  f_want_wide : FnP K "want_wide" s_want_wide (ad K "want_wide") (fd 18)
  g_want_wide : mg "want_wide" = some (.ref (ad K "want_wide"))
  f_over : FnP K "over" s_over (ad K "over") (fd 19)
  g_over : mg "over" = some (.ref (ad K "over"))
  f_needless : FnP K "needless" s_needless (ad K "needless") (fd 20)
  g_needless : mg "needless" = some (.ref (ad K "needless"))
  f_slimmed : FnP K "slimmed" s_slimmed (ad K "slimmed") (fd 21)
  g_slimmed : mg "slimmed" = some (.ref (ad K "slimmed"))
  f_law_pot : FnP K "_law_pot" s_law_pot (ad K "_law_pot") (fd 22)
  g_law_pot : mg "_law_pot" = some (.ref (ad K "_law_pot"))
  f_law_draw : FnP K "_law_draw" s_law_draw (ad K "_law_draw") (fd 23)
  g_law_draw : mg "_law_draw" = some (.ref (ad K "_law_draw"))
  f_law_pick : FnP K "_law_pick" s_law_pick (ad K "_law_pick") (fd 24)
  g_law_pick : mg "_law_pick" = some (.ref (ad K "_law_pick"))
  f_law_all_pairs : FnP K "_law_all_pairs" s_law_all_pairs (ad K "_law_all_pairs") (fd 25)
  g_law_all_pairs : mg "_law_all_pairs" = some (.ref (ad K "_law_all_pairs"))
  f_law_all_triples : FnP K "_law_all_triples" s_law_all_triples (ad K "_law_all_triples") (fd 26)
  g_law_all_triples : mg "_law_all_triples" = some (.ref (ad K "_law_all_triples"))
  f_law_in : FnP K "_law_in" s_law_in (ad K "_law_in") (fd 27)
  g_law_in : mg "_law_in" = some (.ref (ad K "_law_in"))
  f_law_counts : FnP K "_law_counts" s_law_counts (ad K "_law_counts") (fd 28)
  g_law_counts : mg "_law_counts" = some (.ref (ad K "_law_counts"))
  f_law_left : FnP K "_law_left" s_law_left (ad K "_law_left") (fd 29)
  g_law_left : mg "_law_left" = some (.ref (ad K "_law_left"))
  f_law_is_wide : FnP K "_law_is_wide" s_law_is_wide (ad K "_law_is_wide") (fd 30)
  g_law_is_wide : mg "_law_is_wide" = some (.ref (ad K "_law_is_wide"))
  f_law_with : FnP K "_law_with" s_law_with (ad K "_law_with") (fd 31)
  g_law_with : mg "_law_with" = some (.ref (ad K "_law_with"))
  f_law_without : FnP K "_law_without" s_law_without (ad K "_law_without") (fd 32)
  g_law_without : mg "_law_without" = some (.ref (ad K "_law_without"))
  f_law_shuffled : FnP K "_law_shuffled" s_law_shuffled (ad K "_law_shuffled") (fd 33)
  g_law_shuffled : mg "_law_shuffled" = some (.ref (ad K "_law_shuffled"))
  f_law_any : FnP K "_law_any" s_law_any (ad K "_law_any") (fd 34)
  g_law_any : mg "_law_any" = some (.ref (ad K "_law_any"))
  f_law_wide : FnP K "_law_wide" s_law_wide (ad K "_law_wide") (fd 35)
  g_law_wide : mg "_law_wide" = some (.ref (ad K "_law_wide"))
  f_law_needless : FnP K "_law_needless" s_law_needless (ad K "_law_needless") (fd 36)
  g_law_needless : mg "_law_needless" = some (.ref (ad K "_law_needless"))
  f_law_right : FnP K "_law_right" s_law_right (ad K "_law_right") (fd 37)
  g_law_right : mg "_law_right" = some (.ref (ad K "_law_right"))
  f_law : FnP K "law" s_law (ad K "law") (fd 38)
  g_law : mg "law" = some (.ref (ad K "law"))
  n_abs : mg "abs" = none
  n_all : mg "all" = none
  n_bool : mg "bool" = none
  n_dict : mg "dict" = none
  n_divmod : mg "divmod" = none
  n_int : mg "int" = none
  n_isinstance : mg "isinstance" = none
  n_len : mg "len" = none
  n_list : mg "list" = none
  n_max : mg "max" = none
  n_range : mg "range" = none
  n_repr : mg "repr" = none
  n_sorted : mg "sorted" = none
  n_str : mg "str" = none
  n_sum : mg "sum" = none
  n_tuple : mg "tuple" = none
  n_zip : mg "zip" = none
  c_LEAST_THINGS : ∃ t, mg "LEAST_THINGS" = some (.int 3 t)
  c_LOT : ∃ t, mg "LOT" = some (.str "lot" t)
  c_MOST_THINGS : ∃ t, mg "MOST_THINGS" = some (.int 45 t)
/-! what each def does -/
/-- is_integer: slots value -/
def b_is_integer : Sx :=
  (sRet (eAnd (eUn (gIsi "int") (eVar 0)) (eUn gNot (eUn (gIsi "bool") (eVar 0)))))
def m_is_integer : FT := runF 1 none b_is_integer
/-- is_row: slots value, many -/
def b_is_row : Sx :=
  (sRet (eAnd (eUn (gIsi "tuple") (eVar 0)) (eBin gEq (eCB cLen (aCons (eVar 0) aNil)) (eVar 1))))
def m_is_row : FT := runF 2 none b_is_row
/-- is_rising: slots items, near, far -/
def b_is_rising : Sx :=
  (sRet (eCB cAll (aCons (eComp (itZip (aCons (eVar 0) (aCons (eSl (eVar 0) (oSome (eK (.int 1))) oNone) aNil))) (.many [1, 2]) tYesP (eBin gLt (eVar 1) (eVar 2))) aNil)))
def m_is_rising : FT := runF 3 none b_is_rising
/-- pairs_of_triple: slots triple -/
def b_pairs_of_triple : Sx :=
  (sRet (eLst (aCons (eTup (aCons (eBin gIx (eVar 0) (eK (.int 0))) (aCons (eBin gIx (eVar 0) (eK (.int 1))) aNil))) (aCons (eTup (aCons (eBin gIx (eVar 0) (eK (.int 0))) (aCons (eBin gIx (eVar 0) (eK (.int 2))) aNil))) (aCons (eTup (aCons (eBin gIx (eVar 0) (eK (.int 1))) (aCons (eBin gIx (eVar 0) (eK (.int 2))) aNil))) aNil)))))
def m_pairs_of_triple : FT := runF 1 none b_pairs_of_triple
/-- all_pairs: slots many, found, one, other -/
def b_all_pairs : Sx :=
  (sSeq (sAsg (eLst aNil) (gS true 1))
  (sSeq (sFor (itRng1 (aCons (eVar 0) aNil)) (gS false 2) (sExpr (eMeth 1 mExt (aCons (eComp (itRng2 (aCons (eBin gAdd (eVar 2) (eK (.int 1))) (aCons (eVar 0) aNil))) (.one 3) tYesP (eTup (aCons (eVar 2) (aCons (eVar 3) aNil)))) aNil))))
  (sRet (eVar 1))))
def m_all_pairs : FT := runF 4 none b_all_pairs
/-- without_triple: slots lot, triple, one -/
def b_without_triple : Sx :=
  (sRet (eBin gAdd (eSl (eVar 0) oNone (oSome (eK (.int 2)))) (eTup (aCons (eCB cTuple (aCons (eComp (itSeq (eBin gIx (eVar 0) (eK (.int 2)))) (.one 2) (tB (eBin gNe (eVar 2) (eVar 1))) (eVar 2)) aNil)) aNil))))
def m_without_triple : FT := runF 3 none b_without_triple
/-- _law_pot: slots script, k, cell -/
def b_law_pot : Sx :=
  (sSeq (sAsg (eBin gAdd (eBin gMulI (eK (.int 997)) (eVar 1)) (eK (.int 613))) (gS false 2))
  (sSeq (sIf (tB (eBin gLt (eVar 1) (eCB cLen (aCons (eVar 0) aNil)))) (sAsg (eCB cAbs (aCons (eBin gIx (eVar 0) (eVar 1)) aNil)) (gS false 2)) sNext)
  (sRet (eLst (aCons (eCB cMax (aCons (eK (.int 0)) (aCons (eBin gSub (eVar 2) (eBin gPow (eK (.int 10)) (eK (.int 18)))) aNil))) (aCons (eBin gAdd (eBin gMod (eCB cInt (aCons (eBin gAdd (eBin gAdd (eBin gMulI (eBin gMod (eCB cInt (aCons (eVar 2) aNil)) (eK (.int 2147483549))) (eK (.int 41161))) (eBin gMulI (eK (.int 613)) (eVar 1))) (eK (.int 59))) aNil)) (eK (.int 2147483563))) (eK (.int 1))) aNil))))))
def m_law_pot : FT := runF 3 none b_law_pot
/-- _law_draw: slots pot, many, digit -/
def b_law_draw : Sx :=
  (sSeq (sIf (tB (eBin (g2I fun i j => .bl (decide (j < i))) (eBin gIx (eVar 0) (eK (.int 0))) (eK (.int 0)))) (sSeq (sAsg (eCB cDivmod (aCons (eBin gIx (eVar 0) (eK (.int 0))) (aCons (eVar 1) aNil))) (gTupP 2 (gsCons (gItem 0 (eK (.int 0))) (gsCons (gS false 2) gsNil))))
  (sRet (eVar 2))) sNext)
  (sSeq (sAsg (eBin gMod (eCB cInt (aCons (eBin gAdd (eBin gMulI (eBin gIx (eVar 0) (eK (.int 1))) (eK (.int 48271))) (eK (.int 1049))) aNil)) (eK (.int 2147483587))) (gItem 0 (eK (.int 1))))
  (sRet (eBin gMod (eCB cInt (aCons (eBin gFdiv (eBin gMod (eCB cInt (aCons (eBin gMulI (eBin gIx (eVar 0) (eK (.int 1))) (eBin gIx (eVar 0) (eK (.int 1)))) aNil)) (eK (.int 2147483563))) (eK (.int 19))) aNil)) (eVar 1)))))
def m_law_draw : FT := runF 3 (some 0) b_law_draw
/-- _law_all_pairs: slots many, found, one, other -/
def b_law_all_pairs : Sx :=
  (sSeq (sAsg (eLst aNil) (gS true 1))
  (sSeq (sFor (itRng1 (aCons (eVar 0) aNil)) (gS false 2) (sExpr (eMeth 1 mExt (aCons (eComp (itRng2 (aCons (eBin gAdd (eVar 2) (eK (.int 1))) (aCons (eVar 0) aNil))) (.one 3) tYesP (eTup (aCons (eVar 2) (aCons (eVar 3) aNil)))) aNil))))
  (sRet (eVar 1))))
def m_law_all_pairs : FT := runF 4 none b_law_all_pairs
/-- _law_in: slots triple -/
def b_law_in : Sx :=
  (sRet (eLst (aCons (eTup (aCons (eBin gIx (eVar 0) (eK (.int 0))) (aCons (eBin gIx (eVar 0) (eK (.int 1))) aNil))) (aCons (eTup (aCons (eBin gIx (eVar 0) (eK (.int 0))) (aCons (eBin gIx (eVar 0) (eK (.int 2))) aNil))) (aCons (eTup (aCons (eBin gIx (eVar 0) (eK (.int 1))) (aCons (eBin gIx (eVar 0) (eK (.int 2))) aNil))) aNil)))))
def m_law_in : FT := runF 1 none b_law_in
/-- _law_with: slots lot, triple -/
def b_law_with : Sx :=
  (sRet (eBin gAdd (eSl (eVar 0) oNone (oSome (eK (.int 2)))) (eTup (aCons (eCB cTuple (aCons (eCB cSortA (aCons (eBin gAdd (eBin gIx (eVar 0) (eK (.int 2))) (eTup (aCons (eVar 1) aNil))) aNil)) aNil)) aNil))))
def m_law_with : FT := runF 2 none b_law_with
/-- _law_without: slots lot, triple, one -/
def b_law_without : Sx :=
  (sRet (eBin gAdd (eSl (eVar 0) oNone (oSome (eK (.int 2)))) (eTup (aCons (eCB cTuple (aCons (eComp (itSeq (eBin gIx (eVar 0) (eK (.int 2)))) (.one 2) (tB (eBin gNe (eVar 2) (eVar 1))) (eVar 2)) aNil)) aNil))))
def m_law_without : FT := runF 3 none b_law_without
/-- is_count: slots value -/
def b_is_count : Sx :=
  (sRet (eAnd (eCall 1 none m_is_integer (argsN 1) (aCons (eVar 0) aNil)) (eBin (g2I fun i j => .bl (decide (j ≤ i))) (eVar 0) (eK (.int 0)))))
def m_is_count : FT := runF 1 none b_is_count
/-- is_number: slots value -/
def b_is_number : Sx :=
  (sRet (eAnd (eCall 1 none m_is_integer (argsN 1) (aCons (eVar 0) aNil)) (eChain (g2I fun i j => .bl (decide (i ≤ j))) (g2I fun i j => .bl (decide (i ≤ j))) (eK (.int 3)) (eVar 0) (eK (.int 45)))))
def m_is_number : FT := runF 1 none b_is_number
/-- counts_of: slots lot, found, triple, pair -/
def b_counts_of : Sx :=
  (sSeq (sAsg (eDComp (itSeq (eCall 1 none m_all_pairs (argsN 1) (aCons (eBin gIx (eVar 0) (eK (.int 1))) aNil))) (.one 3) tYesP (eVar 3) (eK (.int 0))) (gS true 1))
  (sSeq (sFor (itSeq (eBin gIx (eVar 0) (eK (.int 2)))) (gS false 2) (sFor (itSeq (eCall 1 none m_pairs_of_triple (argsN 1) (aCons (eVar 2) aNil))) (gS false 3) (sAugD (fun i j => i + j) 1 (eVar 3) (eK (.int 1)))))
  (sRet (eVar 1))))
def m_counts_of : FT := runF 4 none b_counts_of
/-- _law_pick: slots pot, some -/
def b_law_pick : Sx :=
  (sRet (eBin gIx (eVar 1) (eCall 2 (some 0) m_law_draw (argsN 2) (aCons (eVar 0) (aCons (eCB cLen (aCons (eVar 1) aNil)) aNil)))))
def m_law_pick : FT := runF 2 (some 0) b_law_pick
/-- _law_all_triples: slots many, found, one, other, third -/
def b_law_all_triples : Sx :=
  (sSeq (sAsg (eLst aNil) (gS true 1))
  (sSeq (sFor (itSeq (eCall 1 none m_law_all_pairs (argsN 1) (aCons (eVar 0) aNil))) (gTupP 2 (gsCons (gS false 2) (gsCons (gS false 3) gsNil))) (sExpr (eMeth 1 mExt (aCons (eComp (itRng2 (aCons (eBin gAdd (eVar 3) (eK (.int 1))) (aCons (eVar 0) aNil))) (.one 4) tYesP (eTup (aCons (eVar 2) (aCons (eVar 3) (aCons (eVar 4) aNil))))) aNil))))
  (sRet (eVar 1))))
def m_law_all_triples : FT := runF 5 none b_law_all_triples
/-- _law_counts: slots lot, found, triple, pair -/
def b_law_counts : Sx :=
  (sSeq (sAsg (eCB cDictT (aCons (eComp (itSeq (eCall 1 none m_law_all_pairs (argsN 1) (aCons (eBin gIx (eVar 0) (eK (.int 1))) aNil))) (.one 3) tYesP (eTup (aCons (eVar 3) (aCons (eK (.int 0)) aNil)))) aNil)) (gS true 1))
  (sSeq (sFor (itSeq (eBin gIx (eVar 0) (eK (.int 2)))) (gS false 2) (sFor (itSeq (eCall 1 none m_law_in (argsN 1) (aCons (eVar 2) aNil))) (gS false 3) (sAsg (eBin gAdd (eBin gIxA (eVar 1) (eVar 3)) (eK (.int 1))) (gItemA 1 (eVar 3)))))
  (sRet (eVar 1))))
def m_law_counts : FT := runF 4 none b_law_counts
/-- _law_shuffled: slots pot, some, left, found -/
def b_law_shuffled : Sx :=
  (sSeq (sPar2 true 2 true 3 (eCB cList (aCons (eVar 1) aNil)) (eLst aNil))
  (sSeq (sWhile 4096 (tB (eBin gNe (eVar 2) (eLst aNil))) (sExpr (eMeth 3 mApp (aCons (eMeth 2 mPopAt (aCons (eCall 2 (some 0) m_law_draw (argsN 2) (aCons (eVar 0) (aCons (eCB cLen (aCons (eVar 2) aNil)) aNil))) aNil)) aNil))))
  (sRet (eVar 3))))
def m_law_shuffled : FT := runF 4 (some 0) b_law_shuffled
/-- is_below: slots value, many -/
def b_is_below : Sx :=
  (sRet (eAnd (eCall 1 none m_is_count (argsN 1) (aCons (eVar 0) aNil)) (eBin gLt (eVar 0) (eVar 1))))
def m_is_below : FT := runF 2 none b_is_below
/-- left_of: slots lot, counts, pair -/
def b_left_of : Sx :=
  (sSeq (sAsg (eCall 1 none m_counts_of (argsN 1) (aCons (eVar 0) aNil)) (gS false 1))
  (sRet (eComp (itSeq (eCB cSortA (aCons (eVar 1) aNil))) (.one 2) (tB (eBin gEq (eBin gIxA (eVar 1) (eVar 2)) (eK (.int 0)))) (eVar 2))))
def m_left_of : FT := runF 3 none b_left_of
/-- over_of: slots lot, counts, pair -/
def b_over_of : Sx :=
  (sSeq (sAsg (eCall 1 none m_counts_of (argsN 1) (aCons (eVar 0) aNil)) (gS false 1))
  (sRet (eComp (itSeq (eCB cSortA (aCons (eVar 1) aNil))) (.one 2) (tB (eBin (g2I fun i j => .bl (decide (j < i))) (eBin gIxA (eVar 1) (eVar 2)) (eK (.int 1)))) (eTup (aCons (eVar 2) (aCons (eBin gSub (eBin gIxA (eVar 1) (eVar 2)) (eK (.int 1))) aNil))))))
def m_over_of : FT := runF 3 none b_over_of
/-- needless_of: slots lot, counts, triple, pair -/
def b_needless_of : Sx :=
  (sSeq (sAsg (eCall 1 none m_counts_of (argsN 1) (aCons (eVar 0) aNil)) (gS false 1))
  (sRet (eComp (itSeq (eBin gIx (eVar 0) (eK (.int 2)))) (.one 2) (tB (eCB cAll (aCons (eComp (itSeq (eCall 1 none m_pairs_of_triple (argsN 1) (aCons (eVar 2) aNil))) (.one 3) tYesP (eBin (g2I fun i j => .bl (decide (j < i))) (eBin gIxA (eVar 1) (eVar 3)) (eK (.int 1)))) aNil))) (eVar 2))))
def m_needless_of : FT := runF 4 none b_needless_of
/-- _law_left: slots lot, counts, pair -/
def b_law_left : Sx :=
  (sSeq (sAsg (eCall 1 none m_law_counts (argsN 1) (aCons (eVar 0) aNil)) (gS false 1))
  (sRet (eComp (itSeq (eCall 1 none m_law_all_pairs (argsN 1) (aCons (eBin gIx (eVar 0) (eK (.int 1))) aNil))) (.one 2) (tB (eBin gEq (eBin gIxA (eVar 1) (eVar 2)) (eK (.int 0)))) (eVar 2))))
def m_law_left : FT := runF 3 none b_law_left
/-- _law_any: slots pot, many, most -/
def b_law_any : Sx :=
  (sRet (eTup (aCons (eK (.str "lot")) (aCons (eVar 1) (aCons (eCB cTuple (aCons (eCB cSortA (aCons (eSl (eCall 2 (some 0) m_law_shuffled (argsN 2) (aCons (eVar 0) (aCons (eCall 1 none m_law_all_triples (argsN 1) (aCons (eVar 1) aNil)) aNil))) oNone (oSome (eCall 2 (some 0) m_law_draw (argsN 2) (aCons (eVar 0) (aCons (eBin gAdd (eVar 2) (eK (.int 1))) aNil))))) aNil)) aNil)) aNil)))))
def m_law_any : FT := runF 3 (some 0) b_law_any
/-- is_triple_in: slots many, value, thing -/
def b_is_triple_in : Sx :=
  (sRet (eAnd (eCall 2 none m_is_row (argsN 2) (aCons (eVar 1) (aCons (eK (.int 3)) aNil))) (eAnd (eCB cAll (aCons (eComp (itSeq (eVar 1)) (.one 2) tYesP (eCall 2 none m_is_below (argsN 2) (aCons (eVar 2) (aCons (eVar 0) aNil)))) aNil)) (eCall 1 none m_is_rising (argsN 1) (aCons (eVar 1) aNil)))))
def m_is_triple_in : FT := runF 3 none b_is_triple_in
/-- is_wide_of: slots lot -/
def b_is_wide_of : Sx :=
  (sRet (eBin gEq (eCall 1 none m_left_of (argsN 1) (aCons (eVar 0) aNil)) (eLst aNil)))
def m_is_wide_of : FT := runF 1 none b_is_wide_of
/-- slimmed_of: slots lot, triple -/
def b_slimmed_of : Sx :=
  (sSeq (sFor (itSeq (eUn gRev (eBin gIx (eVar 0) (eK (.int 2))))) (gS false 1) (sIf (tB (eBin gIn (eVar 1) (eCall 1 none m_needless_of (argsN 1) (aCons (eVar 0) aNil)))) (sAsg (eCall 2 none m_without_triple (argsN 2) (aCons (eVar 0) (aCons (eVar 1) aNil))) (gS false 0)) sNext))
  (sRet (eVar 0)))
def m_slimmed_of : FT := runF 2 none b_slimmed_of
/-- _law_is_wide: slots lot -/
def b_law_is_wide : Sx :=
  (sRet (eBin gEq (eCall 1 none m_law_left (argsN 1) (aCons (eVar 0) aNil)) (eLst aNil)))
def m_law_is_wide : FT := runF 1 none b_law_is_wide
/-- is_lot_of: slots value, triple -/
def b_is_lot_of : Sx :=
  (sSeq (sIf (tOrP (tNotP (tB (eCall 2 none m_is_row (argsN 2) (aCons (eVar 0) (aCons (eK (.int 3)) aNil))))) (tOrP (tNotP (tB (eUn (gIsi "str") (eBin gIx (eVar 0) (eK (.int 0)))))) (tOrP (tB (eBin gNe (eBin gIx (eVar 0) (eK (.int 0))) (eK (.str "lot")))) (tNotP (tB (eCall 1 none m_is_number (argsN 1) (aCons (eBin gIx (eVar 0) (eK (.int 1))) aNil))))))) (sRet (eK (.bl false))) sNext)
  (sSeq (sIf (tOrP (tNotP (tB (eUn (gIsi "tuple") (eBin gIx (eVar 0) (eK (.int 2)))))) (tNotP (tB (eCB cAll (aCons (eComp (itSeq (eBin gIx (eVar 0) (eK (.int 2)))) (.one 1) tYesP (eCall 2 none m_is_triple_in (argsN 2) (aCons (eBin gIx (eVar 0) (eK (.int 1))) (aCons (eVar 1) aNil)))) aNil))))) (sRet (eK (.bl false))) sNext)
  (sRet (eCall 1 none m_is_rising (argsN 1) (aCons (eBin gIx (eVar 0) (eK (.int 2))) aNil)))))
def m_is_lot_of : FT := runF 2 none b_is_lot_of
/-- _law_wide: slots pot, many, lot, pair, third, thing -/
def b_law_wide : Sx :=
  (sSeq (sAsg (eCall 3 (some 0) m_law_any (argsN 3) (aCons (eVar 0) (aCons (eVar 1) (aCons (eK (.int 4)) aNil)))) (gS false 2))
  (sSeq (sWhile 4096 (tNotP (tB (eCall 1 none m_law_is_wide (argsN 1) (aCons (eVar 2) aNil)))) (sSeq (sAsg (eBin gIx (eCall 1 none m_law_left (argsN 1) (aCons (eVar 2) aNil)) (eK (.int 0))) (gS false 3))
  (sSeq (sAsg (eCall 2 (some 0) m_law_pick (argsN 2) (aCons (eVar 0) (aCons (eComp (itRng1 (aCons (eVar 1) aNil)) (.one 5) (tB (eBin gNotIn (eVar 5) (eVar 3))) (eVar 5)) aNil))) (gS false 4))
  (sAsg (eCall 2 none m_law_with (argsN 2) (aCons (eVar 2) (aCons (eCB cTuple (aCons (eCB cSortA (aCons (eBin gAdd (eVar 3) (eTup (aCons (eVar 4) aNil))) aNil)) aNil)) aNil))) (gS false 2)))))
  (sRet (eVar 2))))
def m_law_wide : FT := runF 6 (some 0) b_law_wide
/-- _law_needless: slots lot, triple -/
def b_law_needless : Sx :=
  (sRet (eComp (itSeq (eBin gIx (eVar 0) (eK (.int 2)))) (.one 1) (tB (eCall 1 none m_law_is_wide (argsN 1) (aCons (eCall 2 none m_law_without (argsN 2) (aCons (eVar 0) (aCons (eVar 1) aNil))) aNil))) (eVar 1)))
def m_law_needless : FT := runF 2 none b_law_needless
/-- want_lot: slots value -/
def b_want_lot : Sx :=
  (sSeq (sIf (tNotP (tB (eCall 1 none m_is_lot_of (argsN 1) (aCons (eVar 0) aNil)))) sBad sNext)
  (sRet (eVar 0)))
def m_want_lot : FT := runF 1 none b_want_lot
/-- want_wide: slots lot -/
def b_want_wide : Sx :=
  (sSeq (sIf (tNotP (tB (eCall 1 none m_is_wide_of (argsN 1) (aCons (eCall 1 none m_want_lot (argsN 1) (aCons (eVar 0) aNil)) aNil)))) sBad sNext)
  (sRet (eVar 0)))
def m_want_wide : FT := runF 1 none b_want_wide
/-- over: slots lot -/
def b_over : Sx :=
  (sRet (eCall 1 none m_over_of (argsN 1) (aCons (eCall 1 none m_want_lot (argsN 1) (aCons (eVar 0) aNil)) aNil)))
def m_over : FT := runF 1 none b_over
/-- needless: slots lot -/
def b_needless : Sx :=
  (sRet (eCall 1 none m_needless_of (argsN 1) (aCons (eCall 1 none m_want_wide (argsN 1) (aCons (eVar 0) aNil)) aNil)))
def m_needless : FT := runF 1 none b_needless
/-- slimmed: slots lot -/
def b_slimmed : Sx :=
  (sRet (eCall 1 none m_slimmed_of (argsN 1) (aCons (eCall 1 none m_want_wide (argsN 1) (aCons (eVar 0) aNil)) aNil)))
def m_slimmed : FT := runF 1 none b_slimmed
/-- _law_right: slots pot, one, due, late, triple, lot, wide, counts, many, pair, number -/
def b_law_right : Sx :=
  (sSeq (sPar2 false 5 false 6 (eCall 3 (some 0) m_law_any (argsN 3) (aCons (eVar 0) (aCons (eBin gAdd (eK (.int 3)) (eCall 2 (some 0) m_law_draw (argsN 2) (aCons (eVar 0) (aCons (eK (.int 5)) aNil)))) (aCons (eK (.int 9)) aNil)))) (eCall 2 (some 0) m_law_wide (argsN 2) (aCons (eVar 0) (aCons (eBin gAdd (eK (.int 3)) (eCall 2 (some 0) m_law_draw (argsN 2) (aCons (eVar 0) (aCons (eK (.int 5)) aNil)))) aNil))))
  (sSeq (sFor (itSeq (eTup (aCons (eVar 5) (aCons (eVar 6) aNil)))) (gS false 1) (sSeq (sAsg (eCall 1 none m_law_counts (argsN 1) (aCons (eVar 1) aNil)) (gS false 7))
  (sSeq (sAsg (eComp (itSeq (eCall 1 none m_law_all_pairs (argsN 1) (aCons (eBin gIx (eVar 1) (eK (.int 1))) aNil))) (.one 9) (tB (eBin (g2I fun i j => .bl (decide (j < i))) (eBin gIxA (eVar 7) (eVar 9)) (eK (.int 1)))) (eTup (aCons (eVar 9) (aCons (eBin gSub (eBin gIxA (eVar 7) (eVar 9)) (eK (.int 1))) aNil)))) (gS false 2))
  (sIf (tB (eBin gNe (eCB cRepr (aCons (eLst (aCons (eCall 1 none m_over (argsN 1) (aCons (eVar 1) aNil)) (aCons (eCallK 0 1 none m_over (([0] : List Nat).map .arg) aNil (aCons (eVar 1) aNil)) aNil))) aNil)) (eCB cRepr (aCons (eLst (aCons (eVar 2) (aCons (eVar 2) aNil))) aNil)))) (sRet (eK (.bl false))) sNext))))
  (sSeq (sAsg (eTup (aCons (eBin gIx (eVar 6) (eK (.int 1))) (aCons (eCall 1 none m_law_counts (argsN 1) (aCons (eVar 6) aNil)) aNil))) (gTupP 2 (gsCons (gS false 8) (gsCons (gS false 7) gsNil))))
  (sSeq (sIf (tB (eBin gNe (eCB cSum (aCons (eComp (itSeq (eCall 1 none m_over (argsN 1) (aCons (eVar 6) aNil))) (.many [9, 10]) tYesP (eVar 10)) aNil)) (eBin gSub (eBin gMulI (eK (.int 3)) (eCB cLen (aCons (eBin gIx (eVar 6) (eK (.int 2))) aNil))) (eBin gFdiv (eBin gMulI (eVar 8) (eBin gSub (eVar 8) (eK (.int 1)))) (eK (.int 2)))))) (sRet (eK (.bl false))) sNext)
  (sSeq (sAsg (eCall 1 none m_law_needless (argsN 1) (aCons (eVar 6) aNil)) (gS false 2))
  (sSeq (sIf (tB (eBin gNe (eCB cRepr (aCons (eLst (aCons (eCall 1 none m_needless (argsN 1) (aCons (eVar 6) aNil)) (aCons (eCallK 0 1 none m_needless (([0] : List Nat).map .arg) aNil (aCons (eVar 6) aNil)) aNil))) aNil)) (eCB cRepr (aCons (eLst (aCons (eVar 2) (aCons (eVar 2) aNil))) aNil)))) (sRet (eK (.bl false))) sNext)
  (sSeq (sAsg (eVar 6) (gS false 3))
  (sSeq (sFor (itSeq (eUn gRev (eBin gIx (eVar 6) (eK (.int 2))))) (gS false 4) (sAsg (eIf (tB (eBin gIn (eVar 4) (eCall 1 none m_law_needless (argsN 1) (aCons (eVar 3) aNil)))) (eCall 2 none m_law_without (argsN 2) (aCons (eVar 3) (aCons (eVar 4) aNil))) (eVar 3)) (gS false 3)))
  (sSeq (sIf (tB (eBin gNe (eCB cRepr (aCons (eLst (aCons (eCall 1 none m_slimmed (argsN 1) (aCons (eVar 6) aNil)) (aCons (eCallK 0 1 none m_slimmed (([0] : List Nat).map .arg) aNil (aCons (eVar 6) aNil)) aNil))) aNil)) (eCB cRepr (aCons (eLst (aCons (eVar 3) (aCons (eVar 3) aNil))) aNil)))) (sRet (eK (.bl false))) sNext)
  (sRet (eAnd (eCall 1 none m_law_is_wide (argsN 1) (aCons (eCall 1 none m_slimmed (argsN 1) (aCons (eVar 6) aNil)) aNil)) (eAnd (eBin gEq (eCall 1 none m_needless (argsN 1) (aCons (eCall 1 none m_slimmed (argsN 1) (aCons (eVar 6) aNil)) aNil)) (eLst aNil)) (eBin gEq (eCall 1 none m_slimmed (argsN 1) (aCons (eVar 3) aNil)) (eVar 3))))))))))))))
def m_law_right : FT := runF 11 (some 0) b_law_right
/-- law: slots script, k, pot, turn -/
def b_law : Sx :=
  (sSeq (sFor (itSeq (eTup (aCons (eK (.int 0)) (aCons (eK (.int 1)) aNil)))) (gS false 1) (sSeq (sAsg (eCall 2 none m_law_pot (argsN 2) (aCons (eVar 0) (aCons (eVar 1) aNil))) (gS true 2))
  (sFor (itRng1 (aCons (eK (.int 2)) aNil)) (gS false 3) (sIf (tNotP (tB (eCall 1 (some 0) m_law_right (argsN 1) (aCons (eVar 2) aNil)))) (sRet (eK (.bl false))) sNext))))
  (sRet (eK (.bl true))))
def m_law : FT := runF 4 none b_law
/-! each def does so -/
section
variable {P : Program} {w : World} {K : PySem.W.Frag} {mg : Str → Option Value} {base : Heap} {fd : Nat → FuncData}
theorem sc_is_integer : FnScope ["value"] ["value"] (defScope s_is_integer) := ⟨rfl, rfl, rfl, by decide +kernel, rfl, by decide +kernel, by decide +kernel⟩
theorem ok_is_integer (fc : Fc K mg fd) (G : Gx) (hGK : G.K = K) : FnG P w K mg base 1 (ad K "is_integer") (fd 0) ["value"] (spOf G 1 none m_is_integer) :=
  def_ok (N := ["value"]) (ps := ["value"]) (io := none) (t := b_is_integer) (k := 0) fc.f_is_integer sc_is_integer (fun _ z => nomatch z) fun cdv A outer s H E Fr hgd hr hG hiom => by
    have hK : Fr.G.K = K := by rw [hG]; exact hGK
    have nd := sc_is_integer.nd
    exact (rs_one (rs_ret (re_and (re_isi hK rfl fc.n_isinstance rfl fc.n_int bb_int (re_var 0)) (re_one (re_not (re_isi hK rfl fc.n_isinstance rfl fc.n_bool bb_bool (re_var 0)))))))
theorem sc_is_row : FnScope ["value", "many"] ["value", "many"] (defScope s_is_row) := ⟨rfl, rfl, rfl, by decide +kernel, rfl, by decide +kernel, by decide +kernel⟩
theorem ok_is_row (fc : Fc K mg fd) (G : Gx) (hGK : G.K = K) : FnG P w K mg base 1 (ad K "is_row") (fd 3) ["value", "many"] (spOf G 2 none m_is_row) :=
  def_ok (N := ["value", "many"]) (ps := ["value", "many"]) (io := none) (t := b_is_row) (k := 0) fc.f_is_row sc_is_row (fun _ z => nomatch z) fun cdv A outer s H E Fr hgd hr hG hiom => by
    have hK : Fr.G.K = K := by rw [hG]; exact hGK
    have nd := sc_is_row.nd
    exact (rs_one (rs_ret (re_and (re_isi hK rfl fc.n_isinstance rfl fc.n_tuple bb_tuple (re_var 0)) (re_one (re_cmp (opr_eq hK (r64 hr)) o_eq (re_callB (cr_len hK) c_len rfl fc.n_len bb_len (ra_cons (re_var 0) ra_nil)) (re_var 1))))))
theorem sc_is_rising : FnScope ["items", "near", "far"] ["items"] (defScope s_is_rising) := ⟨rfl, rfl, rfl, by decide +kernel, rfl, by decide +kernel, by decide +kernel⟩
theorem ok_is_rising (fc : Fc K mg fd) (G : Gx) (hGK : G.K = K) : FnG P w K mg base 1 (ad K "is_rising") (fd 4) ["items"] (spOf G 1 none m_is_rising) :=
  def_ok (N := ["items", "near", "far"]) (ps := ["items"]) (io := none) (t := b_is_rising) (k := 0) fc.f_is_rising sc_is_rising (fun _ z => nomatch z) fun cdv A outer s H E Fr hgd hr hG hiom => by
    have hK : Fr.G.K = K := by rw [hG]; exact hGK
    have nd := sc_is_rising.nd
    exact (rs_one (rs_ret (re_callB (crr_all hK rfl) c_bools rfl fc.n_all bb_all (ra_cons (re_comp (ct := (.many [1, 2])) hK rfl nd  (ri_zip hK (ra_cons (re_var 0) (ra_cons (re_slice hK (re_var 0) (ro_some re_int) ro_none) ra_nil)) rfl fc.n_zip) (blkOk_by (own := [("near", 1), ("far", 2)]) (by rfl)) rfl (nios hiom (by decide)) (fun _ _ _ _ _ => (ct_many rfl (cts_cons nd (cts_cons nd cts_nil)))) (fun _ _ _ _ _ => pts_y) (fun _ _ _ _ _ => (re_cmp (opr_lt hK (r0 hr)) o_ltA (re_var 1) (re_var 2)))) ra_nil))))
theorem sc_pairs_of_triple : FnScope ["triple"] ["triple"] (defScope s_pairs_of_triple) := ⟨rfl, rfl, rfl, by decide +kernel, rfl, by decide +kernel, by decide +kernel⟩
theorem ok_pairs_of_triple (fc : Fc K mg fd) (G : Gx) (hGK : G.K = K) : FnG P w K mg base 1 (ad K "pairs_of_triple") (fd 8) ["triple"] (spOf G 1 none m_pairs_of_triple) :=
  def_ok (N := ["triple"]) (ps := ["triple"]) (io := none) (t := b_pairs_of_triple) (k := 0) fc.f_pairs_of_triple sc_pairs_of_triple (fun _ z => nomatch z) fun cdv A outer s H E Fr hgd hr hG hiom => by
    have hK : Fr.G.K = K := by rw [hG]; exact hGK
    have nd := sc_pairs_of_triple.nd
    exact (rs_one (rs_ret (re_lst (ra_cons (re_tup (ra_cons (re_ix (ixr_all hK) o_ix (re_var 0) re_int) (ra_cons (re_ix (ixr_all hK) o_ix (re_var 0) re_int) ra_nil))) (ra_cons (re_tup (ra_cons (re_ix (ixr_all hK) o_ix (re_var 0) re_int) (ra_cons (re_ix (ixr_all hK) o_ix (re_var 0) re_int) ra_nil))) (ra_cons (re_tup (ra_cons (re_ix (ixr_all hK) o_ix (re_var 0) re_int) (ra_cons (re_ix (ixr_all hK) o_ix (re_var 0) re_int) ra_nil))) ra_nil))))))
theorem sc_all_pairs : FnScope ["many", "found", "one", "other"] ["many"] (defScope s_all_pairs) := ⟨rfl, rfl, rfl, by decide +kernel, rfl, by decide +kernel, by decide +kernel⟩
theorem ok_all_pairs (fc : Fc K mg fd) (G : Gx) (hGK : G.K = K) : FnG P w K mg base 1 (ad K "all_pairs") (fd 9) ["many"] (spOf G 1 none m_all_pairs) :=
  def_ok (N := ["many", "found", "one", "other"]) (ps := ["many"]) (io := none) (t := b_all_pairs) (k := 0) fc.f_all_pairs sc_all_pairs (fun _ z => nomatch z) fun cdv A outer s H E Fr hgd hr hG hiom => by
    have hK : Fr.G.K = K := by rw [hG]; exact hGK
    have nd := sc_all_pairs.nd
    exact (rs_cons (rs_asg (q_s true 1) (re_lst ra_nil) (rg_s true nd (nio hiom (by decide))))
    (rs_cons (rs_for (passes_of rfl) rfl (ri_rng1 (ra_cons (re_var 0) ra_nil) rfl fc.n_range) (rg_s false nd (nio hiom (by decide))) (rs_one (rs_expr (re_meth 1 PySem.F.slot_list_extend PySem.F.type_list_extend mt_extend m_ext (ra_cons (re_comp (ct := (.one 3)) hK rfl nd  (ri_rng2 (ra_cons (re_bin (opr_add hK) o_add (re_var 2) re_int) (ra_cons (re_var 0) ra_nil)) rfl fc.n_range) (blkOk_by (own := [("other", 3)]) (by rfl)) rfl (nios hiom (by decide)) (fun _ _ _ _ _ => (ct_one nd)) (fun _ _ _ _ _ => pts_y) (fun _ _ _ _ _ => (re_tup (ra_cons (re_var 2) (ra_cons (re_var 3) ra_nil))))) ra_nil)))))
    (rs_one (rs_ret (re_var 1)))))
theorem sc_without_triple : FnScope ["lot", "triple", "one"] ["lot", "triple"] (defScope s_without_triple) := ⟨rfl, rfl, rfl, by decide +kernel, rfl, by decide +kernel, by decide +kernel⟩
theorem ok_without_triple (fc : Fc K mg fd) (G : Gx) (hGK : G.K = K) : FnG P w K mg base 1 (ad K "without_triple") (fd 10) ["lot", "triple"] (spOf G 2 none m_without_triple) :=
  def_ok (N := ["lot", "triple", "one"]) (ps := ["lot", "triple"]) (io := none) (t := b_without_triple) (k := 0) fc.f_without_triple sc_without_triple (fun _ z => nomatch z) fun cdv A outer s H E Fr hgd hr hG hiom => by
    have hK : Fr.G.K = K := by rw [hG]; exact hGK
    have nd := sc_without_triple.nd
    exact (rs_one (rs_ret (re_bin (opr_add hK) o_add (re_slice hK (re_var 0) ro_none (ro_some re_int)) (re_tup (ra_cons (re_callTy (cr_tuple hK) c_tuple rfl fc.n_tuple bb_tuple (ra_cons (re_comp (ct := (.one 2)) hK rfl nd  (ri_seq hK (re_ix (ixr_all hK) o_ix (re_var 0) re_int)) (blkOk_by (own := [("one", 2)]) (by rfl)) rfl (nios hiom (by decide)) (fun _ _ _ _ _ => (ct_one nd)) (fun _ _ _ _ _ => (pts_one (rt_cmp (opr_ne hK (r64 hr)) o_ne (re_var 2) (re_var 1)))) (fun _ _ _ _ _ => (re_var 2))) ra_nil)) ra_nil)))))
theorem sc_law_pot : FnScope ["script", "k", "cell"] ["script", "k"] (defScope s_law_pot) := ⟨rfl, rfl, rfl, by decide +kernel, rfl, by decide +kernel, by decide +kernel⟩
theorem ok_law_pot (fc : Fc K mg fd) (G : Gx) (hGK : G.K = K) : FnG P w K mg base 1 (ad K "_law_pot") (fd 22) ["script", "k"] (spOf G 2 none m_law_pot) :=
  def_ok (N := ["script", "k", "cell"]) (ps := ["script", "k"]) (io := none) (t := b_law_pot) (k := 0) fc.f_law_pot sc_law_pot (fun _ z => nomatch z) fun cdv A outer s H E Fr hgd hr hG hiom => by
    have hK : Fr.G.K = K := by rw [hG]; exact hGK
    have nd := sc_law_pot.nd
    exact (rs_cons (rs_asg (q_s false 2) (re_bin (opr_add hK) o_add (re_bin op_mul o_mulI re_int (re_var 1)) re_int) (rg_s false nd (nio hiom (by decide))))
    (rs_cons (rs_if (rt_cmp (opr_lt hK (r0 hr)) o_ltA (re_var 1) (re_callB (cr_len hK) c_len rfl fc.n_len bb_len (ra_cons (re_var 0) ra_nil))) (rs_one (rs_asg (q_s false 2) (re_callB call_abs c_abs rfl fc.n_abs bb_abs (ra_cons (re_ix (ixr_all hK) o_ix (re_var 0) (re_var 1)) ra_nil)) (rg_s false nd (nio hiom (by decide))))) rs_nil)
    (rs_one (rs_ret (re_lst (ra_cons (re_callB (crr_max hK rfl) c_max rfl fc.n_max bb_max (ra_cons re_int (ra_cons (re_bin op_sub o_sub (re_var 2) (re_bin op_pow o_pow re_int re_int)) ra_nil))) (ra_cons (re_bin (opr_add hK) o_add (re_bin op_mod o_mod (re_callTy call_int1 c_int rfl fc.n_int bb_int (ra_cons (re_bin (opr_add hK) o_add (re_bin (opr_add hK) o_add (re_bin op_mul o_mulI (re_bin op_mod o_mod (re_callTy call_int1 c_int rfl fc.n_int bb_int (ra_cons (re_var 2) ra_nil)) re_int) re_int) (re_bin op_mul o_mulI re_int (re_var 1))) re_int) ra_nil)) re_int) re_int) ra_nil)))))))
theorem sc_law_draw : FnScope ["pot", "many", "digit"] ["pot", "many"] (defScope s_law_draw) := ⟨rfl, rfl, rfl, by decide +kernel, rfl, by decide +kernel, by decide +kernel⟩
theorem ok_law_draw (fc : Fc K mg fd) (G : Gx) (hGK : G.K = K) : FnG P w K mg base 1 (ad K "_law_draw") (fd 23) ["pot", "many"] (spOf G 2 (some 0) m_law_draw) :=
  def_ok (N := ["pot", "many", "digit"]) (ps := ["pot", "many"]) (io := (some 0)) (t := b_law_draw) (k := 0) fc.f_law_draw sc_law_draw (fun _ z => by cases z; decide) fun cdv A outer s H E Fr hgd hr hG hiom => by
    have hK : Fr.G.K = K := by rw [hG]; exact hGK
    have nd := sc_law_draw.nd
    exact (rs_cons (rs_if (rt_cmp op_gt o_gt (re_ix (ixr_all hK) o_ix (re_var 0) re_int) re_int) (rs_cons (rs_asg (q_tup (q_cons (q_item 0 (eK (.int 0))) (q_cons (q_s false 2) q_nil))) (re_callB call_divmod c_divmod rfl fc.n_divmod bb_divmod (ra_cons (re_ix (ixr_all hK) o_ix (re_var 0) re_int) (ra_cons (re_var 1) ra_nil))) (rg_tup rfl (rgs_cons (rg_item 0 re_int) (rgs_cons (rg_s false nd (nio hiom (by decide))) rgs_nil)) hK))
    (rs_one (rs_ret (re_var 2)))) rs_nil)
    (rs_cons (rs_asg (q_item 0 (eK (.int 1))) (re_bin op_mod o_mod (re_callTy call_int1 c_int rfl fc.n_int bb_int (ra_cons (re_bin (opr_add hK) o_add (re_bin op_mul o_mulI (re_ix (ixr_all hK) o_ix (re_var 0) re_int) re_int) re_int) ra_nil)) re_int) (rg_item 0 re_int))
    (rs_one (rs_ret (re_bin op_mod o_mod (re_callTy call_int1 c_int rfl fc.n_int bb_int (ra_cons (re_bin op_fdiv o_fdiv (re_bin op_mod o_mod (re_callTy call_int1 c_int rfl fc.n_int bb_int (ra_cons (re_bin op_mul o_mulI (re_ix (ixr_all hK) o_ix (re_var 0) re_int) (re_ix (ixr_all hK) o_ix (re_var 0) re_int)) ra_nil)) re_int) re_int) ra_nil)) (re_var 1))))))
theorem sc_law_all_pairs : FnScope ["many", "found", "one", "other"] ["many"] (defScope s_law_all_pairs) := ⟨rfl, rfl, rfl, by decide +kernel, rfl, by decide +kernel, by decide +kernel⟩
theorem ok_law_all_pairs (fc : Fc K mg fd) (G : Gx) (hGK : G.K = K) : FnG P w K mg base 1 (ad K "_law_all_pairs") (fd 25) ["many"] (spOf G 1 none m_law_all_pairs) :=
  def_ok (N := ["many", "found", "one", "other"]) (ps := ["many"]) (io := none) (t := b_law_all_pairs) (k := 0) fc.f_law_all_pairs sc_law_all_pairs (fun _ z => nomatch z) fun cdv A outer s H E Fr hgd hr hG hiom => by
    have hK : Fr.G.K = K := by rw [hG]; exact hGK
    have nd := sc_law_all_pairs.nd
    exact (rs_cons (rs_asg (q_s true 1) (re_lst ra_nil) (rg_s true nd (nio hiom (by decide))))
    (rs_cons (rs_for (passes_of rfl) rfl (ri_rng1 (ra_cons (re_var 0) ra_nil) rfl fc.n_range) (rg_s false nd (nio hiom (by decide))) (rs_one (rs_expr (re_meth 1 PySem.F.slot_list_extend PySem.F.type_list_extend mt_extend m_ext (ra_cons (re_comp (ct := (.one 3)) hK rfl nd  (ri_rng2 (ra_cons (re_bin (opr_add hK) o_add (re_var 2) re_int) (ra_cons (re_var 0) ra_nil)) rfl fc.n_range) (blkOk_by (own := [("other", 3)]) (by rfl)) rfl (nios hiom (by decide)) (fun _ _ _ _ _ => (ct_one nd)) (fun _ _ _ _ _ => pts_y) (fun _ _ _ _ _ => (re_tup (ra_cons (re_var 2) (ra_cons (re_var 3) ra_nil))))) ra_nil)))))
    (rs_one (rs_ret (re_var 1)))))
theorem sc_law_in : FnScope ["triple"] ["triple"] (defScope s_law_in) := ⟨rfl, rfl, rfl, by decide +kernel, rfl, by decide +kernel, by decide +kernel⟩
theorem ok_law_in (fc : Fc K mg fd) (G : Gx) (hGK : G.K = K) : FnG P w K mg base 1 (ad K "_law_in") (fd 27) ["triple"] (spOf G 1 none m_law_in) :=
  def_ok (N := ["triple"]) (ps := ["triple"]) (io := none) (t := b_law_in) (k := 0) fc.f_law_in sc_law_in (fun _ z => nomatch z) fun cdv A outer s H E Fr hgd hr hG hiom => by
    have hK : Fr.G.K = K := by rw [hG]; exact hGK
    have nd := sc_law_in.nd
    exact (rs_one (rs_ret (re_lst (ra_cons (re_tup (ra_cons (re_ix (ixr_all hK) o_ix (re_var 0) re_int) (ra_cons (re_ix (ixr_all hK) o_ix (re_var 0) re_int) ra_nil))) (ra_cons (re_tup (ra_cons (re_ix (ixr_all hK) o_ix (re_var 0) re_int) (ra_cons (re_ix (ixr_all hK) o_ix (re_var 0) re_int) ra_nil))) (ra_cons (re_tup (ra_cons (re_ix (ixr_all hK) o_ix (re_var 0) re_int) (ra_cons (re_ix (ixr_all hK) o_ix (re_var 0) re_int) ra_nil))) ra_nil))))))
theorem sc_law_with : FnScope ["lot", "triple"] ["lot", "triple"] (defScope s_law_with) := ⟨rfl, rfl, rfl, by decide +kernel, rfl, by decide +kernel, by decide +kernel⟩
theorem ok_law_with (fc : Fc K mg fd) (G : Gx) (hGK : G.K = K) : FnG P w K mg base 1 (ad K "_law_with") (fd 31) ["lot", "triple"] (spOf G 2 none m_law_with) :=
  def_ok (N := ["lot", "triple"]) (ps := ["lot", "triple"]) (io := none) (t := b_law_with) (k := 0) fc.f_law_with sc_law_with (fun _ z => nomatch z) fun cdv A outer s H E Fr hgd hr hG hiom => by
    have hK : Fr.G.K = K := by rw [hG]; exact hGK
    have nd := sc_law_with.nd
    exact (rs_one (rs_ret (re_bin (opr_add hK) o_add (re_slice hK (re_var 0) ro_none (ro_some re_int)) (re_tup (ra_cons (re_callTy (cr_tuple hK) c_tuple rfl fc.n_tuple bb_tuple (ra_cons (re_callB (crr_sortA hK rfl) c_sortA rfl fc.n_sorted bb_sorted (ra_cons (re_bin (opr_add hK) o_add (re_ix (ixr_all hK) o_ix (re_var 0) re_int) (re_tup (ra_cons (re_var 1) ra_nil))) ra_nil)) ra_nil)) ra_nil)))))
theorem sc_law_without : FnScope ["lot", "triple", "one"] ["lot", "triple"] (defScope s_law_without) := ⟨rfl, rfl, rfl, by decide +kernel, rfl, by decide +kernel, by decide +kernel⟩
theorem ok_law_without (fc : Fc K mg fd) (G : Gx) (hGK : G.K = K) : FnG P w K mg base 1 (ad K "_law_without") (fd 32) ["lot", "triple"] (spOf G 2 none m_law_without) :=
  def_ok (N := ["lot", "triple", "one"]) (ps := ["lot", "triple"]) (io := none) (t := b_law_without) (k := 0) fc.f_law_without sc_law_without (fun _ z => nomatch z) fun cdv A outer s H E Fr hgd hr hG hiom => by
    have hK : Fr.G.K = K := by rw [hG]; exact hGK
    have nd := sc_law_without.nd
    exact (rs_one (rs_ret (re_bin (opr_add hK) o_add (re_slice hK (re_var 0) ro_none (ro_some re_int)) (re_tup (ra_cons (re_callTy (cr_tuple hK) c_tuple rfl fc.n_tuple bb_tuple (ra_cons (re_comp (ct := (.one 2)) hK rfl nd  (ri_seq hK (re_ix (ixr_all hK) o_ix (re_var 0) re_int)) (blkOk_by (own := [("one", 2)]) (by rfl)) rfl (nios hiom (by decide)) (fun _ _ _ _ _ => (ct_one nd)) (fun _ _ _ _ _ => (pts_one (rt_cmp (opr_ne hK (r64 hr)) o_ne (re_var 2) (re_var 1)))) (fun _ _ _ _ _ => (re_var 2))) ra_nil)) ra_nil)))))
theorem sc_is_count : FnScope ["value"] ["value"] (defScope s_is_count) := ⟨rfl, rfl, rfl, by decide +kernel, rfl, by decide +kernel, by decide +kernel⟩
theorem ok_is_count (fc : Fc K mg fd) (G : Gx) (hGK : G.K = K) : FnG P w K mg base 2 (ad K "is_count") (fd 1) ["value"] (spOf G 1 none m_is_count) :=
  def_ok (N := ["value"]) (ps := ["value"]) (io := none) (t := b_is_count) (k := 1) fc.f_is_count sc_is_count (fun _ z => nomatch z) fun cdv A outer s H E Fr hgd hr hG hiom => by
    have hK : Fr.G.K = K := by rw [hG]; exact hGK
    have nd := sc_is_count.nd
    exact (rs_one (rs_ret (re_and (re_call ((ok_is_integer fc Fr.G hK).mono (by decide)) hgd hr rfl fc.g_is_integer fc.f_is_integer.kp (mb_pos fc.f_is_integer rfl fun _ _ _ _ _ _ us hl => match us, hl with | [_], _ => rfl) (takes_of rfl rfl rfl rfl) (fun _ z => nomatch z) ok_argsN (ra_cons (re_var 0) ra_nil)) (re_one (re_cmp op_ge o_ge (re_var 0) re_int)))))
theorem sc_is_number : FnScope ["value"] ["value"] (defScope s_is_number) := ⟨rfl, rfl, rfl, by decide +kernel, rfl, by decide +kernel, by decide +kernel⟩
theorem ok_is_number (fc : Fc K mg fd) (G : Gx) (hGK : G.K = K) : FnG P w K mg base 2 (ad K "is_number") (fd 5) ["value"] (spOf G 1 none m_is_number) :=
  def_ok (N := ["value"]) (ps := ["value"]) (io := none) (t := b_is_number) (k := 1) fc.f_is_number sc_is_number (fun _ z => nomatch z) fun cdv A outer s H E Fr hgd hr hG hiom => by
    have hK : Fr.G.K = K := by rw [hG]; exact hGK
    have nd := sc_is_number.nd
    exact (rs_one (rs_ret (re_and (re_call ((ok_is_integer fc Fr.G hK).mono (by decide)) hgd hr rfl fc.g_is_integer fc.f_is_integer.kp (mb_pos fc.f_is_integer rfl fun _ _ _ _ _ _ us hl => match us, hl with | [_], _ => rfl) (takes_of rfl rfl rfl rfl) (fun _ z => nomatch z) ok_argsN (ra_cons (re_var 0) ra_nil)) (re_one (re_chain op_le o_le op_le o_le (re_gint rfl fc.c_LEAST_THINGS) (re_var 0) (re_gint rfl fc.c_MOST_THINGS))))))
theorem sc_counts_of : FnScope ["lot", "found", "triple", "pair"] ["lot"] (defScope s_counts_of) := ⟨rfl, rfl, rfl, by decide +kernel, rfl, by decide +kernel, by decide +kernel⟩
theorem ok_counts_of (fc : Fc K mg fd) (G : Gx) (hGK : G.K = K) : FnG P w K mg base 2 (ad K "counts_of") (fd 12) ["lot"] (spOf G 1 none m_counts_of) :=
  def_ok (N := ["lot", "found", "triple", "pair"]) (ps := ["lot"]) (io := none) (t := b_counts_of) (k := 1) fc.f_counts_of sc_counts_of (fun _ z => nomatch z) fun cdv A outer s H E Fr hgd hr hG hiom => by
    have hK : Fr.G.K = K := by rw [hG]; exact hGK
    have nd := sc_counts_of.nd
    exact (rs_cons (rs_setDComp (ct := (.one 3)) true (i := 1) (r0 hr) hK rfl nd (nio hiom (by decide)) (ri_seq hK (re_call ((ok_all_pairs fc Fr.G hK).mono (by decide)) hgd hr rfl fc.g_all_pairs fc.f_all_pairs.kp (mb_pos fc.f_all_pairs rfl fun _ _ _ _ _ _ us hl => match us, hl with | [_], _ => rfl) (takes_of rfl rfl rfl rfl) (fun _ z => nomatch z) ok_argsN (ra_cons (re_ix (ixr_all hK) o_ix (re_var 0) re_int) ra_nil))) (blkOk_by (own := [("pair", 3)]) (by rfl)) rfl (nios hiom (by decide)) (fun _ _ _ _ _ => (ct_one nd)) (fun _ _ _ _ _ => pts_y) (fun _ _ _ _ _ => (re_var 3)) (fun _ _ _ _ _ => re_int))
    (rs_cons (rs_for (passes_of rfl) rfl (ri_seq hK (re_ix (ixr_all hK) o_ix (re_var 0) re_int)) (rg_s false nd (nio hiom (by decide))) (rs_one (rs_for (passes_of rfl) rfl (ri_seq hK (re_call ((ok_pairs_of_triple fc Fr.G hK).mono (by decide)) hgd hr rfl fc.g_pairs_of_triple fc.f_pairs_of_triple.kp (mb_pos fc.f_pairs_of_triple rfl fun _ _ _ _ _ _ us hl => match us, hl with | [_], _ => rfl) (takes_of rfl rfl rfl rfl) (fun _ z => nomatch z) ok_argsN (ra_cons (re_var 2) ra_nil))) (rg_s false nd (nio hiom (by decide))) (rs_one (rs_augD 1 (r1 hr) ip_add (re_var 3) re_int)))))
    (rs_one (rs_ret (re_var 1)))))
theorem sc_law_pick : FnScope ["pot", "some"] ["pot", "some"] (defScope s_law_pick) := ⟨rfl, rfl, rfl, by decide +kernel, rfl, by decide +kernel, by decide +kernel⟩
theorem ok_law_pick (fc : Fc K mg fd) (G : Gx) (hGK : G.K = K) : FnG P w K mg base 2 (ad K "_law_pick") (fd 24) ["pot", "some"] (spOf G 2 (some 0) m_law_pick) :=
  def_ok (N := ["pot", "some"]) (ps := ["pot", "some"]) (io := (some 0)) (t := b_law_pick) (k := 1) fc.f_law_pick sc_law_pick (fun _ z => by cases z; decide) fun cdv A outer s H E Fr hgd hr hG hiom => by
    have hK : Fr.G.K = K := by rw [hG]; exact hGK
    have nd := sc_law_pick.nd
    exact (rs_one (rs_ret (re_ix (ixr_all hK) o_ix (re_var 1) (re_call ((ok_law_draw fc Fr.G hK).mono (by decide)) hgd hr rfl fc.g_law_draw fc.f_law_draw.kp (mb_pos fc.f_law_draw rfl fun _ _ _ _ _ _ us hl => match us, hl with | [_, _], _ => rfl) (takes_of rfl rfl rfl rfl) (fun _ z => by cases z; decide) ok_argsN (ra_cons (re_var 0) (ra_cons (re_callB (cr_len hK) c_len rfl fc.n_len bb_len (ra_cons (re_var 1) ra_nil)) ra_nil))))))
theorem sc_law_all_triples : FnScope ["many", "found", "one", "other", "third"] ["many"] (defScope s_law_all_triples) := ⟨rfl, rfl, rfl, by decide +kernel, rfl, by decide +kernel, by decide +kernel⟩
theorem ok_law_all_triples (fc : Fc K mg fd) (G : Gx) (hGK : G.K = K) : FnG P w K mg base 2 (ad K "_law_all_triples") (fd 26) ["many"] (spOf G 1 none m_law_all_triples) :=
  def_ok (N := ["many", "found", "one", "other", "third"]) (ps := ["many"]) (io := none) (t := b_law_all_triples) (k := 1) fc.f_law_all_triples sc_law_all_triples (fun _ z => nomatch z) fun cdv A outer s H E Fr hgd hr hG hiom => by
    have hK : Fr.G.K = K := by rw [hG]; exact hGK
    have nd := sc_law_all_triples.nd
    exact (rs_cons (rs_asg (q_s true 1) (re_lst ra_nil) (rg_s true nd (nio hiom (by decide))))
    (rs_cons (rs_for (passes_of rfl) rfl (ri_seq hK (re_call ((ok_law_all_pairs fc Fr.G hK).mono (by decide)) hgd hr rfl fc.g_law_all_pairs fc.f_law_all_pairs.kp (mb_pos fc.f_law_all_pairs rfl fun _ _ _ _ _ _ us hl => match us, hl with | [_], _ => rfl) (takes_of rfl rfl rfl rfl) (fun _ z => nomatch z) ok_argsN (ra_cons (re_var 0) ra_nil))) (rg_tup rfl (rgs_cons (rg_s false nd (nio hiom (by decide))) (rgs_cons (rg_s false nd (nio hiom (by decide))) rgs_nil)) hK) (rs_one (rs_expr (re_meth 1 PySem.F.slot_list_extend PySem.F.type_list_extend mt_extend m_ext (ra_cons (re_comp (ct := (.one 4)) hK rfl nd  (ri_rng2 (ra_cons (re_bin (opr_add hK) o_add (re_var 3) re_int) (ra_cons (re_var 0) ra_nil)) rfl fc.n_range) (blkOk_by (own := [("third", 4)]) (by rfl)) rfl (nios hiom (by decide)) (fun _ _ _ _ _ => (ct_one nd)) (fun _ _ _ _ _ => pts_y) (fun _ _ _ _ _ => (re_tup (ra_cons (re_var 2) (ra_cons (re_var 3) (ra_cons (re_var 4) ra_nil)))))) ra_nil)))))
    (rs_one (rs_ret (re_var 1)))))
theorem sc_law_counts : FnScope ["lot", "found", "triple", "pair"] ["lot"] (defScope s_law_counts) := ⟨rfl, rfl, rfl, by decide +kernel, rfl, by decide +kernel, by decide +kernel⟩
theorem ok_law_counts (fc : Fc K mg fd) (G : Gx) (hGK : G.K = K) : FnG P w K mg base 2 (ad K "_law_counts") (fd 28) ["lot"] (spOf G 1 none m_law_counts) :=
  def_ok (N := ["lot", "found", "triple", "pair"]) (ps := ["lot"]) (io := none) (t := b_law_counts) (k := 1) fc.f_law_counts sc_law_counts (fun _ z => nomatch z) fun cdv A outer s H E Fr hgd hr hG hiom => by
    have hK : Fr.G.K = K := by rw [hG]; exact hGK
    have nd := sc_law_counts.nd
    exact (rs_cons (rs_asg (q_s true 1) (re_callTy (cr_dictT hK rfl (r2 hr)) c_dictT rfl fc.n_dict bb_dict (ra_cons (re_comp (ct := (.one 3)) hK rfl nd  (ri_seq hK (re_call ((ok_law_all_pairs fc Fr.G hK).mono (by decide)) hgd hr rfl fc.g_law_all_pairs fc.f_law_all_pairs.kp (mb_pos fc.f_law_all_pairs rfl fun _ _ _ _ _ _ us hl => match us, hl with | [_], _ => rfl) (takes_of rfl rfl rfl rfl) (fun _ z => nomatch z) ok_argsN (ra_cons (re_ix (ixr_all hK) o_ix (re_var 0) re_int) ra_nil))) (blkOk_by (own := [("pair", 3)]) (by rfl)) rfl (nios hiom (by decide)) (fun _ _ _ _ _ => (ct_one nd)) (fun _ _ _ _ _ => pts_y) (fun _ _ _ _ _ => (re_tup (ra_cons (re_var 3) (ra_cons re_int ra_nil))))) ra_nil)) (rg_s true nd (nio hiom (by decide))))
    (rs_cons (rs_for (passes_of rfl) rfl (ri_seq hK (re_ix (ixr_all hK) o_ix (re_var 0) re_int)) (rg_s false nd (nio hiom (by decide))) (rs_one (rs_for (passes_of rfl) rfl (ri_seq hK (re_call ((ok_law_in fc Fr.G hK).mono (by decide)) hgd hr rfl fc.g_law_in fc.f_law_in.kp (mb_pos fc.f_law_in rfl fun _ _ _ _ _ _ us hl => match us, hl with | [_], _ => rfl) (takes_of rfl rfl rfl rfl) (fun _ z => nomatch z) ok_argsN (ra_cons (re_var 2) ra_nil))) (rg_s false nd (nio hiom (by decide))) (rs_one (rs_asg (q_itemA 1 (eVar 3)) (re_bin (opr_add hK) o_add (re_ix (ixr_A hK (r1 hr)) o_ixA (re_var 1) (re_var 3)) re_int) (rg_itemA 1 (r1 hr) (re_var 3)))))))
    (rs_one (rs_ret (re_var 1)))))
theorem sc_law_shuffled : FnScope ["pot", "some", "left", "found"] ["pot", "some"] (defScope s_law_shuffled) := ⟨rfl, rfl, rfl, by decide +kernel, rfl, by decide +kernel, by decide +kernel⟩
theorem ok_law_shuffled (fc : Fc K mg fd) (G : Gx) (hGK : G.K = K) : FnG P w K mg base 2 (ad K "_law_shuffled") (fd 33) ["pot", "some"] (spOf G 2 (some 0) m_law_shuffled) :=
  def_ok (N := ["pot", "some", "left", "found"]) (ps := ["pot", "some"]) (io := (some 0)) (t := b_law_shuffled) (k := 1) fc.f_law_shuffled sc_law_shuffled (fun _ z => by cases z; decide) fun cdv A outer s H E Fr hgd hr hG hiom => by
    have hK : Fr.G.K = K := by rw [hG]; exact hGK
    have nd := sc_law_shuffled.nd
    exact (rs_cons (rs_par2 (o1 := true) (o2 := true) (i := 2) (j := 3) rfl nd (by decide) (nio hiom (by decide)) (nio hiom (by decide)) (re_callTy (cr_list hK) c_list rfl fc.n_list bb_list (ra_cons (re_var 1) ra_nil)) (re_lst ra_nil))
    (rs_cons (rs_while 4096 (passes_of rfl) (rt_cmp (opr_ne hK (r64 hr)) o_ne (re_var 2) (re_lst ra_nil)) (rs_one (rs_expr (re_meth 3 PySem.F.slot_list_append PySem.F.type_list_append mt_append m_app (ra_cons (re_meth 2 PySem.F.slot_list_pop PySem.F.type_list_pop mt_popAt m_popAt (ra_cons (re_call ((ok_law_draw fc Fr.G hK).mono (by decide)) hgd hr rfl fc.g_law_draw fc.f_law_draw.kp (mb_pos fc.f_law_draw rfl fun _ _ _ _ _ _ us hl => match us, hl with | [_, _], _ => rfl) (takes_of rfl rfl rfl rfl) (fun _ z => by cases z; decide) ok_argsN (ra_cons (re_var 0) (ra_cons (re_callB (cr_len hK) c_len rfl fc.n_len bb_len (ra_cons (re_var 2) ra_nil)) ra_nil))) ra_nil)) ra_nil)))))
    (rs_one (rs_ret (re_var 3)))))
theorem sc_is_below : FnScope ["value", "many"] ["value", "many"] (defScope s_is_below) := ⟨rfl, rfl, rfl, by decide +kernel, rfl, by decide +kernel, by decide +kernel⟩
theorem ok_is_below (fc : Fc K mg fd) (G : Gx) (hGK : G.K = K) : FnG P w K mg base 3 (ad K "is_below") (fd 2) ["value", "many"] (spOf G 2 none m_is_below) :=
  def_ok (N := ["value", "many"]) (ps := ["value", "many"]) (io := none) (t := b_is_below) (k := 2) fc.f_is_below sc_is_below (fun _ z => nomatch z) fun cdv A outer s H E Fr hgd hr hG hiom => by
    have hK : Fr.G.K = K := by rw [hG]; exact hGK
    have nd := sc_is_below.nd
    exact (rs_one (rs_ret (re_and (re_call ((ok_is_count fc Fr.G hK).mono (by decide)) hgd hr rfl fc.g_is_count fc.f_is_count.kp (mb_pos fc.f_is_count rfl fun _ _ _ _ _ _ us hl => match us, hl with | [_], _ => rfl) (takes_of rfl rfl rfl rfl) (fun _ z => nomatch z) ok_argsN (ra_cons (re_var 0) ra_nil)) (re_one (re_cmp (opr_lt hK (r0 hr)) o_ltA (re_var 0) (re_var 1))))))
theorem sc_left_of : FnScope ["lot", "counts", "pair"] ["lot"] (defScope s_left_of) := ⟨rfl, rfl, rfl, by decide +kernel, rfl, by decide +kernel, by decide +kernel⟩
theorem ok_left_of (fc : Fc K mg fd) (G : Gx) (hGK : G.K = K) : FnG P w K mg base 3 (ad K "left_of") (fd 13) ["lot"] (spOf G 1 none m_left_of) :=
  def_ok (N := ["lot", "counts", "pair"]) (ps := ["lot"]) (io := none) (t := b_left_of) (k := 2) fc.f_left_of sc_left_of (fun _ z => nomatch z) fun cdv A outer s H E Fr hgd hr hG hiom => by
    have hK : Fr.G.K = K := by rw [hG]; exact hGK
    have nd := sc_left_of.nd
    exact (rs_cons (rs_asg (q_s false 1) (re_call ((ok_counts_of fc Fr.G hK).mono (by decide)) hgd hr rfl fc.g_counts_of fc.f_counts_of.kp (mb_pos fc.f_counts_of rfl fun _ _ _ _ _ _ us hl => match us, hl with | [_], _ => rfl) (takes_of rfl rfl rfl rfl) (fun _ z => nomatch z) ok_argsN (ra_cons (re_var 0) ra_nil)) (rg_s false nd (nio hiom (by decide))))
    (rs_one (rs_ret (re_comp (ct := (.one 2)) hK rfl nd  (ri_seq hK (re_callB (crr_sortA hK rfl) c_sortA rfl fc.n_sorted bb_sorted (ra_cons (re_var 1) ra_nil))) (blkOk_by (own := [("pair", 2)]) (by rfl)) rfl (nios hiom (by decide)) (fun _ _ _ _ _ => (ct_one nd)) (fun _ _ _ _ _ => (pts_one (rt_cmp (opr_eq hK (r64 hr)) o_eq (re_ix (ixr_A hK (r1 hr)) o_ixA (re_var 1) (re_var 2)) re_int))) (fun _ _ _ _ _ => (re_var 2))))))
theorem sc_over_of : FnScope ["lot", "counts", "pair"] ["lot"] (defScope s_over_of) := ⟨rfl, rfl, rfl, by decide +kernel, rfl, by decide +kernel, by decide +kernel⟩
theorem ok_over_of (fc : Fc K mg fd) (G : Gx) (hGK : G.K = K) : FnG P w K mg base 3 (ad K "over_of") (fd 15) ["lot"] (spOf G 1 none m_over_of) :=
  def_ok (N := ["lot", "counts", "pair"]) (ps := ["lot"]) (io := none) (t := b_over_of) (k := 2) fc.f_over_of sc_over_of (fun _ z => nomatch z) fun cdv A outer s H E Fr hgd hr hG hiom => by
    have hK : Fr.G.K = K := by rw [hG]; exact hGK
    have nd := sc_over_of.nd
    exact (rs_cons (rs_asg (q_s false 1) (re_call ((ok_counts_of fc Fr.G hK).mono (by decide)) hgd hr rfl fc.g_counts_of fc.f_counts_of.kp (mb_pos fc.f_counts_of rfl fun _ _ _ _ _ _ us hl => match us, hl with | [_], _ => rfl) (takes_of rfl rfl rfl rfl) (fun _ z => nomatch z) ok_argsN (ra_cons (re_var 0) ra_nil)) (rg_s false nd (nio hiom (by decide))))
    (rs_one (rs_ret (re_comp (ct := (.one 2)) hK rfl nd  (ri_seq hK (re_callB (crr_sortA hK rfl) c_sortA rfl fc.n_sorted bb_sorted (ra_cons (re_var 1) ra_nil))) (blkOk_by (own := [("pair", 2)]) (by rfl)) rfl (nios hiom (by decide)) (fun _ _ _ _ _ => (ct_one nd)) (fun _ _ _ _ _ => (pts_one (rt_cmp op_gt o_gt (re_ix (ixr_A hK (r1 hr)) o_ixA (re_var 1) (re_var 2)) re_int))) (fun _ _ _ _ _ => (re_tup (ra_cons (re_var 2) (ra_cons (re_bin op_sub o_sub (re_ix (ixr_A hK (r1 hr)) o_ixA (re_var 1) (re_var 2)) re_int) ra_nil))))))))
theorem sc_needless_of : FnScope ["lot", "counts", "triple", "pair"] ["lot"] (defScope s_needless_of) := ⟨rfl, rfl, rfl, by decide +kernel, rfl, by decide +kernel, by decide +kernel⟩
theorem ok_needless_of (fc : Fc K mg fd) (G : Gx) (hGK : G.K = K) : FnG P w K mg base 3 (ad K "needless_of") (fd 16) ["lot"] (spOf G 1 none m_needless_of) :=
  def_ok (N := ["lot", "counts", "triple", "pair"]) (ps := ["lot"]) (io := none) (t := b_needless_of) (k := 2) fc.f_needless_of sc_needless_of (fun _ z => nomatch z) fun cdv A outer s H E Fr hgd hr hG hiom => by
    have hK : Fr.G.K = K := by rw [hG]; exact hGK
    have nd := sc_needless_of.nd
    exact (rs_cons (rs_asg (q_s false 1) (re_call ((ok_counts_of fc Fr.G hK).mono (by decide)) hgd hr rfl fc.g_counts_of fc.f_counts_of.kp (mb_pos fc.f_counts_of rfl fun _ _ _ _ _ _ us hl => match us, hl with | [_], _ => rfl) (takes_of rfl rfl rfl rfl) (fun _ z => nomatch z) ok_argsN (ra_cons (re_var 0) ra_nil)) (rg_s false nd (nio hiom (by decide))))
    (rs_one (rs_ret (re_comp (ct := (.one 2)) hK rfl nd  (ri_seq hK (re_ix (ixr_all hK) o_ix (re_var 0) re_int)) (blkOk_by (own := [("triple", 2)]) (by rfl)) rfl (nios hiom (by decide)) (fun _ _ _ _ _ => (ct_one nd)) (fun _ _ _ _ _ => (pts_one (rt_val (re_callB (crr_all hK rfl) c_bools rfl fc.n_all bb_all (ra_cons (re_comp (ct := (.one 3)) hK rfl nd  (ri_seq hK (re_call ((ok_pairs_of_triple fc Fr.G hK).mono (by decide)) hgd hr rfl fc.g_pairs_of_triple fc.f_pairs_of_triple.kp (mb_pos fc.f_pairs_of_triple rfl fun _ _ _ _ _ _ us hl => match us, hl with | [_], _ => rfl) takes_false (fun _ z => nomatch z) ok_argsN (ra_cons (re_var 2) ra_nil))) (blkOk_by (own := [("pair", 3)]) (by rfl)) rfl (nios hiom (by decide)) (fun _ _ _ _ _ => (ct_one nd)) (fun _ _ _ _ _ => pts_y) (fun _ _ _ _ _ => (re_cmp op_gt o_gt (re_ix (ixr_A hK (r1 hr)) o_ixA (re_var 1) (re_var 3)) re_int))) ra_nil))))) (fun _ _ _ _ _ => (re_var 2))))))
theorem sc_law_left : FnScope ["lot", "counts", "pair"] ["lot"] (defScope s_law_left) := ⟨rfl, rfl, rfl, by decide +kernel, rfl, by decide +kernel, by decide +kernel⟩
theorem ok_law_left (fc : Fc K mg fd) (G : Gx) (hGK : G.K = K) : FnG P w K mg base 3 (ad K "_law_left") (fd 29) ["lot"] (spOf G 1 none m_law_left) :=
  def_ok (N := ["lot", "counts", "pair"]) (ps := ["lot"]) (io := none) (t := b_law_left) (k := 2) fc.f_law_left sc_law_left (fun _ z => nomatch z) fun cdv A outer s H E Fr hgd hr hG hiom => by
    have hK : Fr.G.K = K := by rw [hG]; exact hGK
    have nd := sc_law_left.nd
    exact (rs_cons (rs_asg (q_s false 1) (re_call ((ok_law_counts fc Fr.G hK).mono (by decide)) hgd hr rfl fc.g_law_counts fc.f_law_counts.kp (mb_pos fc.f_law_counts rfl fun _ _ _ _ _ _ us hl => match us, hl with | [_], _ => rfl) (takes_of rfl rfl rfl rfl) (fun _ z => nomatch z) ok_argsN (ra_cons (re_var 0) ra_nil)) (rg_s false nd (nio hiom (by decide))))
    (rs_one (rs_ret (re_comp (ct := (.one 2)) hK rfl nd  (ri_seq hK (re_call ((ok_law_all_pairs fc Fr.G hK).mono (by decide)) hgd hr rfl fc.g_law_all_pairs fc.f_law_all_pairs.kp (mb_pos fc.f_law_all_pairs rfl fun _ _ _ _ _ _ us hl => match us, hl with | [_], _ => rfl) (takes_of rfl rfl rfl rfl) (fun _ z => nomatch z) ok_argsN (ra_cons (re_ix (ixr_all hK) o_ix (re_var 0) re_int) ra_nil))) (blkOk_by (own := [("pair", 2)]) (by rfl)) rfl (nios hiom (by decide)) (fun _ _ _ _ _ => (ct_one nd)) (fun _ _ _ _ _ => (pts_one (rt_cmp (opr_eq hK (r64 hr)) o_eq (re_ix (ixr_A hK (r1 hr)) o_ixA (re_var 1) (re_var 2)) re_int))) (fun _ _ _ _ _ => (re_var 2))))))
theorem sc_law_any : FnScope ["pot", "many", "most"] ["pot", "many", "most"] (defScope s_law_any) := ⟨rfl, rfl, rfl, by decide +kernel, rfl, by decide +kernel, by decide +kernel⟩
theorem ok_law_any (fc : Fc K mg fd) (G : Gx) (hGK : G.K = K) : FnG P w K mg base 3 (ad K "_law_any") (fd 34) ["pot", "many", "most"] (spOf G 3 (some 0) m_law_any) :=
  def_ok (N := ["pot", "many", "most"]) (ps := ["pot", "many", "most"]) (io := (some 0)) (t := b_law_any) (k := 2) fc.f_law_any sc_law_any (fun _ z => by cases z; decide) fun cdv A outer s H E Fr hgd hr hG hiom => by
    have hK : Fr.G.K = K := by rw [hG]; exact hGK
    have nd := sc_law_any.nd
    exact (rs_one (rs_ret (re_tup (ra_cons re_str (ra_cons (re_var 1) (ra_cons (re_callTy (cr_tuple hK) c_tuple rfl fc.n_tuple bb_tuple (ra_cons (re_callB (crr_sortA hK rfl) c_sortA rfl fc.n_sorted bb_sorted (ra_cons (re_slice hK (re_call ((ok_law_shuffled fc Fr.G hK).mono (by decide)) hgd hr rfl fc.g_law_shuffled fc.f_law_shuffled.kp (mb_pos fc.f_law_shuffled rfl fun _ _ _ _ _ _ us hl => match us, hl with | [_, _], _ => rfl) (takes_of rfl rfl rfl rfl) (fun _ z => by cases z; decide) ok_argsN (ra_cons (re_var 0) (ra_cons (re_call ((ok_law_all_triples fc Fr.G hK).mono (by decide)) hgd hr rfl fc.g_law_all_triples fc.f_law_all_triples.kp (mb_pos fc.f_law_all_triples rfl fun _ _ _ _ _ _ us hl => match us, hl with | [_], _ => rfl) (takes_of rfl rfl rfl rfl) (fun _ z => nomatch z) ok_argsN (ra_cons (re_var 1) ra_nil)) ra_nil))) ro_none (ro_some (re_call ((ok_law_draw fc Fr.G hK).mono (by decide)) hgd hr rfl fc.g_law_draw fc.f_law_draw.kp (mb_pos fc.f_law_draw rfl fun _ _ _ _ _ _ us hl => match us, hl with | [_, _], _ => rfl) (takes_of rfl rfl rfl rfl) (fun _ z => by cases z; decide) ok_argsN (ra_cons (re_var 0) (ra_cons (re_bin (opr_add hK) o_add (re_var 2) re_int) ra_nil))))) ra_nil)) ra_nil)) ra_nil))))))
theorem sc_is_triple_in : FnScope ["many", "value", "thing"] ["many", "value"] (defScope s_is_triple_in) := ⟨rfl, rfl, rfl, by decide +kernel, rfl, by decide +kernel, by decide +kernel⟩
theorem ok_is_triple_in (fc : Fc K mg fd) (G : Gx) (hGK : G.K = K) : FnG P w K mg base 4 (ad K "is_triple_in") (fd 6) ["many", "value"] (spOf G 2 none m_is_triple_in) :=
  def_ok (N := ["many", "value", "thing"]) (ps := ["many", "value"]) (io := none) (t := b_is_triple_in) (k := 3) fc.f_is_triple_in sc_is_triple_in (fun _ z => nomatch z) fun cdv A outer s H E Fr hgd hr hG hiom => by
    have hK : Fr.G.K = K := by rw [hG]; exact hGK
    have nd := sc_is_triple_in.nd
    exact (rs_one (rs_ret (re_and (re_call ((ok_is_row fc Fr.G hK).mono (by decide)) hgd hr rfl fc.g_is_row fc.f_is_row.kp (mb_pos fc.f_is_row rfl fun _ _ _ _ _ _ us hl => match us, hl with | [_, _], _ => rfl) (takes_of rfl rfl rfl rfl) (fun _ z => nomatch z) ok_argsN (ra_cons (re_var 1) (ra_cons re_int ra_nil))) (re_and (re_callB (crr_all hK rfl) c_bools rfl fc.n_all bb_all (ra_cons (re_comp (ct := (.one 2)) hK rfl nd  (ri_seq hK (re_var 1)) (blkOk_by (own := [("thing", 2)]) (by rfl)) rfl (nios hiom (by decide)) (fun _ _ _ _ _ => (ct_one nd)) (fun _ _ _ _ _ => pts_y) (fun _ _ _ _ _ => (re_call ((ok_is_below fc Fr.G hK).mono (by decide)) hgd hr rfl fc.g_is_below fc.f_is_below.kp (mb_pos fc.f_is_below rfl fun _ _ _ _ _ _ us hl => match us, hl with | [_, _], _ => rfl) takes_false (fun _ z => nomatch z) ok_argsN (ra_cons (re_var 2) (ra_cons (re_var 0) ra_nil))))) ra_nil)) (re_one (re_call ((ok_is_rising fc Fr.G hK).mono (by decide)) hgd hr rfl fc.g_is_rising fc.f_is_rising.kp (mb_pos fc.f_is_rising rfl fun _ _ _ _ _ _ us hl => match us, hl with | [_], _ => rfl) (takes_of rfl rfl rfl rfl) (fun _ z => nomatch z) ok_argsN (ra_cons (re_var 1) ra_nil)))))))
theorem sc_is_wide_of : FnScope ["lot"] ["lot"] (defScope s_is_wide_of) := ⟨rfl, rfl, rfl, by decide +kernel, rfl, by decide +kernel, by decide +kernel⟩
theorem ok_is_wide_of (fc : Fc K mg fd) (G : Gx) (hGK : G.K = K) : FnG P w K mg base 4 (ad K "is_wide_of") (fd 14) ["lot"] (spOf G 1 none m_is_wide_of) :=
  def_ok (N := ["lot"]) (ps := ["lot"]) (io := none) (t := b_is_wide_of) (k := 3) fc.f_is_wide_of sc_is_wide_of (fun _ z => nomatch z) fun cdv A outer s H E Fr hgd hr hG hiom => by
    have hK : Fr.G.K = K := by rw [hG]; exact hGK
    have nd := sc_is_wide_of.nd
    exact (rs_one (rs_ret (re_cmp (opr_eq hK (r64 hr)) o_eq (re_call ((ok_left_of fc Fr.G hK).mono (by decide)) hgd hr rfl fc.g_left_of fc.f_left_of.kp (mb_pos fc.f_left_of rfl fun _ _ _ _ _ _ us hl => match us, hl with | [_], _ => rfl) (takes_of rfl rfl rfl rfl) (fun _ z => nomatch z) ok_argsN (ra_cons (re_var 0) ra_nil)) (re_lst ra_nil))))
theorem sc_slimmed_of : FnScope ["lot", "triple"] ["lot"] (defScope s_slimmed_of) := ⟨rfl, rfl, rfl, by decide +kernel, rfl, by decide +kernel, by decide +kernel⟩
theorem ok_slimmed_of (fc : Fc K mg fd) (G : Gx) (hGK : G.K = K) : FnG P w K mg base 4 (ad K "slimmed_of") (fd 17) ["lot"] (spOf G 1 none m_slimmed_of) :=
  def_ok (N := ["lot", "triple"]) (ps := ["lot"]) (io := none) (t := b_slimmed_of) (k := 3) fc.f_slimmed_of sc_slimmed_of (fun _ z => nomatch z) fun cdv A outer s H E Fr hgd hr hG hiom => by
    have hK : Fr.G.K = K := by rw [hG]; exact hGK
    have nd := sc_slimmed_of.nd
    exact (rs_cons (rs_for (passes_of rfl) rfl (ri_seq hK (re_rev hK (re_ix (ixr_all hK) o_ix (re_var 0) re_int))) (rg_s false nd (nio hiom (by decide))) (rs_one (rs_if (rt_cmp (opr_in hK (r65 hr)) o_in (re_var 1) (re_call ((ok_needless_of fc Fr.G hK).mono (by decide)) hgd hr rfl fc.g_needless_of fc.f_needless_of.kp (mb_pos fc.f_needless_of rfl fun _ _ _ _ _ _ us hl => match us, hl with | [_], _ => rfl) (takes_of rfl rfl rfl rfl) (fun _ z => nomatch z) ok_argsN (ra_cons (re_var 0) ra_nil))) (rs_one (rs_asg (q_s false 0) (re_call ((ok_without_triple fc Fr.G hK).mono (by decide)) hgd hr rfl fc.g_without_triple fc.f_without_triple.kp (mb_pos fc.f_without_triple rfl fun _ _ _ _ _ _ us hl => match us, hl with | [_, _], _ => rfl) (takes_of rfl rfl rfl rfl) (fun _ z => nomatch z) ok_argsN (ra_cons (re_var 0) (ra_cons (re_var 1) ra_nil))) (rg_s false nd (nio hiom (by decide))))) rs_nil)))
    (rs_one (rs_ret (re_var 0))))
theorem sc_law_is_wide : FnScope ["lot"] ["lot"] (defScope s_law_is_wide) := ⟨rfl, rfl, rfl, by decide +kernel, rfl, by decide +kernel, by decide +kernel⟩
theorem ok_law_is_wide (fc : Fc K mg fd) (G : Gx) (hGK : G.K = K) : FnG P w K mg base 4 (ad K "_law_is_wide") (fd 30) ["lot"] (spOf G 1 none m_law_is_wide) :=
  def_ok (N := ["lot"]) (ps := ["lot"]) (io := none) (t := b_law_is_wide) (k := 3) fc.f_law_is_wide sc_law_is_wide (fun _ z => nomatch z) fun cdv A outer s H E Fr hgd hr hG hiom => by
    have hK : Fr.G.K = K := by rw [hG]; exact hGK
    have nd := sc_law_is_wide.nd
    exact (rs_one (rs_ret (re_cmp (opr_eq hK (r64 hr)) o_eq (re_call ((ok_law_left fc Fr.G hK).mono (by decide)) hgd hr rfl fc.g_law_left fc.f_law_left.kp (mb_pos fc.f_law_left rfl fun _ _ _ _ _ _ us hl => match us, hl with | [_], _ => rfl) (takes_of rfl rfl rfl rfl) (fun _ z => nomatch z) ok_argsN (ra_cons (re_var 0) ra_nil)) (re_lst ra_nil))))
theorem sc_is_lot_of : FnScope ["value", "triple"] ["value"] (defScope s_is_lot_of) := ⟨rfl, rfl, rfl, by decide +kernel, rfl, by decide +kernel, by decide +kernel⟩
theorem ok_is_lot_of (fc : Fc K mg fd) (G : Gx) (hGK : G.K = K) : FnG P w K mg base 5 (ad K "is_lot_of") (fd 7) ["value"] (spOf G 1 none m_is_lot_of) :=
  def_ok (N := ["value", "triple"]) (ps := ["value"]) (io := none) (t := b_is_lot_of) (k := 4) fc.f_is_lot_of sc_is_lot_of (fun _ z => nomatch z) fun cdv A outer s H E Fr hgd hr hG hiom => by
    have hK : Fr.G.K = K := by rw [hG]; exact hGK
    have nd := sc_is_lot_of.nd
    exact (rs_cons (rs_if (PW.pt (rw_or (rt_not (rt_val (re_call ((ok_is_row fc Fr.G hK).mono (by decide)) hgd hr rfl fc.g_is_row fc.f_is_row.kp (mb_pos fc.f_is_row rfl fun _ _ _ _ _ _ us hl => match us, hl with | [_, _], _ => rfl) (takes_of rfl rfl rfl rfl) (fun _ z => nomatch z) ok_argsN (ra_cons (re_var 0) (ra_cons re_int ra_nil))))) (rw_or (rt_not (rt_val (re_isi hK rfl fc.n_isinstance rfl fc.n_str bb_str (re_ix (ixr_all hK) o_ix (re_var 0) re_int)))) (rw_or (rt_cmp (opr_ne hK (r64 hr)) o_ne (re_ix (ixr_all hK) o_ix (re_var 0) re_int) (re_gstr rfl fc.c_LOT)) (rw_one_or (rt_not (rt_val (re_call ((ok_is_number fc Fr.G hK).mono (by decide)) hgd hr rfl fc.g_is_number fc.f_is_number.kp (mb_pos fc.f_is_number rfl fun _ _ _ _ _ _ us hl => match us, hl with | [_], _ => rfl) (takes_of rfl rfl rfl rfl) (fun _ z => nomatch z) ok_argsN (ra_cons (re_ix (ixr_all hK) o_ix (re_var 0) re_int) ra_nil))))))))) (rs_one (rs_ret re_bl)) rs_nil)
    (rs_cons (rs_if (PW.pt (rw_or (rt_not (rt_val (re_isi hK rfl fc.n_isinstance rfl fc.n_tuple bb_tuple (re_ix (ixr_all hK) o_ix (re_var 0) re_int)))) (rw_one_or (rt_not (rt_val (re_callB (crr_all hK rfl) c_bools rfl fc.n_all bb_all (ra_cons (re_comp (ct := (.one 1)) hK rfl nd  (ri_seq hK (re_ix (ixr_all hK) o_ix (re_var 0) re_int)) (blkOk_by (own := [("triple", 1)]) (by rfl)) rfl (nios hiom (by decide)) (fun _ _ _ _ _ => (ct_one nd)) (fun _ _ _ _ _ => pts_y) (fun _ _ _ _ _ => (re_call ((ok_is_triple_in fc Fr.G hK).mono (by decide)) hgd hr rfl fc.g_is_triple_in fc.f_is_triple_in.kp (mb_pos fc.f_is_triple_in rfl fun _ _ _ _ _ _ us hl => match us, hl with | [_, _], _ => rfl) takes_false (fun _ z => nomatch z) ok_argsN (ra_cons (re_ix (ixr_all hK) o_ix (re_var 0) re_int) (ra_cons (re_var 1) ra_nil))))) ra_nil))))))) (rs_one (rs_ret re_bl)) rs_nil)
    (rs_one (rs_ret (re_call ((ok_is_rising fc Fr.G hK).mono (by decide)) hgd hr rfl fc.g_is_rising fc.f_is_rising.kp (mb_pos fc.f_is_rising rfl fun _ _ _ _ _ _ us hl => match us, hl with | [_], _ => rfl) (takes_of rfl rfl rfl rfl) (fun _ z => nomatch z) ok_argsN (ra_cons (re_ix (ixr_all hK) o_ix (re_var 0) re_int) ra_nil))))))
theorem sc_law_wide : FnScope ["pot", "many", "lot", "pair", "third", "thing"] ["pot", "many"] (defScope s_law_wide) := ⟨rfl, rfl, rfl, by decide +kernel, rfl, by decide +kernel, by decide +kernel⟩
theorem ok_law_wide (fc : Fc K mg fd) (G : Gx) (hGK : G.K = K) : FnG P w K mg base 5 (ad K "_law_wide") (fd 35) ["pot", "many"] (spOf G 2 (some 0) m_law_wide) :=
  def_ok (N := ["pot", "many", "lot", "pair", "third", "thing"]) (ps := ["pot", "many"]) (io := (some 0)) (t := b_law_wide) (k := 4) fc.f_law_wide sc_law_wide (fun _ z => by cases z; decide) fun cdv A outer s H E Fr hgd hr hG hiom => by
    have hK : Fr.G.K = K := by rw [hG]; exact hGK
    have nd := sc_law_wide.nd
    exact (rs_cons (rs_asg (q_s false 2) (re_call ((ok_law_any fc Fr.G hK).mono (by decide)) hgd hr rfl fc.g_law_any fc.f_law_any.kp (mb_pos fc.f_law_any rfl fun _ _ _ _ _ _ us hl => match us, hl with | [_, _, _], _ => rfl) (takes_of rfl rfl rfl rfl) (fun _ z => by cases z; decide) ok_argsN (ra_cons (re_var 0) (ra_cons (re_var 1) (ra_cons re_int ra_nil)))) (rg_s false nd (nio hiom (by decide))))
    (rs_cons (rs_while 4096 (passes_of rfl) (rt_not (rt_val (re_call ((ok_law_is_wide fc Fr.G hK).mono (by decide)) hgd hr rfl fc.g_law_is_wide fc.f_law_is_wide.kp (mb_pos fc.f_law_is_wide rfl fun _ _ _ _ _ _ us hl => match us, hl with | [_], _ => rfl) (takes_of rfl rfl rfl rfl) (fun _ z => nomatch z) ok_argsN (ra_cons (re_var 2) ra_nil)))) (rs_cons (rs_asg (q_s false 3) (re_ix (ixr_all hK) o_ix (re_call ((ok_law_left fc Fr.G hK).mono (by decide)) hgd hr rfl fc.g_law_left fc.f_law_left.kp (mb_pos fc.f_law_left rfl fun _ _ _ _ _ _ us hl => match us, hl with | [_], _ => rfl) (takes_of rfl rfl rfl rfl) (fun _ z => nomatch z) ok_argsN (ra_cons (re_var 2) ra_nil)) re_int) (rg_s false nd (nio hiom (by decide))))
    (rs_cons (rs_asg (q_s false 4) (re_call ((ok_law_pick fc Fr.G hK).mono (by decide)) hgd hr rfl fc.g_law_pick fc.f_law_pick.kp (mb_pos fc.f_law_pick rfl fun _ _ _ _ _ _ us hl => match us, hl with | [_, _], _ => rfl) (takes_of rfl rfl rfl rfl) (fun _ z => by cases z; decide) ok_argsN (ra_cons (re_var 0) (ra_cons (re_comp (ct := (.one 5)) hK rfl nd  (ri_rng1 (ra_cons (re_var 1) ra_nil) rfl fc.n_range) (blkOk_by (own := [("thing", 5)]) (by rfl)) rfl (nios hiom (by decide)) (fun _ _ _ _ _ => (ct_one nd)) (fun _ _ _ _ _ => (pts_one (rt_cmp (opr_notin hK (r65 hr)) o_notin (re_var 5) (re_var 3)))) (fun _ _ _ _ _ => (re_var 5))) ra_nil))) (rg_s false nd (nio hiom (by decide))))
    (rs_one (rs_asg (q_s false 2) (re_call ((ok_law_with fc Fr.G hK).mono (by decide)) hgd hr rfl fc.g_law_with fc.f_law_with.kp (mb_pos fc.f_law_with rfl fun _ _ _ _ _ _ us hl => match us, hl with | [_, _], _ => rfl) (takes_of rfl rfl rfl rfl) (fun _ z => nomatch z) ok_argsN (ra_cons (re_var 2) (ra_cons (re_callTy (cr_tuple hK) c_tuple rfl fc.n_tuple bb_tuple (ra_cons (re_callB (crr_sortA hK rfl) c_sortA rfl fc.n_sorted bb_sorted (ra_cons (re_bin (opr_add hK) o_add (re_var 3) (re_tup (ra_cons (re_var 4) ra_nil))) ra_nil)) ra_nil)) ra_nil))) (rg_s false nd (nio hiom (by decide))))))))
    (rs_one (rs_ret (re_var 2)))))
theorem sc_law_needless : FnScope ["lot", "triple"] ["lot"] (defScope s_law_needless) := ⟨rfl, rfl, rfl, by decide +kernel, rfl, by decide +kernel, by decide +kernel⟩
theorem ok_law_needless (fc : Fc K mg fd) (G : Gx) (hGK : G.K = K) : FnG P w K mg base 5 (ad K "_law_needless") (fd 36) ["lot"] (spOf G 1 none m_law_needless) :=
  def_ok (N := ["lot", "triple"]) (ps := ["lot"]) (io := none) (t := b_law_needless) (k := 4) fc.f_law_needless sc_law_needless (fun _ z => nomatch z) fun cdv A outer s H E Fr hgd hr hG hiom => by
    have hK : Fr.G.K = K := by rw [hG]; exact hGK
    have nd := sc_law_needless.nd
    exact (rs_one (rs_ret (re_comp (ct := (.one 1)) hK rfl nd  (ri_seq hK (re_ix (ixr_all hK) o_ix (re_var 0) re_int)) (blkOk_by (own := [("triple", 1)]) (by rfl)) rfl (nios hiom (by decide)) (fun _ _ _ _ _ => (ct_one nd)) (fun _ _ _ _ _ => (pts_one (rt_val (re_call ((ok_law_is_wide fc Fr.G hK).mono (by decide)) hgd hr rfl fc.g_law_is_wide fc.f_law_is_wide.kp (mb_pos fc.f_law_is_wide rfl fun _ _ _ _ _ _ us hl => match us, hl with | [_], _ => rfl) takes_false (fun _ z => nomatch z) ok_argsN (ra_cons (re_call ((ok_law_without fc Fr.G hK).mono (by decide)) hgd hr rfl fc.g_law_without fc.f_law_without.kp (mb_pos fc.f_law_without rfl fun _ _ _ _ _ _ us hl => match us, hl with | [_, _], _ => rfl) takes_false (fun _ z => nomatch z) ok_argsN (ra_cons (re_var 0) (ra_cons (re_var 1) ra_nil))) ra_nil))))) (fun _ _ _ _ _ => (re_var 1)))))
theorem sc_want_lot : FnScope ["value"] ["value"] (defScope s_want_lot) := ⟨rfl, rfl, rfl, by decide +kernel, rfl, by decide +kernel, by decide +kernel⟩
theorem ok_want_lot (fc : Fc K mg fd) (G : Gx) (hGK : G.K = K) : FnG P w K mg base 6 (ad K "want_lot") (fd 11) ["value"] (spOf G 1 none m_want_lot) :=
  def_ok (N := ["value"]) (ps := ["value"]) (io := none) (t := b_want_lot) (k := 5) fc.f_want_lot sc_want_lot (fun _ z => nomatch z) fun cdv A outer s H E Fr hgd hr hG hiom => by
    have hK : Fr.G.K = K := by rw [hG]; exact hGK
    have nd := sc_want_lot.nd
    exact (rs_cons (rs_if (rt_not (rt_val (re_call ((ok_is_lot_of fc Fr.G hK).mono (by decide)) hgd hr rfl fc.g_is_lot_of fc.f_is_lot_of.kp (mb_pos fc.f_is_lot_of rfl fun _ _ _ _ _ _ us hl => match us, hl with | [_], _ => rfl) (takes_of rfl rfl rfl rfl) (fun _ z => nomatch z) ok_argsN (ra_cons (re_var 0) ra_nil)))) (rs_one rs_badS) rs_nil)
    (rs_one (rs_ret (re_var 0))))
theorem sc_want_wide : FnScope ["lot"] ["lot"] (defScope s_want_wide) := ⟨rfl, rfl, rfl, by decide +kernel, rfl, by decide +kernel, by decide +kernel⟩
theorem ok_want_wide (fc : Fc K mg fd) (G : Gx) (hGK : G.K = K) : FnG P w K mg base 7 (ad K "want_wide") (fd 18) ["lot"] (spOf G 1 none m_want_wide) :=
  def_ok (N := ["lot"]) (ps := ["lot"]) (io := none) (t := b_want_wide) (k := 6) fc.f_want_wide sc_want_wide (fun _ z => nomatch z) fun cdv A outer s H E Fr hgd hr hG hiom => by
    have hK : Fr.G.K = K := by rw [hG]; exact hGK
    have nd := sc_want_wide.nd
    exact (rs_cons (rs_if (rt_not (rt_val (re_call ((ok_is_wide_of fc Fr.G hK).mono (by decide)) hgd hr rfl fc.g_is_wide_of fc.f_is_wide_of.kp (mb_pos fc.f_is_wide_of rfl fun _ _ _ _ _ _ us hl => match us, hl with | [_], _ => rfl) (takes_of rfl rfl rfl rfl) (fun _ z => nomatch z) ok_argsN (ra_cons (re_call ((ok_want_lot fc Fr.G hK).mono (by decide)) hgd hr rfl fc.g_want_lot fc.f_want_lot.kp (mb_pos fc.f_want_lot rfl fun _ _ _ _ _ _ us hl => match us, hl with | [_], _ => rfl) (takes_of rfl rfl rfl rfl) (fun _ z => nomatch z) ok_argsN (ra_cons (re_var 0) ra_nil)) ra_nil)))) (rs_one rs_badS) rs_nil)
    (rs_one (rs_ret (re_var 0))))
theorem sc_over : FnScope ["lot"] ["lot"] (defScope s_over) := ⟨rfl, rfl, rfl, by decide +kernel, rfl, by decide +kernel, by decide +kernel⟩
theorem ok_over (fc : Fc K mg fd) (G : Gx) (hGK : G.K = K) : FnG P w K mg base 7 (ad K "over") (fd 19) ["lot"] (spOf G 1 none m_over) :=
  def_ok (N := ["lot"]) (ps := ["lot"]) (io := none) (t := b_over) (k := 6) fc.f_over sc_over (fun _ z => nomatch z) fun cdv A outer s H E Fr hgd hr hG hiom => by
    have hK : Fr.G.K = K := by rw [hG]; exact hGK
    have nd := sc_over.nd
    exact (rs_one (rs_ret (re_call ((ok_over_of fc Fr.G hK).mono (by decide)) hgd hr rfl fc.g_over_of fc.f_over_of.kp (mb_pos fc.f_over_of rfl fun _ _ _ _ _ _ us hl => match us, hl with | [_], _ => rfl) (takes_of rfl rfl rfl rfl) (fun _ z => nomatch z) ok_argsN (ra_cons (re_call ((ok_want_lot fc Fr.G hK).mono (by decide)) hgd hr rfl fc.g_want_lot fc.f_want_lot.kp (mb_pos fc.f_want_lot rfl fun _ _ _ _ _ _ us hl => match us, hl with | [_], _ => rfl) (takes_of rfl rfl rfl rfl) (fun _ z => nomatch z) ok_argsN (ra_cons (re_var 0) ra_nil)) ra_nil))))
theorem sc_needless : FnScope ["lot"] ["lot"] (defScope s_needless) := ⟨rfl, rfl, rfl, by decide +kernel, rfl, by decide +kernel, by decide +kernel⟩
theorem ok_needless (fc : Fc K mg fd) (G : Gx) (hGK : G.K = K) : FnG P w K mg base 8 (ad K "needless") (fd 20) ["lot"] (spOf G 1 none m_needless) :=
  def_ok (N := ["lot"]) (ps := ["lot"]) (io := none) (t := b_needless) (k := 7) fc.f_needless sc_needless (fun _ z => nomatch z) fun cdv A outer s H E Fr hgd hr hG hiom => by
    have hK : Fr.G.K = K := by rw [hG]; exact hGK
    have nd := sc_needless.nd
    exact (rs_one (rs_ret (re_call ((ok_needless_of fc Fr.G hK).mono (by decide)) hgd hr rfl fc.g_needless_of fc.f_needless_of.kp (mb_pos fc.f_needless_of rfl fun _ _ _ _ _ _ us hl => match us, hl with | [_], _ => rfl) (takes_of rfl rfl rfl rfl) (fun _ z => nomatch z) ok_argsN (ra_cons (re_call ((ok_want_wide fc Fr.G hK).mono (by decide)) hgd hr rfl fc.g_want_wide fc.f_want_wide.kp (mb_pos fc.f_want_wide rfl fun _ _ _ _ _ _ us hl => match us, hl with | [_], _ => rfl) (takes_of rfl rfl rfl rfl) (fun _ z => nomatch z) ok_argsN (ra_cons (re_var 0) ra_nil)) ra_nil))))
theorem sc_slimmed : FnScope ["lot"] ["lot"] (defScope s_slimmed) := ⟨rfl, rfl, rfl, by decide +kernel, rfl, by decide +kernel, by decide +kernel⟩
theorem ok_slimmed (fc : Fc K mg fd) (G : Gx) (hGK : G.K = K) : FnG P w K mg base 8 (ad K "slimmed") (fd 21) ["lot"] (spOf G 1 none m_slimmed) :=
  def_ok (N := ["lot"]) (ps := ["lot"]) (io := none) (t := b_slimmed) (k := 7) fc.f_slimmed sc_slimmed (fun _ z => nomatch z) fun cdv A outer s H E Fr hgd hr hG hiom => by
    have hK : Fr.G.K = K := by rw [hG]; exact hGK
    have nd := sc_slimmed.nd
    exact (rs_one (rs_ret (re_call ((ok_slimmed_of fc Fr.G hK).mono (by decide)) hgd hr rfl fc.g_slimmed_of fc.f_slimmed_of.kp (mb_pos fc.f_slimmed_of rfl fun _ _ _ _ _ _ us hl => match us, hl with | [_], _ => rfl) (takes_of rfl rfl rfl rfl) (fun _ z => nomatch z) ok_argsN (ra_cons (re_call ((ok_want_wide fc Fr.G hK).mono (by decide)) hgd hr rfl fc.g_want_wide fc.f_want_wide.kp (mb_pos fc.f_want_wide rfl fun _ _ _ _ _ _ us hl => match us, hl with | [_], _ => rfl) (takes_of rfl rfl rfl rfl) (fun _ z => nomatch z) ok_argsN (ra_cons (re_var 0) ra_nil)) ra_nil))))
theorem sc_law_right : FnScope ["pot", "one", "due", "late", "triple", "lot", "wide", "counts", "many", "pair", "number"] ["pot"] (defScope s_law_right) := ⟨rfl, rfl, rfl, by decide +kernel, rfl, by decide +kernel, by decide +kernel⟩
theorem ok_law_right (fc : Fc K mg fd) (G : Gx) (hGK : G.K = K) : FnG P w K mg base 9 (ad K "_law_right") (fd 37) ["pot"] (spOf G 1 (some 0) m_law_right) :=
  def_ok (N := ["pot", "one", "due", "late", "triple", "lot", "wide", "counts", "many", "pair", "number"]) (ps := ["pot"]) (io := (some 0)) (t := b_law_right) (k := 8) fc.f_law_right sc_law_right (fun _ z => by cases z; decide) fun cdv A outer s H E Fr hgd hr hG hiom => by
    have hK : Fr.G.K = K := by rw [hG]; exact hGK
    have nd := sc_law_right.nd
    exact (rs_cons (rs_par2 (o1 := false) (o2 := false) (i := 5) (j := 6) rfl nd (by decide) (nio hiom (by decide)) (nio hiom (by decide)) (re_call ((ok_law_any fc Fr.G hK).mono (by decide)) hgd hr rfl fc.g_law_any fc.f_law_any.kp (mb_pos fc.f_law_any rfl fun _ _ _ _ _ _ us hl => match us, hl with | [_, _, _], _ => rfl) (takes_of rfl rfl rfl rfl) (fun _ z => by cases z; decide) ok_argsN (ra_cons (re_var 0) (ra_cons (re_bin (opr_add hK) o_add re_int (re_call ((ok_law_draw fc Fr.G hK).mono (by decide)) hgd hr rfl fc.g_law_draw fc.f_law_draw.kp (mb_pos fc.f_law_draw rfl fun _ _ _ _ _ _ us hl => match us, hl with | [_, _], _ => rfl) (takes_of rfl rfl rfl rfl) (fun _ z => by cases z; decide) ok_argsN (ra_cons (re_var 0) (ra_cons re_int ra_nil)))) (ra_cons re_int ra_nil)))) (re_call ((ok_law_wide fc Fr.G hK).mono (by decide)) hgd hr rfl fc.g_law_wide fc.f_law_wide.kp (mb_pos fc.f_law_wide rfl fun _ _ _ _ _ _ us hl => match us, hl with | [_, _], _ => rfl) (takes_of rfl rfl rfl rfl) (fun _ z => by cases z; decide) ok_argsN (ra_cons (re_var 0) (ra_cons (re_bin (opr_add hK) o_add re_int (re_call ((ok_law_draw fc Fr.G hK).mono (by decide)) hgd hr rfl fc.g_law_draw fc.f_law_draw.kp (mb_pos fc.f_law_draw rfl fun _ _ _ _ _ _ us hl => match us, hl with | [_, _], _ => rfl) (takes_of rfl rfl rfl rfl) (fun _ z => by cases z; decide) ok_argsN (ra_cons (re_var 0) (ra_cons re_int ra_nil)))) ra_nil))))
    (rs_cons (rs_for (passes_of rfl) rfl (ri_seq hK (re_tup (ra_cons (re_var 5) (ra_cons (re_var 6) ra_nil)))) (rg_s false nd (nio hiom (by decide))) (rs_cons (rs_asg (q_s false 7) (re_call ((ok_law_counts fc Fr.G hK).mono (by decide)) hgd hr rfl fc.g_law_counts fc.f_law_counts.kp (mb_pos fc.f_law_counts rfl fun _ _ _ _ _ _ us hl => match us, hl with | [_], _ => rfl) (takes_of rfl rfl rfl rfl) (fun _ z => nomatch z) ok_argsN (ra_cons (re_var 1) ra_nil)) (rg_s false nd (nio hiom (by decide))))
    (rs_cons (rs_setComp (ct := (.one 9)) false (i := 2) hK rfl nd (nio hiom (by decide)) (ri_seq hK (re_call ((ok_law_all_pairs fc Fr.G hK).mono (by decide)) hgd hr rfl fc.g_law_all_pairs fc.f_law_all_pairs.kp (mb_pos fc.f_law_all_pairs rfl fun _ _ _ _ _ _ us hl => match us, hl with | [_], _ => rfl) (takes_of rfl rfl rfl rfl) (fun _ z => nomatch z) ok_argsN (ra_cons (re_ix (ixr_all hK) o_ix (re_var 1) re_int) ra_nil))) (blkOk_by (own := [("pair", 9)]) (by rfl)) rfl (nios hiom (by decide)) (fun _ _ _ _ _ => (ct_one nd)) (fun _ _ _ _ _ => (pts_one (rt_cmp op_gt o_gt (re_ix (ixr_A hK (r1 hr)) o_ixA (re_var 7) (re_var 9)) re_int))) (fun _ _ _ _ _ => (re_tup (ra_cons (re_var 9) (ra_cons (re_bin op_sub o_sub (re_ix (ixr_A hK (r1 hr)) o_ixA (re_var 7) (re_var 9)) re_int) ra_nil)))))
    (rs_one (rs_if (rt_cmp (opr_ne hK (r64 hr)) o_ne (re_callB (crr_repr hK hgd (r65 hr)) c_repr rfl fc.n_repr bb_repr (ra_cons (re_lst (ra_cons (re_call ((ok_over fc Fr.G hK).mono (by decide)) hgd hr rfl fc.g_over fc.f_over.kp (mb_pos fc.f_over rfl fun _ _ _ _ _ _ us hl => match us, hl with | [_], _ => rfl) (takes_of rfl rfl rfl rfl) (fun _ z => nomatch z) ok_argsN (ra_cons (re_var 1) ra_nil)) (ra_cons (re_callK0 ((ok_over fc Fr.G hK).mono (by decide)) hgd hr rfl fc.g_over fc.f_over.kp (mb_perm (n := 0) (ks := ["lot"]) fc.f_over [0] rfl fun _ _ _ _ _ _ us ws l1 l2 => match us, ws, l1, l2 with | [], [_], _, _ => rfl) (takes_of rfl rfl rfl rfl) (fun _ z => nomatch z) ok_perm (rk_cons (re_var 1) rk_nil)) ra_nil))) ra_nil)) (re_callB (crr_repr hK hgd (r65 hr)) c_repr rfl fc.n_repr bb_repr (ra_cons (re_lst (ra_cons (re_var 2) (ra_cons (re_var 2) ra_nil))) ra_nil))) (rs_one (rs_ret re_bl)) rs_nil)))))
    (rs_cons (rs_asg (q_tup (q_cons (q_s false 8) (q_cons (q_s false 7) q_nil))) (re_tup (ra_cons (re_ix (ixr_all hK) o_ix (re_var 6) re_int) (ra_cons (re_call ((ok_law_counts fc Fr.G hK).mono (by decide)) hgd hr rfl fc.g_law_counts fc.f_law_counts.kp (mb_pos fc.f_law_counts rfl fun _ _ _ _ _ _ us hl => match us, hl with | [_], _ => rfl) (takes_of rfl rfl rfl rfl) (fun _ z => nomatch z) ok_argsN (ra_cons (re_var 6) ra_nil)) ra_nil))) (rg_tup rfl (rgs_cons (rg_s false nd (nio hiom (by decide))) (rgs_cons (rg_s false nd (nio hiom (by decide))) rgs_nil)) hK))
    (rs_cons (rs_if (rt_cmp (opr_ne hK (r64 hr)) o_ne (re_callB (crr_sum hK rfl) c_sum rfl fc.n_sum bb_sum (ra_cons (re_comp (ct := (.many [9, 10])) hK rfl nd  (ri_seq hK (re_call ((ok_over fc Fr.G hK).mono (by decide)) hgd hr rfl fc.g_over fc.f_over.kp (mb_pos fc.f_over rfl fun _ _ _ _ _ _ us hl => match us, hl with | [_], _ => rfl) (takes_of rfl rfl rfl rfl) (fun _ z => nomatch z) ok_argsN (ra_cons (re_var 6) ra_nil))) (blkOk_by (own := [("pair", 9), ("number", 10)]) (by rfl)) rfl (nios hiom (by decide)) (fun _ _ _ _ _ => (ct_many rfl (cts_cons nd (cts_cons nd cts_nil)))) (fun _ _ _ _ _ => pts_y) (fun _ _ _ _ _ => (re_var 10))) ra_nil)) (re_bin op_sub o_sub (re_bin op_mul o_mulI re_int (re_callB (cr_len hK) c_len rfl fc.n_len bb_len (ra_cons (re_ix (ixr_all hK) o_ix (re_var 6) re_int) ra_nil))) (re_bin op_fdiv o_fdiv (re_bin op_mul o_mulI (re_var 8) (re_bin op_sub o_sub (re_var 8) re_int)) re_int))) (rs_one (rs_ret re_bl)) rs_nil)
    (rs_cons (rs_asg (q_s false 2) (re_call ((ok_law_needless fc Fr.G hK).mono (by decide)) hgd hr rfl fc.g_law_needless fc.f_law_needless.kp (mb_pos fc.f_law_needless rfl fun _ _ _ _ _ _ us hl => match us, hl with | [_], _ => rfl) (takes_of rfl rfl rfl rfl) (fun _ z => nomatch z) ok_argsN (ra_cons (re_var 6) ra_nil)) (rg_s false nd (nio hiom (by decide))))
    (rs_cons (rs_if (rt_cmp (opr_ne hK (r64 hr)) o_ne (re_callB (crr_repr hK hgd (r65 hr)) c_repr rfl fc.n_repr bb_repr (ra_cons (re_lst (ra_cons (re_call ((ok_needless fc Fr.G hK).mono (by decide)) hgd hr rfl fc.g_needless fc.f_needless.kp (mb_pos fc.f_needless rfl fun _ _ _ _ _ _ us hl => match us, hl with | [_], _ => rfl) (takes_of rfl rfl rfl rfl) (fun _ z => nomatch z) ok_argsN (ra_cons (re_var 6) ra_nil)) (ra_cons (re_callK0 ((ok_needless fc Fr.G hK).mono (by decide)) hgd hr rfl fc.g_needless fc.f_needless.kp (mb_perm (n := 0) (ks := ["lot"]) fc.f_needless [0] rfl fun _ _ _ _ _ _ us ws l1 l2 => match us, ws, l1, l2 with | [], [_], _, _ => rfl) (takes_of rfl rfl rfl rfl) (fun _ z => nomatch z) ok_perm (rk_cons (re_var 6) rk_nil)) ra_nil))) ra_nil)) (re_callB (crr_repr hK hgd (r65 hr)) c_repr rfl fc.n_repr bb_repr (ra_cons (re_lst (ra_cons (re_var 2) (ra_cons (re_var 2) ra_nil))) ra_nil))) (rs_one (rs_ret re_bl)) rs_nil)
    (rs_cons (rs_asg (q_s false 3) (re_var 6) (rg_s false nd (nio hiom (by decide))))
    (rs_cons (rs_for (passes_of rfl) rfl (ri_seq hK (re_rev hK (re_ix (ixr_all hK) o_ix (re_var 6) re_int))) (rg_s false nd (nio hiom (by decide))) (rs_one (rs_asg (q_s false 3) (re_if (rt_cmp (opr_in hK (r65 hr)) o_in (re_var 4) (re_call ((ok_law_needless fc Fr.G hK).mono (by decide)) hgd hr rfl fc.g_law_needless fc.f_law_needless.kp (mb_pos fc.f_law_needless rfl fun _ _ _ _ _ _ us hl => match us, hl with | [_], _ => rfl) (takes_of rfl rfl rfl rfl) (fun _ z => nomatch z) ok_argsN (ra_cons (re_var 3) ra_nil))) (re_call ((ok_law_without fc Fr.G hK).mono (by decide)) hgd hr rfl fc.g_law_without fc.f_law_without.kp (mb_pos fc.f_law_without rfl fun _ _ _ _ _ _ us hl => match us, hl with | [_, _], _ => rfl) (takes_of rfl rfl rfl rfl) (fun _ z => nomatch z) ok_argsN (ra_cons (re_var 3) (ra_cons (re_var 4) ra_nil))) (re_var 3)) (rg_s false nd (nio hiom (by decide))))))
    (rs_cons (rs_if (rt_cmp (opr_ne hK (r64 hr)) o_ne (re_callB (crr_repr hK hgd (r65 hr)) c_repr rfl fc.n_repr bb_repr (ra_cons (re_lst (ra_cons (re_call ((ok_slimmed fc Fr.G hK).mono (by decide)) hgd hr rfl fc.g_slimmed fc.f_slimmed.kp (mb_pos fc.f_slimmed rfl fun _ _ _ _ _ _ us hl => match us, hl with | [_], _ => rfl) (takes_of rfl rfl rfl rfl) (fun _ z => nomatch z) ok_argsN (ra_cons (re_var 6) ra_nil)) (ra_cons (re_callK0 ((ok_slimmed fc Fr.G hK).mono (by decide)) hgd hr rfl fc.g_slimmed fc.f_slimmed.kp (mb_perm (n := 0) (ks := ["lot"]) fc.f_slimmed [0] rfl fun _ _ _ _ _ _ us ws l1 l2 => match us, ws, l1, l2 with | [], [_], _, _ => rfl) (takes_of rfl rfl rfl rfl) (fun _ z => nomatch z) ok_perm (rk_cons (re_var 6) rk_nil)) ra_nil))) ra_nil)) (re_callB (crr_repr hK hgd (r65 hr)) c_repr rfl fc.n_repr bb_repr (ra_cons (re_lst (ra_cons (re_var 3) (ra_cons (re_var 3) ra_nil))) ra_nil))) (rs_one (rs_ret re_bl)) rs_nil)
    (rs_one (rs_ret (re_and (re_call ((ok_law_is_wide fc Fr.G hK).mono (by decide)) hgd hr rfl fc.g_law_is_wide fc.f_law_is_wide.kp (mb_pos fc.f_law_is_wide rfl fun _ _ _ _ _ _ us hl => match us, hl with | [_], _ => rfl) (takes_of rfl rfl rfl rfl) (fun _ z => nomatch z) ok_argsN (ra_cons (re_call ((ok_slimmed fc Fr.G hK).mono (by decide)) hgd hr rfl fc.g_slimmed fc.f_slimmed.kp (mb_pos fc.f_slimmed rfl fun _ _ _ _ _ _ us hl => match us, hl with | [_], _ => rfl) (takes_of rfl rfl rfl rfl) (fun _ z => nomatch z) ok_argsN (ra_cons (re_var 6) ra_nil)) ra_nil)) (re_and (re_cmp (opr_eq hK (r64 hr)) o_eq (re_call ((ok_needless fc Fr.G hK).mono (by decide)) hgd hr rfl fc.g_needless fc.f_needless.kp (mb_pos fc.f_needless rfl fun _ _ _ _ _ _ us hl => match us, hl with | [_], _ => rfl) (takes_of rfl rfl rfl rfl) (fun _ z => nomatch z) ok_argsN (ra_cons (re_call ((ok_slimmed fc Fr.G hK).mono (by decide)) hgd hr rfl fc.g_slimmed fc.f_slimmed.kp (mb_pos fc.f_slimmed rfl fun _ _ _ _ _ _ us hl => match us, hl with | [_], _ => rfl) (takes_of rfl rfl rfl rfl) (fun _ z => nomatch z) ok_argsN (ra_cons (re_var 6) ra_nil)) ra_nil)) (re_lst ra_nil)) (re_one (re_cmp (opr_eq hK (r64 hr)) o_eq (re_call ((ok_slimmed fc Fr.G hK).mono (by decide)) hgd hr rfl fc.g_slimmed fc.f_slimmed.kp (mb_pos fc.f_slimmed rfl fun _ _ _ _ _ _ us hl => match us, hl with | [_], _ => rfl) (takes_of rfl rfl rfl rfl) (fun _ z => nomatch z) ok_argsN (ra_cons (re_var 3) ra_nil)) (re_var 3))))))))))))))))
theorem sc_law : FnScope ["script", "k", "pot", "turn"] ["script"] (defScope s_law) := ⟨rfl, rfl, rfl, by decide +kernel, rfl, by decide +kernel, by decide +kernel⟩
theorem ok_law (fc : Fc K mg fd) (G : Gx) (hGK : G.K = K) : FnG P w K mg base 10 (ad K "law") (fd 38) ["script"] (spOf G 1 none m_law) :=
  def_ok (N := ["script", "k", "pot", "turn"]) (ps := ["script"]) (io := none) (t := b_law) (k := 9) fc.f_law sc_law (fun _ z => nomatch z) fun cdv A outer s H E Fr hgd hr hG hiom => by
    have hK : Fr.G.K = K := by rw [hG]; exact hGK
    have nd := sc_law.nd
    exact (rs_cons (rs_for (passes_of rfl) rfl (ri_seq hK (re_tup (ra_cons re_int (ra_cons re_int ra_nil)))) (rg_s false nd (nio hiom (by decide))) (rs_cons (rs_asg (q_s true 2) (re_call ((ok_law_pot fc Fr.G hK).mono (by decide)) hgd hr rfl fc.g_law_pot fc.f_law_pot.kp (mb_pos fc.f_law_pot rfl fun _ _ _ _ _ _ us hl => match us, hl with | [_, _], _ => rfl) (takes_of rfl rfl rfl rfl) (fun _ z => nomatch z) ok_argsN (ra_cons (re_var 0) (ra_cons (re_var 1) ra_nil))) (rg_s true nd (nio hiom (by decide))))
    (rs_one (rs_for (passes_of rfl) rfl (ri_rng1 (ra_cons re_int ra_nil) rfl fc.n_range) (rg_s false nd (nio hiom (by decide))) (rs_one (rs_if (rt_not (rt_val (re_call ((ok_law_right fc Fr.G hK).mono (by decide)) hgd hr rfl fc.g_law_right fc.f_law_right.kp (mb_pos fc.f_law_right rfl fun _ _ _ _ _ _ us hl => match us, hl with | [_], _ => rfl) (takes_of rfl rfl rfl rfl) (fun _ z => by cases z; decide) ok_argsN (ra_cons (re_var 2) ra_nil)))) (rs_one (rs_ret re_bl)) rs_nil))))))
    (rs_one (rs_ret re_bl)))
end
end Gk30
set_option maxHeartbeats 4000000
namespace Gk30
open PySem L2 PL
/-! ### plain: pairs, counts -/
def prs (m : Nat) : List (List Int) := (List.range m).flatMap fun i => (List.range' (i + 1) (m - (i + 1))).map fun j => [((i : Nat) : Int), ((j : Nat) : Int)]
def pr : List Int → List (List Int)
  | [a, b, c] => [[a, b], [a, c], [b, c]]
  | _ => []
def VT (m : Nat) (t : List Int) : Prop := ∃ a b c : Int, t = [a, b, c] ∧ 0 ≤ a ∧ a < b ∧ b < c ∧ c < m
def LOT (m : Nat) (ts : List (List Int)) : D := .tup [.str "lot", .int m, .tup (ts.map tupD)]
def dctOf (ps : List (List Int)) (f : List Int → Int) : List (D × D) := ps.map fun p => (tupD p, .int (f p))
def cn (ts : List (List Int)) (p : List Int) : Int := ((ts.flatMap pr).count p : Nat)
theorem mem_prs {m : Nat} {p : List Int} : p ∈ prs m ↔ ∃ a b : Int, p = [a, b] ∧ 0 ≤ a ∧ a < b ∧ b < m := by
  unfold prs
  rw [List.mem_flatMap]
  constructor
  · rintro ⟨i, hi, h⟩
    obtain ⟨j, hj, rfl⟩ := List.mem_map.mp h
    have h1 := List.mem_range.mp hi
    have h2 := List.mem_range'_1.mp hj
    exact ⟨i, j, rfl, by omega, by omega, by omega⟩
  · rintro ⟨a, b, rfl, h1, h2, h3⟩
    refine ⟨a.toNat, List.mem_range.mpr (by omega), List.mem_map.mpr ⟨b.toNat, List.mem_range'_1.mpr (by omega), ?_⟩⟩
    rw [Int.toNat_of_nonneg h1, Int.toNat_of_nonneg (by omega)]
theorem pr_mem {m : Nat} {t p : List Int} (h : VT m t) (hp : p ∈ pr t) : p ∈ prs m := by
  obtain ⟨a, b, c, rfl, h1, h2, h3, h4⟩ := h
  rw [mem_prs]
  simp [pr] at hp
  rcases hp with rfl | rfl | rfl
  · exact ⟨a, b, rfl, by omega, by omega, by omega⟩
  · exact ⟨a, c, rfl, by omega, by omega, by omega⟩
  · exact ⟨b, c, rfl, by omega, by omega, by omega⟩
theorem prs_sorted (m : Nat) : (prs m).Pairwise fun p q => lexI p q = true := by
  unfold prs
  refine List.pairwise_flatMap.mpr ⟨fun i hi => ?_, ?_⟩
  · refine List.pairwise_map.mpr ((List.pairwise_lt_range' (s := i + 1) (n := m - (i + 1))).imp fun {a b} h => ?_)
    simp [lexI]; omega
  · refine List.pairwise_lt_range.imp fun {i j} hij p hp q hq => ?_
    obtain ⟨a, _, rfl⟩ := List.mem_map.mp hp
    obtain ⟨b, _, rfl⟩ := List.mem_map.mp hq
    simp [lexI]; omega
theorem lexI_ne {p q : List Int} (h : lexI p q = true) : p ≠ q := fun e => by
  rw [e, lexI_irr] at h; cases h
theorem prs_nodup (m : Nat) : (prs m).Nodup := (prs_sorted m).imp fun h => lexI_ne h
/-! ### the dict of counts -/
theorem tEq_tup (p q : List Int) : tEq (tupD p) (tupD q) = decide (p = q) := by
  rw [keysD_int, keysD_int, tEq_D]
  have : (p.map Sum.inl = q.map (Sum.inl : Int → Key)) ↔ p = q := ⟨fun h => (List.map_inj_right (fun _ _ e => Sum.inl.inj e)).mp h, fun h => by rw [h]⟩
  exact decide_eq_decide.mpr this
theorem look_dct {ps : List (List Int)} {f : List Int → Int} {q : List Int} : q ∈ ps → dget tEq (dctOf ps f) (tupD q) = some (.int (f q)) := by
  induction ps with
  | nil => intro h; cases h
  | cons p ps ih =>
    intro h
    by_cases e : p = q
    · subst e
      simp [dget, dctOf, List.find?_cons, tEq_tup]
    · have hq : q ∈ ps := (List.mem_cons.mp h).resolve_left fun z => e z.symm
      have := ih hq
      simp only [dget, dctOf, List.map_cons, List.find?_cons, tEq_tup, decide_eq_false e] at this ⊢
      exact this
theorem any_dct {ps : List (List Int)} {f : List Int → Int} {q : List Int} : ((dctOf ps f).any fun x => tEq x.1 (tupD q)) = decide (q ∈ ps) := by
  induction ps with
  | nil => rfl
  | cons p ps ih =>
    show (tEq (tupD p) (tupD q) || (dctOf ps f).any fun x => tEq x.1 (tupD q)) = _
    rw [ih, tEq_tup]
    by_cases e : p = q
    · subst e; simp
    · have : ¬ q = p := fun z => e z.symm
      simp [e, this]
theorem put_dct {ps : List (List Int)} {f : List Int → Int} {q : List Int} {v : Int} (h : q ∈ ps) : dput tEq (dctOf ps f) (tupD q) (.int v) = dctOf ps (fun p => if p = q then v else f p) := by
  unfold dput
  rw [any_dct, decide_eq_true h, if_pos rfl]
  unfold dctOf
  rw [List.map_map]
  refine List.map_congr_left fun p _ => ?_
  show (if tEq (tupD p) (tupD q) then (tupD p, D.int v) else (tupD p, .int (f p))) = _
  rw [tEq_tup]
  by_cases e : p = q <;> simp [e]
theorem put_new {ps : List (List Int)} {f : List Int → Int} {q : List Int} (h : q ∉ ps) : dput tEq (dctOf ps f) (tupD q) (.int (f q)) = dctOf (ps ++ [q]) f := by
  unfold dput
  rw [any_dct, decide_eq_false h, if_neg Bool.false_ne_true]
  unfold dctOf
  rw [List.map_append]; rfl
theorem keysOf_tup (p : List Int) : keysOf (tupD p) = some (p.map Sum.inl) := by rw [keysD_int, keysOf_D]
theorem fill_new {f : List Int → Int} : ∀ (qs ps : List (List Int)), (ps ++ qs).Nodup → (qs.map fun q => (tupD q, D.int (f q))).foldl (fun acc p => dput tEq acc p.1 p.2) (dctOf ps f) = dctOf (ps ++ qs) f
  | [], ps, _ => by simp
  | q :: qs, ps, h => by
    have h2 : (ps ++ [q] ++ qs).Nodup := by simpa using h
    have hn : q ∉ ps := by
      rw [List.nodup_append] at h
      exact fun z => h.2.2 q z q (by simp) rfl
    rw [List.map_cons, List.foldl_cons, put_new hn, fill_new qs _ h2]
    simp
theorem pairsT_tups {f : List Int → Int} : ∀ ps : List (List Int), pairsT (ps.map fun p => D.tup [tupD p, .int (f p)]) = some (ps.map fun p => (tupD p, D.int (f p)))
  | [] => rfl
  | p :: ps => by
    show (match keysOf (tupD p), pairsT (ps.map fun p => D.tup [tupD p, .int (f p)]) with | some _, some r => some ((tupD p, D.int (f p)) :: r) | _, _ => none) = _
    rw [keysOf_tup, pairsT_tups ps]; rfl
theorem dictT_c {ps : List (List Int)} {f : List Int → Int} (h : ps.Nodup) : cDictT [.lst (ps.map fun p => D.tup [tupD p, .int (f p)])] = some (.f (.dct (dctOf ps f))) := by
  unfold cDictT
  simp only [pairsT_tups]
  have := fill_new (f := f) ps [] (by simpa using h)
  rw [show dctOf [] f = [] from rfl] at this
  rw [this]; rfl
theorem dlook_dct {ps : List (List Int)} {f : List Int → Int} {q : List Int} (h : q ∈ ps) : dlook (.dct (dctOf ps f)) (tupD q) = some (some (.int (f q))) := by
  unfold dlook
  simp only [keysOf_tup, look_dct h]
theorem gIxA_dct {ps : List (List Int)} {f : List Int → Int} {q : List Int} (h : q ∈ ps) : gIxA (.dct (dctOf ps f)) (tupD q) = some (.d (.int (f q))) := by
  have e : gIx (.dct (dctOf ps f)) (tupD q) = none := rfl
  unfold gIxA gOr
  rw [e]
  unfold gIxDict
  rw [dlook_dct h]
theorem store_dct {ps : List (List Int)} {f : List Int → Int} {q : List Int} {v : Int} (h : q ∈ ps) (hs : ps.length ≤ 1000) : istore (.dct (dctOf ps f)) (tupD q) (.int v) = some (.dct (dctOf ps (fun p => if p = q then v else f p))) := by
  show (match keysOf (tupD q) with | some _ => if small ((dctOf ps f).length + 1) then some (D.dct (dput tEq (dctOf ps f) (tupD q) (.int v))) else none | none => none) = _
  rw [keysOf_tup]
  have : small ((dctOf ps f).length + 1) = true := small_of (by unfold dctOf; rw [List.length_map]; omega)
  simp only [this, if_true, put_dct h]
/-- bumping -/
theorem bump_count {qs : List (List Int)} {q : List Int} : (fun p => if p = q then ((qs.count q : Nat) : Int) + 1 else ((qs.count p : Nat) : Int)) = fun p => (((qs ++ [q]).count p : Nat) : Int) := by
  funext p
  rw [List.count_append]
  by_cases e : p = q
  · subst e
    rw [if_pos rfl]
    simp
  · rw [if_neg e]
    have : [q].count p = 0 := List.count_eq_zero.mpr (by simpa using e)
    rw [this]; simp
end Gk30
set_option maxHeartbeats 4000000
namespace Gk30
open PySem L2 PL
theorem loop_pre {α : Type} {tg : Pd → Rho → Rs Unit} {body : Sx} (emb : α → D) (st : List α → Rho) {all : List α} (h : ∀ pre x post, all = pre ++ x :: post → ∃ ρ1, tg (.d (emb x)) (st pre) = .ok () ρ1 ∧ body ρ1 = .ok .nx (st (pre ++ [x]))) :
    loopG tg body (all.map emb) (st []) = .ok .nx (st all) := by
  have key : ∀ (ds pre : List α), all = pre ++ ds → loopG tg body (ds.map emb) (st pre) = .ok .nx (st all) := fun ds => by
    induction ds with
    | nil => intro pre e; rw [List.append_nil] at e; subst e; rfl
    | cons x ds ih =>
      intro pre e
      obtain ⟨ρ1, e1, e2⟩ := h pre x ds e
      rw [List.map_cons, loop_cons e1 e2]
      exact ih (pre ++ [x]) (by rw [e]; simp)
  exact key all [] rfl
/-- the slot of a loop's name -/
def lastS {α : Type} (emb : α → D) (pre : List α) : Sl := match pre.getLast? with
  | some x => .dat (emb x)
  | none => .un
theorem lastS_snoc {α : Type} (emb : α → D) (pre : List α) (x : α) : lastS emb (pre ++ [x]) = .dat (emb x) := by
  unfold lastS; simp
@[simp] theorem lastS_lent {α : Type} (emb : α → D) (pre : List α) : isLent (some (lastS emb pre)) = false := by
  unfold lastS; cases pre.getLast? <;> rfl
@[simp] theorem lastS_nil {α : Type} (emb : α → D) : lastS emb [] = .un := rfl
/-- a row of pairs -/
def rowP (m i : Nat) : List (List Int) := (List.range' (i + 1) (m - (i + 1))).map fun j => [((i : Nat) : Int), ((j : Nat) : Int)]
theorem prs_row (m : Nat) : prs m = (List.range m).flatMap (rowP m) := rfl
theorem flat_len {α β : Type} {f : α → List β} {k : Nat} (h : ∀ x, (f x).length ≤ k) : ∀ xs : List α, (xs.flatMap f).length ≤ xs.length * k
  | [] => by simp
  | x :: xs => by
    rw [List.flatMap_cons, List.length_append, List.length_cons, Nat.succ_mul]
    have := h x
    have := flat_len h xs
    omega
theorem row_len (m i : Nat) : (rowP m i).length ≤ m := by
  unfold rowP; rw [List.length_map, List.length_range']; omega
theorem prs_len (m : Nat) : (prs m).length ≤ m * m := by
  rw [prs_row]
  have := flat_len (row_len m) (List.range m)
  rw [List.length_range] at this
  exact this
theorem rng2_eq (i m : Nat) : rngD ((i : Int) + 1) ((m : Int) - ((i : Int) + 1)).toNat = (List.range' (i + 1) (m - (i + 1))).map fun j => D.int ((j : Nat) : Int) := by
  unfold rngD
  have : ((m : Int) - ((i : Int) + 1)).toNat = m - (i + 1) := by omega
  rw [this, List.range'_eq_map_range, List.map_map]
  refine List.map_congr_left fun k _ => ?_
  simp
theorem rng1_eq (m : Nat) : rngD 0 m = (List.range m).map fun j => D.int ((j : Nat) : Int) := by
  unfold rngD
  refine List.map_congr_left fun k _ => ?_
  simp
theorem gadd_i (i j : Int) : gAdd (.int i) (.int j) = some (.d (.int (i + j))) := rfl
theorem gsub_i (i j : Int) : gSub (.int i) (.int j) = some (.d (.int (i - j))) := rfl
theorem inl_of {i : Int} (h1 : -1000 ≤ i) (h2 : i ≤ 1000) : inLine i = true := by
  unfold inLine
  first
    | exact decide_eq_true (by omega)
    | (simp; omega)
theorem run_o {N : Nat} {io : Option Nat} {b : Sx} {ds : List D} {ρ ρ0 : Rho} {i : Nat} {s : Sl} {d : D} (h0 : rho0 io N ds = ρ0) (h : b ρ0 = .ok (.rt (.o i)) ρ) (hn : io ≠ some i) (hd : ρ[i]? = some s) (hh : s.held = some d) : runF N io b ds = .ok d true (outOf io ρ) := by
  subst h0
  unfold runF
  rw [h]
  simp [hn, hd, hh]
theorem seq_nx {s t : Sx} {ρ ρ1 : Rho} (h : s ρ = .ok .nx ρ1) : sSeq s t ρ = t ρ1 := by
  rw [ev_seq, h]
theorem ext_step {j : Nat} {r : Ex} {ρ ρ1 : Rho} {xs ys : List D} {zs : List D} (h0 : ρ[j]? = some (.own (.lst zs))) (h1 : r ρ = .ok (.f (.lst ys)) ρ1) (h2 : ρ1[j]? = some (.own (.lst xs))) (hs : xs.length + ys.length ≤ 16777216) :
    sExpr (eMeth j mExt (aCons r aNil)) ρ = .ok .nx (ρ1.set j (.own (.lst (xs ++ ys)))) := by
  have hx : mExt (.lst xs) [.lst ys] = some (.non, .lst (xs ++ ys)) := by
    show (if small (xs.length + ys.length) = true then _ else _) = _
    rw [if_pos (small_of hs)]
  simp [eMeth, h0, h1, h2, hx]
theorem rng1_run {r : Rho → Rs (List Ag)} {ρ ρ1 : Rho} {j : Int} (h : r ρ = .ok [.d (.int j)] ρ1) (h2 : inLine j = true) : itRng1 r ρ = .ok (rngD 0 j.toNat, none) ρ1 := by
  have e : itRng1 r ρ = (r ρ).bind fun as ρ1 => match as with
    | [.d (.int j)] => if inLine j then .ok (rngD 0 j.toNat, none) ρ1 else .bad
    | _ => .bad := rfl
  rw [e, h]
  exact if_pos h2
theorem rng2_run {r : Rho → Rs (List Ag)} {ρ ρ1 : Rho} {i j : Int} (h : r ρ = .ok [.d (.int i), .d (.int j)] ρ1) (h1 : inLine i = true) (h2 : inLine j = true) : itRng2 r ρ = .ok (rngD i (j - i).toNat, none) ρ1 := by
  have e : itRng2 r ρ = (r ρ).bind fun as ρ1 => match as with
    | [.d (.int i), .d (.int j)] => if inLine i && inLine j then .ok (rngD i (j - i).toNat, none) ρ1 else .bad
    | _ => .bad := rfl
  rw [e, h]
  exact if_pos (by rw [h1, h2]; rfl)
def pTo (m : Nat) (pre : List Nat) (s : Sl) : Rho := [.dat (.int m), .own (.lst ((pre.flatMap (rowP m)).map tupD)), s, .un]
def pRow : Ex := eComp (itRng2 (aCons (eBin gAdd (eVar 2) (eK (.int 1))) (aCons (eVar 0) aNil))) (.one 3) tYesP (eTup (aCons (eVar 2) (aCons (eVar 3) aNil)))
theorem pRow_run {m i : Nat} (pre : List Nat) (hi : i < m) (hm : m ≤ 100) : pRow (pTo m pre (.dat (.int i))) = .ok (.f (.lst ((rowP m i).map tupD))) (pTo m pre (.dat (.int i))) := by
  have hc := comp_map (ct := .one 3) (it := itRng2 (aCons (eBin gAdd (eVar 2) (eK (.int 1))) (aCons (eVar 0) aNil))) (elt := eTup (aCons (eVar 2) (aCons (eVar 3) aNil))) (ρ := pTo m pre (.dat (.int i)))
    (ds := (List.range' (i + 1) (m - (i + 1))).map fun j => D.int ((j : Nat) : Int)) (fun d => (pTo m pre (.dat (.int i))).set 3 (.dat d)) (fun d => .tup [.int i, d]) (by
      have h1 : inLine ((i : Int) + 1) = true := inl_of (by omega) (by omega)
      have h2 : inLine (m : Int) = true := inl_of (by omega) (by omega)
      rw [← rng2_eq]
      exact rng2_run (by simp [gadd_i, pTo]) h1 h2) rfl rfl rfl (fun d hd => by
      refine ⟨rfl, rfl, .d (.tup [.int i, d]), ?_, rfl⟩
      simp [pTo, small]) (small_of (by rw [List.length_map, List.length_range']; omega))
  have hmap : ((List.range' (i + 1) (m - (i + 1))).map fun j => D.int ((j : Nat) : Int)).map (fun d => D.tup [.int i, d]) = (rowP m i).map tupD := by
    unfold rowP
    rw [List.map_map, List.map_map]
    rfl
  rw [hmap] at hc
  exact hc
theorem pLoop {m : Nat} (hm : m ≤ 100) : loopG (gS false 2) (sExpr (eMeth 1 mExt (aCons pRow aNil))) ((List.range m).map fun i : Nat => D.int i) (pTo m [] (lastS (fun i : Nat => .int i) [])) = .ok .nx (pTo m (List.range m) (lastS (fun i : Nat => .int i) (List.range m))) := by
  refine loop_pre (α := Nat) (fun i => .int i) (fun pre => pTo m pre (lastS (fun i : Nat => .int i) pre)) (all := List.range m) fun pre i post e => ?_
  have hi : i < m := List.mem_range.mp (by rw [e]; simp)
  have hpl : pre.length ≤ m := by
    have := congrArg List.length e
    rw [List.length_range, List.length_append] at this
    omega
  refine ⟨pTo m pre (.dat (.int i)), by simp [pTo], ?_⟩
  rw [lastS_snoc]
  have q := ext_step (j := 1) (r := pRow) (ρ := pTo m pre (.dat (.int i))) (zs := (pre.flatMap (rowP m)).map tupD) (xs := (pre.flatMap (rowP m)).map tupD) rfl (pRow_run pre hi hm) rfl (by
    rw [List.length_map, List.length_map]
    have := flat_len (row_len m) pre
    have := row_len m i
    have h3 : pre.length * m ≤ 100 * 100 := Nat.mul_le_mul (by omega) hm
    omega)
  rw [q]
  unfold pTo
  simp
theorem pairs_run {m : Nat} (hm : m ≤ 100) : (sSeq (sAsg (eLst aNil) (gS true 1))
  (sSeq (sFor (itRng1 (aCons (eVar 0) aNil)) (gS false 2) (sExpr (eMeth 1 mExt (aCons (eComp (itRng2 (aCons (eBin gAdd (eVar 2) (eK (.int 1))) (aCons (eVar 0) aNil))) (.one 3) tYesP (eTup (aCons (eVar 2) (aCons (eVar 3) aNil)))) aNil))))
  (sRet (eVar 1)))) [.dat (.int m), .un, .un, .un] = .ok (.rt (.o 1)) (pTo m (List.range m) (lastS (fun i : Nat => .int i) (List.range m))) := by
  have h2 : inLine (m : Int) = true := inl_of (by omega) (by omega)
  have a1 : sAsg (eLst aNil) (gS true 1) [.dat (.int m), .un, .un, .un] = .ok .nx (pTo m [] (lastS (fun i : Nat => .int i) [])) := by simp [pTo, small]
  have it : itRng1 (aCons (eVar 0) aNil) (pTo m [] (lastS (fun i : Nat => .int i) [])) = .ok ((List.range m).map (fun i : Nat => D.int i), none) (pTo m [] (lastS (fun i : Nat => .int i) [])) := by
    have := rng1_run (r := aCons (eVar 0) aNil) (ρ := pTo m [] (lastS (fun i : Nat => .int i) [])) (ρ1 := pTo m [] (lastS (fun i : Nat => .int i) [])) (j := (m : Int)) (by simp [pTo]) h2
    rw [this, Int.toNat_natCast, rng1_eq]
  refine (seq_nx a1).trans ((seq_nx (for_none it (pLoop hm))).trans ?_)
  simp [pTo]
theorem e1 {m : Nat} : rho0 none 4 [D.int m] = [.dat (.int m), .un, .un, .un] := rfl
theorem p_law_pairs {m : Nat} (hm : m ≤ 100) : m_law_all_pairs [.int m] = .ok (.lst ((prs m).map tupD)) true .non :=
  run_o (b := b_law_all_pairs) e1 (pairs_run hm) (fun z => nomatch z) rfl rfl
theorem p_pairs {m : Nat} (hm : m ≤ 100) : m_all_pairs [.int m] = .ok (.lst ((prs m).map tupD)) true .non :=
  run_o (b := b_all_pairs) e1 (pairs_run hm) (fun z => nomatch z) rfl rfl
end Gk30
set_option maxHeartbeats 4000000
namespace Gk30
open PySem L2 PL
theorem ixt0 (x y z : D) : gIx (.tup [x, y, z]) (.int 0) = some (.d x) := rfl
theorem ixt1 (x y z : D) : gIx (.tup [x, y, z]) (.int 1) = some (.d y) := rfl
theorem ixt2 (x y z : D) : gIx (.tup [x, y, z]) (.int 2) = some (.d z) := rfl
theorem tup3 (a b c : Int) : tupD [a, b, c] = .tup [.int a, .int b, .int c] := rfl
theorem tup2 (a b : Int) : tupD [a, b] = .tup [.int a, .int b] := rfl
theorem run_f {N : Nat} {io : Option Nat} {b : Sx} {ds : List D} {ρ ρ0 : Rho} {d : D} (h0 : rho0 io N ds = ρ0) (h : b ρ0 = .ok (.rt (.f d)) ρ) : runF N io b ds = .ok d true (outOf io ρ) := by
  subst h0
  unfold runF
  rw [h]
theorem run_d {N : Nat} {io : Option Nat} {b : Sx} {ds : List D} {ρ ρ0 : Rho} {d : D} (h0 : rho0 io N ds = ρ0) (h : b ρ0 = .ok (.rt (.d d)) ρ) : runF N io b ds = .ok d false (outOf io ρ) := by
  subst h0
  unfold runF
  rw [h]
theorem p_in (a b c : Int) : m_law_in [tupD [a, b, c]] = .ok (.lst ((pr [a, b, c]).map tupD)) true .non :=
  run_f (b := b_law_in) (ρ0 := [.dat (tupD [a, b, c])]) (ρ := [.dat (tupD [a, b, c])]) rfl (by simp [b_law_in, tup3, tup2, ixt0, ixt1, ixt2, small, pr])
theorem p_prs3 (a b c : Int) : m_pairs_of_triple [tupD [a, b, c]] = .ok (.lst ((pr [a, b, c]).map tupD)) true .non :=
  run_f (b := b_pairs_of_triple) (ρ0 := [.dat (tupD [a, b, c])]) (ρ := [.dat (tupD [a, b, c])]) rfl (by simp [b_pairs_of_triple, tup3, tup2, ixt0, ixt1, ixt2, small, pr])
/-- counting: the state -/
def cSt (m : Nat) (ts qs : List (List Int)) (s2 s3 : Sl) : Rho := [.dat (LOT m ts), .own (.dct (dctOf (prs m) fun p => ((qs.count p : Nat) : Int))), s2, s3]
theorem one_law {m : Nat} (hm : m ≤ 30) {ts qs : List (List Int)} {s2 : Sl} {q : List Int} (hq : q ∈ prs m) : sAsg (eBin gAdd (eBin gIxA (eVar 1) (eVar 3)) (eK (.int 1))) (gItemA 1 (eVar 3)) (cSt m ts qs s2 (.dat (tupD q))) = .ok .nx (cSt m ts (qs ++ [q]) s2 (.dat (tupD q))) := by
  have hl : (prs m).length ≤ 1000 := by
    have := prs_len m
    have h3 : m * m ≤ 30 * 30 := Nat.mul_le_mul hm hm
    omega
  have e2 := store_dct (f := fun p => ((qs.count p : Nat) : Int)) (v := ((qs.count q : Nat) : Int) + 1) hq hl
  have e3 : (fun p => if p = q then ((qs.count q : Nat) : Int) + 1 else ((qs.count p : Nat) : Int)) = fun p => (((qs ++ [q]).count p : Nat) : Int) := bump_count
  rw [e3] at e2
  have e1 := gIxA_dct (f := fun p => ((qs.count p : Nat) : Int)) hq
  have h1 : eBin gAdd (eBin gIxA (eVar 1) (eVar 3)) (eK (.int 1)) (cSt m ts qs s2 (.dat (tupD q))) = .ok (.d (.int (((qs.count q : Nat) : Int) + 1))) (cSt m ts qs s2 (.dat (tupD q))) := by
    simp only [cSt, ev_bin, ev_var, ev_k, List.getElem?_cons_succ, List.getElem?_cons_zero, bind_ok, ev_op2, get_o, get_d, held_own, e1, gadd_i]
  rw [ev_asg, h1, bind_ok]
  have h2 : gItemA 1 (eVar 3) (.d (.int (((qs.count q : Nat) : Int) + 1))) (cSt m ts qs s2 (.dat (tupD q))) = .ok () (cSt m ts (qs ++ [q]) s2 (.dat (tupD q))) := by
    simp only [gItemA, cSt, dat_d, ev_var, List.getElem?_cons_succ, List.getElem?_cons_zero, get_d, e2]
    rfl
  rw [h2, bind_ok]
theorem one_prog {m : Nat} (hm : m ≤ 30) {ts qs : List (List Int)} {s2 : Sl} {q : List Int} (hq : q ∈ prs m) : sAugD (fun i j => i + j) 1 (eVar 3) (eK (.int 1)) (cSt m ts qs s2 (.dat (tupD q))) = .ok .nx (cSt m ts (qs ++ [q]) s2 (.dat (tupD q))) := by
  have hl : (prs m).length ≤ 1000 := by
    have := prs_len m
    have h3 : m * m ≤ 30 * 30 := Nat.mul_le_mul hm hm
    omega
  have e2 := store_dct (f := fun p => ((qs.count p : Nat) : Int)) (v := ((qs.count q : Nat) : Int) + 1) hq hl
  have e3 : (fun p => if p = q then ((qs.count q : Nat) : Int) + 1 else ((qs.count p : Nat) : Int)) = fun p => (((qs ++ [q]).count p : Nat) : Int) := bump_count
  rw [e3] at e2
  have e1 := dlook_dct (f := fun p => ((qs.count p : Nat) : Int)) hq
  simp only [sAugD, cSt, ev_var, ev_k, List.getElem?_cons_succ, List.getElem?_cons_zero, bind_ok, get_d, e1, e2]
  rfl
/-- both loops -/
theorem count_in {one : Sx} {m : Nat} (h1 : ∀ {ts qs : List (List Int)} {s2 : Sl} {q : List Int}, q ∈ prs m → one (cSt m ts qs s2 (.dat (tupD q))) = .ok .nx (cSt m ts (qs ++ [q]) s2 (.dat (tupD q)))) {ts qs : List (List Int)} {s2 s3 : Sl} (hs : isLent (some s3) = false) {t : List Int} (ht : ∀ q ∈ pr t, q ∈ prs m) :
    ∃ s3', isLent (some s3') = false ∧ loopG (gS false 3) one ((pr t).map tupD) (cSt m ts qs s2 s3) = .ok .nx (cSt m ts (qs ++ pr t) s2 s3') := by
  refine ⟨match (pr t).getLast? with | some x => .dat (tupD x) | none => s3, by cases (pr t).getLast? <;> first | exact hs | rfl, ?_⟩
  have := loop_pre (tg := gS false 3) (body := one) tupD (fun pre => cSt m ts (qs ++ pre) s2 (match pre.getLast? with | some x => .dat (tupD x) | none => s3)) (all := pr t) fun pre x post e => by
    refine ⟨cSt m ts (qs ++ pre) s2 (.dat (tupD x)), ?_, ?_⟩
    · cases pre.getLast? with
      | none => simp [cSt, hs]
      | some y => simp [cSt]
    · rw [h1 (ht x (by rw [e]; simp))]
      simp [List.append_assoc]
  simpa using this
theorem count_loop {one : Sx} {fin : FT} {m : Nat} (h1 : ∀ {ts qs : List (List Int)} {s2 : Sl} {q : List Int}, q ∈ prs m → one (cSt m ts qs s2 (.dat (tupD q))) = .ok .nx (cSt m ts (qs ++ [q]) s2 (.dat (tupD q)))) (hf : ∀ a b c : Int, fin [tupD [a, b, c]] = .ok (.lst ((pr [a, b, c]).map tupD)) true .non)
    {ts : List (List Int)} (ht : ∀ t ∈ ts, VT m t) : ∃ s2 s3, loopG (gS false 2) (sFor (itSeq (eCall 1 none fin (argsN 1) (aCons (eVar 2) aNil))) (gS false 3) one) (ts.map tupD) (cSt m ts [] .un .un) = .ok .nx (cSt m ts (ts.flatMap pr) s2 s3) := by
  have key : ∀ (ds pre : List (List Int)) (s2 s3 : Sl), isLent (some s2) = false → isLent (some s3) = false → ts = pre ++ ds → ∃ s2' s3', loopG (gS false 2) (sFor (itSeq (eCall 1 none fin (argsN 1) (aCons (eVar 2) aNil))) (gS false 3) one) (ds.map tupD) (cSt m ts (pre.flatMap pr) s2 s3) = .ok .nx (cSt m ts (ts.flatMap pr) s2' s3') := fun ds => by
    induction ds with
    | nil => intro pre s2 s3 _ _ e; rw [List.append_nil] at e; rw [← e]; exact ⟨s2, s3, rfl⟩
    | cons t ds ih =>
      intro pre s2 s3 n2 n3 e
      have hv : VT m t := ht t (by rw [e]; simp)
      have hp : ∀ q ∈ pr t, q ∈ prs m := fun q hq => pr_mem hv hq
      obtain ⟨s3', n3', e3⟩ := count_in h1 (ts := ts) (qs := pre.flatMap pr) (s2 := .dat (tupD t)) n3 hp
      obtain ⟨a, b, c, rfl, _⟩ := hv
      have hit : itSeq (eCall 1 none fin (argsN 1) (aCons (eVar 2) aNil)) (cSt m ts (pre.flatMap pr) (.dat (tupD [a, b, c])) s3) = .ok ((pr [a, b, c]).map tupD, none) (cSt m ts (pre.flatMap pr) (.dat (tupD [a, b, c])) s3) := by
        simp [cSt, hf]
      have hset : gS false 2 (.d (tupD [a, b, c])) (cSt m ts (pre.flatMap pr) s2 s3) = .ok () (cSt m ts (pre.flatMap pr) (.dat (tupD [a, b, c])) s3) := by
        simp [cSt, n2]
      rw [List.map_cons, loop_cons hset (for_none hit e3)]
      have := ih (pre ++ [[a, b, c]]) (.dat (tupD [a, b, c])) s3' rfl n3' (by rw [e]; simp)
      simpa using this
  simpa using key ts [] .un .un rfl rfl rfl
def zf : List Int → Int := fun _ => 0
theorem dcomp_zero {ρ : Rho} {i : Nat} (hu : ρ[i]? = some .un) : ∀ (ps acc : List (List Int)), (acc ++ ps).Nodup → dcompG (.one i) tYesP (eVar i) (eK (.int 0)) (ps.map tupD) ρ (dctOf acc zf) = .ok (dctOf (acc ++ ps) zf) ρ
  | [], acc, _ => by simp [dcompG]
  | p :: ps, acc, h => by
    have hl : i < ρ.length := (List.getElem?_eq_some_iff.mp hu).1
    have hn : p ∉ acc := by
      rw [List.nodup_append] at h
      exact fun z => h.2.2 p z p (by simp) rfl
    have h2 : (acc ++ [p] ++ ps).Nodup := by simpa using h
    have w : wipeR (ρ.set i (.dat (tupD p))) [i] = ρ := by
      show ((ρ.set i (.dat (tupD p)))).set i .un = ρ
      rw [List.set_set]
      apply List.ext_getElem?
      intro k
      by_cases z : i = k
      · subst z; rw [List.getElem?_set_self hl, hu]
      · rw [List.getElem?_set_ne z]
    have ev : eVar i (ρ.set i (.dat (tupD p))) = .ok (.d (tupD p)) (ρ.set i (.dat (tupD p))) := by
      rw [ev_var, List.getElem?_set_self hl]
    have pn := put_new (f := zf) hn
    have rest := dcomp_zero hu ps (acc ++ [p]) h2
    rw [List.map_cons]
    have e : dcompG (.one i) tYesP (eVar i) (eK (.int 0)) (tupD p :: ps.map tupD) ρ (dctOf acc zf) = (match eVar i (ρ.set i (.dat (tupD p))) with
        | .ok pk ρ3 => (match pk.dat with
          | some k => (match keysOf k with
                | some _ => dcompG (.one i) tYesP (eVar i) (eK (.int 0)) (ps.map tupD) (wipeR ρ3 [i]) (dput tEq (dctOf acc zf) k (.int 0))
                | none => .bad)
          | none => .bad)
        | _ => .bad) := rfl
    rw [e, ev]
    show (match keysOf (tupD p) with | some _ => dcompG (.one i) tYesP (eVar i) (eK (.int 0)) (ps.map tupD) (wipeR (ρ.set i (.dat (tupD p))) [i]) (dput tEq (dctOf acc zf) (tupD p) (.int (zf p))) | none => .bad) = _
    rw [keysOf_tup, w, pn, rest]
    simp
theorem dcomp_run {it : Itx} {ct : CT} {cond : Rho → Rs Bool} {tk tv : Ex} {ρ : Rho} {ds : List D} {out : List (D × D)} (hi : it ρ = .ok (ds, none) ρ) (hf : freeR ρ ct.slots = true) (hw : wipeR ρ ct.slots = ρ) (hr : restR ρ ct.slots ρ = ρ) (h : dcompG ct cond tk tv ds ρ [] = .ok out ρ) (hs : small (out.length + 1) = true) :
    eDComp it ct cond tk tv ρ = .ok (.f (.dct out)) ρ := by
  unfold eDComp
  rw [hi]
  show (if freeR ρ ct.slots then _ else _) = _
  rw [hf, if_pos rfl, hw, h]
  show (if small (out.length + 1) then _ else _) = _
  rw [hs, if_pos rfl]
  show Rs.ok (Pd.f (.dct _)) (restR ρ ct.slots ρ) = _
  rw [hr]
theorem ixl1 (m : Nat) (ts : List (List Int)) : gIx (LOT m ts) (.int 1) = some (.d (.int m)) := rfl
theorem ixl2 (m : Nat) (ts : List (List Int)) : gIx (LOT m ts) (.int 2) = some (.d (.tup (ts.map tupD))) := rfl
theorem it_call1 {f : FT} {m : Nat} {ts : List (List Int)} {xs : List D} {r : Rho} (hf : f [.int m] = .ok (.lst xs) true .non) : itSeq (eCall 1 none f (argsN 1) (aCons (eBin gIx (eVar 0) (eK (.int 1))) aNil)) (.dat (LOT m ts) :: r) = .ok (xs, none) (.dat (LOT m ts) :: r) := by
  simp [ixl1, hf]
theorem asg_dictT {C : Ex} {ρ : Rho} {xs : List D} {out : D} (h : C ρ = .ok (.f (.lst xs)) ρ) (hd : cDictT [.lst xs] = some (.f out)) (hl : isLent ρ[1]? = false) : sAsg (eCB cDictT (aCons C aNil)) (gS true 1) ρ = .ok .nx (ρ.set 1 (.own out)) := by
  simp [h, hd, hl]
theorem asg_own {C : Ex} {ρ : Rho} {out : D} (h : C ρ = .ok (.f out) ρ) (hl : isLent ρ[1]? = false) : sAsg C (gS true 1) ρ = .ok .nx (ρ.set 1 (.own out)) := by
  simp [h, hl]
theorem zero_counts (m : Nat) : dctOf (prs m) zf = dctOf (prs m) fun p => ((([] : List (List Int)).count p : Nat) : Int) := rfl
theorem prs_small {m : Nat} (hm : m ≤ 30) : (prs m).length ≤ 1000 := by
  have := prs_len m
  have h3 : m * m ≤ 30 * 30 := Nat.mul_le_mul hm hm
  omega
theorem p_law_counts {m : Nat} (hm : m ≤ 30) {ts : List (List Int)} (ht : ∀ t ∈ ts, VT m t) : m_law_counts [LOT m ts] = .ok (.dct (dctOf (prs m) (cn ts))) true .non := by
  obtain ⟨s2, s3, hl⟩ := count_loop (one := sAsg (eBin gAdd (eBin gIxA (eVar 1) (eVar 3)) (eK (.int 1))) (gItemA 1 (eVar 3))) (fin := m_law_in) (m := m) (fun h => one_law hm h) p_in ht
  have hc := comp_map (ct := .one 3) (it := itSeq (eCall 1 none m_law_all_pairs (argsN 1) (aCons (eBin gIx (eVar 0) (eK (.int 1))) aNil))) (elt := eTup (aCons (eVar 3) (aCons (eK (.int 0)) aNil))) (ρ := [.dat (LOT m ts), .un, .un, .un])
    (ds := (prs m).map tupD) (fun d => [.dat (LOT m ts), .un, .un, .dat d]) (fun d => .tup [d, .int 0]) (it_call1 (p_law_pairs (show m ≤ 100 by omega))) rfl rfl rfl (fun d hd => ⟨rfl, rfl, .d (.tup [d, .int 0]), by simp [small], rfl⟩) (small_of (by rw [List.length_map]; have := prs_small hm; omega))
  rw [List.map_map] at hc
  have hd := dictT_c (f := zf) (prs_nodup m)
  have a1 : sAsg (eCB cDictT (aCons (eComp (itSeq (eCall 1 none m_law_all_pairs (argsN 1) (aCons (eBin gIx (eVar 0) (eK (.int 1))) aNil))) (.one 3) tYesP (eTup (aCons (eVar 3) (aCons (eK (.int 0)) aNil)))) aNil)) (gS true 1) [.dat (LOT m ts), .un, .un, .un] = .ok .nx (cSt m ts [] .un .un) := by
    have hd' : cDictT [.lst ((prs m).map ((fun d => D.tup [d, .int 0]) ∘ tupD))] = some (.f (.dct (dctOf (prs m) zf))) := hd
    exact asg_dictT hc hd' rfl
  have it : itSeq (eBin gIx (eVar 0) (eK (.int 2))) (cSt m ts [] .un .un) = .ok (ts.map tupD, none) (cSt m ts [] .un .un) := by
    simp [cSt, ixl2]
  refine run_o (i := 1) (b := b_law_counts) (ρ0 := [.dat (LOT m ts), .un, .un, .un]) (ρ := cSt m ts (ts.flatMap pr) s2 s3) (s := .own (.dct (dctOf (prs m) (cn ts)))) rfl ?_ (fun z => nomatch z) rfl rfl
  exact (seq_nx a1).trans ((seq_nx (for_none it hl)).trans (by simp [cSt]))
theorem p_counts {m : Nat} (hm : m ≤ 30) {ts : List (List Int)} (ht : ∀ t ∈ ts, VT m t) : m_counts_of [LOT m ts] = .ok (.dct (dctOf (prs m) (cn ts))) true .non := by
  obtain ⟨s2, s3, hl⟩ := count_loop (one := sAugD (fun i j => i + j) 1 (eVar 3) (eK (.int 1))) (fin := m_pairs_of_triple) (m := m) (fun h => one_prog hm h) p_prs3 ht
  have hit : itSeq (eCall 1 none m_all_pairs (argsN 1) (aCons (eBin gIx (eVar 0) (eK (.int 1))) aNil)) [.dat (LOT m ts), .un, .un, .un] = .ok ((prs m).map tupD, none) [.dat (LOT m ts), .un, .un, .un] := it_call1 (p_pairs (show m ≤ 100 by omega))
  have hz := dcomp_zero (ρ := [.dat (LOT m ts), .un, .un, .un]) (i := 3) rfl (prs m) [] (by simpa using prs_nodup m)
  rw [List.nil_append] at hz
  have hd : eDComp (itSeq (eCall 1 none m_all_pairs (argsN 1) (aCons (eBin gIx (eVar 0) (eK (.int 1))) aNil))) (.one 3) tYesP (eVar 3) (eK (.int 0)) [.dat (LOT m ts), .un, .un, .un] = .ok (.f (.dct (dctOf (prs m) zf))) [.dat (LOT m ts), .un, .un, .un] := by
    exact dcomp_run (ct := .one 3) hit rfl rfl rfl hz (small_of (by unfold dctOf; rw [List.length_map]; have := prs_small hm; omega))
  have a1 : sAsg (eDComp (itSeq (eCall 1 none m_all_pairs (argsN 1) (aCons (eBin gIx (eVar 0) (eK (.int 1))) aNil))) (.one 3) tYesP (eVar 3) (eK (.int 0))) (gS true 1) [.dat (LOT m ts), .un, .un, .un] = .ok .nx (cSt m ts [] .un .un) := by
    exact asg_own hd rfl
  have it : itSeq (eBin gIx (eVar 0) (eK (.int 2))) (cSt m ts [] .un .un) = .ok (ts.map tupD, none) (cSt m ts [] .un .un) := by
    simp [cSt, ixl2]
  refine run_o (i := 1) (b := b_counts_of) (ρ0 := [.dat (LOT m ts), .un, .un, .un]) (ρ := cSt m ts (ts.flatMap pr) s2 s3) (s := .own (.dct (dctOf (prs m) (cn ts)))) rfl ?_ (fun z => nomatch z) rfl rfl
  exact (seq_nx a1).trans ((seq_nx (for_none it hl)).trans (by simp [cSt]))
end Gk30
set_option maxHeartbeats 4000000
namespace Gk30
open PySem L2 PL
def unt : D → List Int
  | .tup xs => (intsOf xs).getD []
  | _ => []
theorem unt_tup (p : List Int) : unt (tupD p) = p := by
  show (intsOf (p.map D.int)).getD [] = p
  rw [intsOf_map]; rfl
theorem filter_tup (g : List Int → Bool) : ∀ ps : List (List Int), (ps.map tupD).filter (fun d => g (unt d)) = (ps.filter g).map tupD
  | [] => rfl
  | p :: ps => by
    rw [List.map_cons, List.filter_cons, List.filter_cons, unt_tup, filter_tup g ps]
    split <;> rfl
theorem neOk_prs (m : Nat) : neOk (prs m) = true := List.all_eq_true.mpr fun p hp => by
  obtain ⟨a, b, rfl, _⟩ := mem_prs.mp hp
  rfl
theorem sortL_prs (m : Nat) : sortL (prs m) = prs m := (sortL_eq (List.Perm.refl _) ((prs_sorted m).imp fun h => lexI_asym _ _ h)).symm
theorem sort_dct (m : Nat) (f : List Int → Int) : cSortA [.dct (dctOf (prs m) f)] = some (.f (.lst ((prs m).map tupD))) := by
  have e1 : (dctOf (prs m) f).map (·.1) = (prs m).map tupD := by unfold dctOf; rw [List.map_map]; rfl
  have e2 : cSortD [.dct (dctOf (prs m) f)] = some (.f (.lst ((prs m).map tupD))) := by
    show (match tupsOf ((dctOf (prs m) f).map (·.1)) with | some nss => if neOk nss then some (Pd.f (.lst ((sortL nss).map tupD))) else none | none => none) = _
    rw [e1, tupsOf_map]
    show (if neOk (prs m) = true then _ else _) = _
    rw [if_pos (neOk_prs m), sortL_prs]
  exact e2
theorem asg_call {f : FT} {x d : D} {fr : Bool} {s : Sl} (hf : f [x] = .ok d fr .non) : sAsg (eCall 1 none f (argsN 1) (aCons (eVar 0) aNil)) (gS false 1) [.dat x, .un, s] = .ok .nx [.dat x, .dat d, s] := by
  cases fr <;> simp [hf]
theorem geq_i (i j : Int) : gEq (.int i) (.int j) = some (.d (.bl (i == j))) := by
  simp [gEq, eqD_int]
/-- pairs by their counts -/
theorem comp_left {it : Itx} {m : Nat} {ts : List (List Int)} {f : List Int → Int} (hm : m ≤ 30) (hi : it [.dat (LOT m ts), .dat (.dct (dctOf (prs m) f)), .un] = .ok ((prs m).map tupD, none) [.dat (LOT m ts), .dat (.dct (dctOf (prs m) f)), .un]) :
    eComp it (.one 2) (tB (eBin gEq (eBin gIxA (eVar 1) (eVar 2)) (eK (.int 0)))) (eVar 2) [.dat (LOT m ts), .dat (.dct (dctOf (prs m) f)), .un] = .ok (.f (.lst (((prs m).filter fun p => f p == 0).map tupD))) [.dat (LOT m ts), .dat (.dct (dctOf (prs m) f)), .un] := by
  have h := comp_gen (ct := .one 2) (cond := tB (eBin gEq (eBin gIxA (eVar 1) (eVar 2)) (eK (.int 0)))) (elt := eVar 2) (fun d => [.dat (LOT m ts), .dat (.dct (dctOf (prs m) f)), .dat d]) (fun d => (fun p => f p == 0) (unt d)) (fun d => d) hi rfl rfl rfl (fun d hd => by
    obtain ⟨p, hp, rfl⟩ := List.mem_map.mp hd
    refine ⟨rfl, rfl, ?_, fun _ => ⟨.d (tupD p), by simp, rfl⟩⟩
    simp [gIxA_dct hp, geq_i, unt_tup]) (small_of (by
      rw [List.length_map]
      have h1 := List.length_filter_le (fun d => (fun p => f p == 0) (unt d)) ((prs m).map tupD)
      rw [List.length_map] at h1
      have := prs_small hm
      omega))
  have ft := filter_tup (fun p => f p == 0) (prs m)
  simp only [List.map_id'] at h
  rw [show (List.filter (fun d => f (unt d) == 0) ((prs m).map tupD)) = ((prs m).filter fun p => f p == 0).map tupD from ft] at h
  exact h
theorem p_law_left {m : Nat} (hm : m ≤ 30) {ts : List (List Int)} (ht : ∀ t ∈ ts, VT m t) : m_law_left [LOT m ts] = .ok (.lst (((prs m).filter fun p => cn ts p == 0).map tupD)) true .non :=
  run_f (b := b_law_left) (ρ0 := [.dat (LOT m ts), .un, .un]) (ρ := [.dat (LOT m ts), .dat (.dct (dctOf (prs m) (cn ts))), .un]) rfl
    ((seq_nx (asg_call (p_law_counts hm ht))).trans (by
      rw [ev_ret, comp_left hm (it_call1 (p_law_pairs (show m ≤ 100 by omega)))]; rfl))
theorem p_left {m : Nat} (hm : m ≤ 30) {ts : List (List Int)} (ht : ∀ t ∈ ts, VT m t) : m_left_of [LOT m ts] = .ok (.lst (((prs m).filter fun p => cn ts p == 0).map tupD)) true .non :=
  run_f (b := b_left_of) (ρ0 := [.dat (LOT m ts), .un, .un]) (ρ := [.dat (LOT m ts), .dat (.dct (dctOf (prs m) (cn ts))), .un]) rfl
    ((seq_nx (asg_call (p_counts hm ht))).trans (by
      rw [ev_ret, comp_left hm (by simp [sort_dct])]; rfl))
/-! wide -/
def wide (m : Nat) (ts : List (List Int)) : Bool := (prs m).all fun p => !(cn ts p == 0)
theorem wide_filter (m : Nat) (ts : List (List Int)) : ((prs m).filter fun p => cn ts p == 0).isEmpty = wide m ts := by
  unfold wide
  induction prs m with
  | nil => rfl
  | cons p ps ih =>
    rw [List.filter_cons, List.all_cons, ← ih]
    cases cn ts p == 0 <;> rfl
theorem eq_nil_run {f : FT} {x : D} {xs : List (List Int)} {r : Rho} (hf : f [x] = .ok (.lst (xs.map tupD)) true .non) : eBin gEq (eCall 1 none f (argsN 1) (aCons (eVar 0) aNil)) (eLst aNil) (.dat x :: r) = .ok (.d (.bl xs.isEmpty)) (.dat x :: r) := by
  have h : gEq (.lst (xs.map tupD)) (.lst []) = some (.d (.bl xs.isEmpty)) := by
    have g : gdn 64 (.lst (xs.map tupD)) := gdn_lst fun d hd => by
      obtain ⟨i, _, rfl⟩ := List.mem_map.mp hd
      exact gdn_tupD i
    have e := eqD_nil g
    rw [show (xs.map tupD).isEmpty = xs.isEmpty by cases xs <;> rfl] at e
    simp [gEq, e]
  simp [hf, h, small]
theorem p_law_wide {m : Nat} (hm : m ≤ 30) {ts : List (List Int)} (ht : ∀ t ∈ ts, VT m t) : m_law_is_wide [LOT m ts] = .ok (.bl (wide m ts)) false .non :=
  run_d (b := b_law_is_wide) (ρ0 := [.dat (LOT m ts)]) (ρ := [.dat (LOT m ts)]) rfl (by
    unfold b_law_is_wide
    rw [ev_ret, eq_nil_run (p_law_left hm ht), wide_filter]; rfl)
theorem p_wide {m : Nat} (hm : m ≤ 30) {ts : List (List Int)} (ht : ∀ t ∈ ts, VT m t) : m_is_wide_of [LOT m ts] = .ok (.bl (wide m ts)) false .non :=
  run_d (b := b_is_wide_of) (ρ0 := [.dat (LOT m ts)]) (ρ := [.dat (LOT m ts)]) rfl (by
    unfold b_is_wide_of
    rw [ev_ret, eq_nil_run (p_left hm ht), wide_filter]; rfl)
end Gk30
set_option maxHeartbeats 4000000
namespace Gk30
open PySem L2 PL
/-! ### a lot without a triple; over; needless -/
theorem eqD_tup (p q : List Int) : eqD (tupD p) (tupD q) = some (decide (p = q)) := by
  rw [eqD_of (p := tupP p) (q := tupP q) (gdn_tupD p) (gdn_tupD q) (by simp [tupD, pyD, pyDs_ints, tupP]) (by simp [tupD, pyD, pyDs_ints, tupP])]
  simp [tupP, PyData.eqv, eqv_ints]
theorem gne_t (p q : List Int) : gNe (tupD p) (tupD q) = some (.d (.bl (!decide (p = q)))) := by
  simp [gNe, eqD_tup]
theorem head2 (m : Nat) (ts : List (List Int)) : gSl (LOT m ts) none (some 2) = some (.d (.tup [.str "lot", .int m])) := by
  have h := cut_to (xs := [D.str "lot", .int m, .tup (ts.map tupD)]) (k := 2)
  show some (Pd.d (.tup (cutD [D.str "lot", .int m, .tup (ts.map tupD)] none (some ((2 : Nat) : Int))))) = _
  rw [h]; rfl
theorem add_lot (m : Nat) (ts : List (List Int)) : gAdd (.tup [.str "lot", .int m]) (.tup [.tup (ts.map tupD)]) = some (.d (LOT m ts)) := rfl
theorem without_run {m : Nat} {ts : List (List Int)} (hl : ts.length ≤ 1000) (t : List Int) : (sRet (eBin gAdd (eSl (eVar 0) oNone (oSome (eK (.int 2)))) (eTup (aCons (eCB cTuple (aCons (eComp (itSeq (eBin gIx (eVar 0) (eK (.int 2)))) (.one 2) (tB (eBin gNe (eVar 2) (eVar 1))) (eVar 2)) aNil)) aNil))))
    [.dat (LOT m ts), .dat (tupD t), .un] = .ok (.rt (.d (LOT m (ts.filter fun u => !decide (u = t))))) [.dat (LOT m ts), .dat (tupD t), .un] := by
  have h := comp_gen (ct := .one 2) (it := itSeq (eBin gIx (eVar 0) (eK (.int 2)))) (cond := tB (eBin gNe (eVar 2) (eVar 1))) (elt := eVar 2) (ρ := [.dat (LOT m ts), .dat (tupD t), .un]) (ds := ts.map tupD) (fun d => [.dat (LOT m ts), .dat (tupD t), .dat d]) (fun d => (fun u => !decide (u = t)) (unt d)) (fun d => d) (by simp [ixl2]) rfl rfl rfl (fun d hd => by
    obtain ⟨p, hp, rfl⟩ := List.mem_map.mp hd
    refine ⟨rfl, rfl, ?_, fun _ => ⟨.d (tupD p), by simp, rfl⟩⟩
    simp [gne_t, unt_tup]) (small_of (by
      rw [List.length_map]
      have h1 := List.length_filter_le (fun d => (fun u => !decide (u = t)) (unt d)) (ts.map tupD)
      rw [List.length_map] at h1
      omega))
  have ft := filter_tup (fun u => !decide (u = t)) ts
  simp only [List.map_id'] at h
  rw [show (List.filter (fun d => !decide (unt d = t)) (ts.map tupD)) = (ts.filter fun u => !decide (u = t)).map tupD from ft] at h
  generalize hC : eComp (itSeq (eBin gIx (eVar 0) (eK (.int 2)))) (.one 2) (tB (eBin gNe (eVar 2) (eVar 1))) (eVar 2) = C at h ⊢
  have hb : ∀ xs : List D, cTuple [.lst xs] = some (.d (.tup xs)) := fun _ => rfl
  simp [head2, h, hb, small, add_lot]
theorem p_without {m : Nat} {ts : List (List Int)} (hl : ts.length ≤ 1000) (t : List Int) : m_without_triple [LOT m ts, tupD t] = .ok (LOT m (ts.filter fun u => !decide (u = t))) false .non :=
  run_d (b := b_without_triple) (ρ0 := [.dat (LOT m ts), .dat (tupD t), .un]) (ρ := [.dat (LOT m ts), .dat (tupD t), .un]) rfl (without_run hl t)
theorem p_law_without {m : Nat} {ts : List (List Int)} (hl : ts.length ≤ 1000) (t : List Int) : m_law_without [LOT m ts, tupD t] = .ok (LOT m (ts.filter fun u => !decide (u = t))) false .non :=
  run_d (b := b_law_without) (ρ0 := [.dat (LOT m ts), .dat (tupD t), .un]) (ρ := [.dat (LOT m ts), .dat (tupD t), .un]) rfl (without_run hl t)
/-- the over pairs -/
def overD (m : Nat) (ts : List (List Int)) : List D := ((prs m).filter fun p => decide (1 < cn ts p)).map fun p => .tup [tupD p, .int (cn ts p - 1)]
theorem g1_lt (i j : Int) : (g2I fun i j => .bl (decide (j < i))) (.int i) (.int j) = some (.d (.bl (decide (j < i)))) := rfl
theorem p_over_of {m : Nat} (hm : m ≤ 30) {ts : List (List Int)} (ht : ∀ t ∈ ts, VT m t) : m_over_of [LOT m ts] = .ok (.lst (overD m ts)) true .non := by
  have h := comp_gen (ct := .one 2) (it := itSeq (eCB cSortA (aCons (eVar 1) aNil))) (cond := tB (eBin (g2I fun i j => .bl (decide (j < i))) (eBin gIxA (eVar 1) (eVar 2)) (eK (.int 1)))) (elt := eTup (aCons (eVar 2) (aCons (eBin gSub (eBin gIxA (eVar 1) (eVar 2)) (eK (.int 1))) aNil)))
    (ρ := [.dat (LOT m ts), .dat (.dct (dctOf (prs m) (cn ts))), .un]) (ds := (prs m).map tupD) (fun d => [.dat (LOT m ts), .dat (.dct (dctOf (prs m) (cn ts))), .dat d]) (fun d => (fun p => decide (1 < cn ts p)) (unt d)) (fun d => .tup [d, .int (cn ts (unt d) - 1)]) (by simp [sort_dct]) rfl rfl rfl (fun d hd => by
    obtain ⟨p, hp, rfl⟩ := List.mem_map.mp hd
    refine ⟨rfl, rfl, ?_, fun _ => ⟨.d (.tup [tupD p, .int (cn ts p - 1)]), ?_, by rw [unt_tup]; rfl⟩⟩
    · simp [gIxA_dct hp, g1_lt, unt_tup]
    · simp [gIxA_dct hp, gsub_i, small]) (small_of (by
      rw [List.length_map]
      have h1 := List.length_filter_le (fun d => (fun p => decide (1 < cn ts p)) (unt d)) ((prs m).map tupD)
      rw [List.length_map] at h1
      have := prs_small hm
      omega))
  have ft := filter_tup (fun p => decide (1 < cn ts p)) (prs m)
  rw [ft, List.map_map] at h
  have e : ((prs m).filter fun p => decide (1 < cn ts p)).map ((fun d => D.tup [d, .int (cn ts (unt d) - 1)]) ∘ tupD) = overD m ts := by
    unfold overD
    refine List.map_congr_left fun p _ => ?_
    show D.tup [tupD p, .int (cn ts (unt (tupD p)) - 1)] = _
    rw [unt_tup]
  rw [e] at h
  exact run_f (b := b_over_of) (ρ0 := [.dat (LOT m ts), .un, .un]) (ρ := [.dat (LOT m ts), .dat (.dct (dctOf (prs m) (cn ts))), .un]) rfl ((seq_nx (asg_call (p_counts hm ht))).trans (by rw [ev_ret, h]; rfl))
end Gk30
set_option maxHeartbeats 4000000
namespace Gk30
open PySem L2 PL
theorem asg_call2 {f : FT} {x d : D} {fr : Bool} {r : Rho} (hf : f [x] = .ok d fr .non) : sAsg (eCall 1 none f (argsN 1) (aCons (eVar 0) aNil)) (gS false 1) (.dat x :: .un :: r) = .ok .nx (.dat x :: .dat d :: r) := by
  cases fr <;> simp [hf]
/-- the needless ones, by counts -/
def need (ts : List (List Int)) : List (List Int) := ts.filter fun t => (pr t).all fun p => decide (1 < cn ts p)
theorem need_cond {m : Nat} {ts : List (List Int)} {g : FT} (hg : ∀ a b c : Int, g [tupD [a, b, c]] = .ok (.lst ((pr [a, b, c]).map tupD)) true .non) {t : List Int} (hv : VT m t) :
    tB (eCB cAll (aCons (eComp (itSeq (eCall 1 none g (argsN 1) (aCons (eVar 2) aNil))) (.one 3) tYesP (eBin (g2I fun i j => .bl (decide (j < i))) (eBin gIxA (eVar 1) (eVar 3)) (eK (.int 1)))) aNil)) [.dat (LOT m ts), .dat (.dct (dctOf (prs m) (cn ts))), .dat (tupD t), .un]
      = .ok ((pr t).all fun p => decide (1 < cn ts p)) [.dat (LOT m ts), .dat (.dct (dctOf (prs m) (cn ts))), .dat (tupD t), .un] := by
  have hp : ∀ q ∈ pr t, q ∈ prs m := fun q hq => pr_mem hv hq
  have h3 : (pr t).length ≤ 3 := by
    obtain ⟨a, b, c, rfl, _⟩ := hv
    exact Nat.le_refl 3
  have hit : itSeq (eCall 1 none g (argsN 1) (aCons (eVar 2) aNil)) [.dat (LOT m ts), .dat (.dct (dctOf (prs m) (cn ts))), .dat (tupD t), .un] = .ok ((pr t).map tupD, none) [.dat (LOT m ts), .dat (.dct (dctOf (prs m) (cn ts))), .dat (tupD t), .un] := by
    obtain ⟨a, b, c, rfl, _⟩ := hv
    simp [hg]
  have h := comp_map (ct := .one 3) (elt := eBin (g2I fun i j => .bl (decide (j < i))) (eBin gIxA (eVar 1) (eVar 3)) (eK (.int 1))) (fun d => [.dat (LOT m ts), .dat (.dct (dctOf (prs m) (cn ts))), .dat (tupD t), .dat d]) (fun d => .bl ((fun p => decide (1 < cn ts p)) (unt d))) hit rfl rfl rfl (fun d hd => by
    obtain ⟨p, hp', rfl⟩ := List.mem_map.mp hd
    refine ⟨rfl, rfl, .d (.bl (decide (1 < cn ts p))), ?_, by rw [unt_tup]; rfl⟩
    simp [gIxA_dct (hp p hp'), g1_lt]) (small_of (by rw [List.length_map]; omega))
  rw [List.map_map] at h
  have e : (pr t).map ((fun d => D.bl ((fun p => decide (1 < cn ts p)) (unt d))) ∘ tupD) = (pr t).map fun p => D.bl (decide (1 < cn ts p)) := by
    refine List.map_congr_left fun p _ => ?_
    show D.bl (decide (1 < cn ts (unt (tupD p)))) = _
    rw [unt_tup]
  rw [e] at h
  generalize eComp (itSeq (eCall 1 none g (argsN 1) (aCons (eVar 2) aNil))) (.one 3) tYesP (eBin (g2I fun i j => .bl (decide (j < i))) (eBin gIxA (eVar 1) (eVar 3)) (eK (.int 1))) = C at h ⊢
  have ha : cAll [.lst ((pr t).map fun p => D.bl (decide (1 < cn ts p)))] = some (.d (.bl ((pr t).all fun p => decide (1 < cn ts p)))) := by
    have := blsOf_bl (fun p => decide (1 < cn ts p)) (pr t)
    simp only [cAll, cBools, this, List.all_map]
    rfl
  simp [h, ha]
theorem p_needless_of {m : Nat} (hm : m ≤ 30) {ts : List (List Int)} (hl : ts.length ≤ 1000) (ht : ∀ t ∈ ts, VT m t) : m_needless_of [LOT m ts] = .ok (.lst ((need ts).map tupD)) true .non := by
  have h := comp_gen (ct := .one 2) (it := itSeq (eBin gIx (eVar 0) (eK (.int 2)))) (cond := tB (eCB cAll (aCons (eComp (itSeq (eCall 1 none m_pairs_of_triple (argsN 1) (aCons (eVar 2) aNil))) (.one 3) tYesP (eBin (g2I fun i j => .bl (decide (j < i))) (eBin gIxA (eVar 1) (eVar 3)) (eK (.int 1)))) aNil))) (elt := eVar 2)
    (ρ := [.dat (LOT m ts), .dat (.dct (dctOf (prs m) (cn ts))), .un, .un]) (ds := ts.map tupD) (fun d => [.dat (LOT m ts), .dat (.dct (dctOf (prs m) (cn ts))), .dat d, .un]) (fun d => (fun t => (pr t).all fun p => decide (1 < cn ts p)) (unt d)) (fun d => d) (by simp [ixl2]) rfl rfl rfl (fun d hd => by
    obtain ⟨t, hp, rfl⟩ := List.mem_map.mp hd
    refine ⟨rfl, rfl, ?_, fun _ => ⟨.d (tupD t), by simp, rfl⟩⟩
    rw [unt_tup]
    exact need_cond p_prs3 (ht t hp)) (small_of (by
      rw [List.length_map]
      have h1 := List.length_filter_le (fun d => (fun t => (pr t).all fun p => decide (1 < cn ts p)) (unt d)) (ts.map tupD)
      rw [List.length_map] at h1
      omega))
  have ft := filter_tup (fun t => (pr t).all fun p => decide (1 < cn ts p)) ts
  rw [List.map_id', ft] at h
  exact run_f (b := b_needless_of) (ρ0 := [.dat (LOT m ts), .un, .un, .un]) (ρ := [.dat (LOT m ts), .dat (.dct (dctOf (prs m) (cn ts))), .un, .un]) rfl ((seq_nx (asg_call2 (p_counts hm ht))).trans (by rw [ev_ret, h]; rfl))
/-- the law's: those without which the lot is wide -/
def needL (m : Nat) (ts : List (List Int)) : List (List Int) := ts.filter fun t => wide m (ts.filter fun u => !decide (u = t))
theorem needL_cond {f g : FT} {x y z : D} {b : Bool} (hg : g [x, y] = .ok z false .non) (hf : f [z] = .ok (.bl b) false .non) : tB (eCall 1 none f (argsN 1) (aCons (eCall 2 none g (argsN 2) (aCons (eVar 0) (aCons (eVar 1) aNil))) aNil)) [.dat x, .dat y] = .ok b [.dat x, .dat y] := by
  simp [hg, hf]
theorem p_law_needless {m : Nat} (hm : m ≤ 30) {ts : List (List Int)} (hl : ts.length ≤ 1000) (ht : ∀ t ∈ ts, VT m t) : m_law_needless [LOT m ts] = .ok (.lst ((needL m ts).map tupD)) true .non := by
  have h := comp_gen (ct := .one 1) (it := itSeq (eBin gIx (eVar 0) (eK (.int 2)))) (cond := tB (eCall 1 none m_law_is_wide (argsN 1) (aCons (eCall 2 none m_law_without (argsN 2) (aCons (eVar 0) (aCons (eVar 1) aNil))) aNil))) (elt := eVar 1)
    (ρ := [.dat (LOT m ts), .un]) (ds := ts.map tupD) (fun d => [.dat (LOT m ts), .dat d]) (fun d => (fun t => wide m (ts.filter fun u => !decide (u = t))) (unt d)) (fun d => d) (by simp [ixl2]) rfl rfl rfl (fun d hd => by
    obtain ⟨t, hp, rfl⟩ := List.mem_map.mp hd
    refine ⟨rfl, rfl, ?_, fun _ => ⟨.d (tupD t), by simp, rfl⟩⟩
    rw [unt_tup]
    exact needL_cond (p_law_without hl t) (p_law_wide hm fun u hu => ht u (List.mem_filter.mp hu).1)) (small_of (by
      rw [List.length_map]
      have h1 := List.length_filter_le (fun d => (fun t => wide m (ts.filter fun u => !decide (u = t))) (unt d)) (ts.map tupD)
      rw [List.length_map] at h1
      omega))
  have ft := filter_tup (fun t => wide m (ts.filter fun u => !decide (u = t))) ts
  rw [List.map_id', ft] at h
  exact run_f (b := b_law_needless) (ρ0 := [.dat (LOT m ts), .un]) (ρ := [.dat (LOT m ts), .un]) rfl (by unfold b_law_needless; rw [ev_ret, h]; rfl)
end Gk30
set_option maxHeartbeats 4000000
namespace Gk30
open PySem L2 PL
/-! ### plain: needless by counts is needless by leaving out -/
abbrev wo (ts : List (List Int)) (t : List Int) : List (List Int) := ts.filter fun u => !decide (u = t)
theorem cn_cons (t : List Int) (ts : List (List Int)) (p : List Int) : cn (t :: ts) p = (((pr t).count p : Nat) : Int) + cn ts p := by
  unfold cn
  rw [List.flatMap_cons, List.count_append]
  omega
theorem cn_nonneg (ts : List (List Int)) (p : List Int) : 0 ≤ cn ts p := by unfold cn; omega
theorem wo_not {ts : List (List Int)} {t : List Int} (h : t ∉ ts) : wo ts t = ts := by
  refine List.filter_eq_self.mpr fun u hu => ?_
  have : u ≠ t := fun e => h (e ▸ hu)
  simp [this]
theorem cn_wo {t p : List Int} : ∀ {ts : List (List Int)}, ts.Nodup → t ∈ ts → cn ts p = (((pr t).count p : Nat) : Int) + cn (wo ts t) p
  | [], _, h => by cases h
  | u :: ts, hn, h => by
    rw [List.nodup_cons] at hn
    by_cases e : u = t
    · subst e
      have : wo (u :: ts) u = ts := by
        show List.filter _ (u :: ts) = ts
        rw [List.filter_cons_of_neg (by simp)]
        exact wo_not hn.1
      rw [this, cn_cons]
    · have ht : t ∈ ts := (List.mem_cons.mp h).resolve_left fun z => e z.symm
      have : wo (u :: ts) t = u :: wo ts t := List.filter_cons_of_pos (by simp [e])
      rw [this, cn_cons, cn_cons, cn_wo hn.2 ht]
      omega
theorem pr_nodup {m : Nat} {t : List Int} (h : VT m t) : (pr t).Nodup := by
  obtain ⟨a, b, c, rfl, h1, h2, h3, h4⟩ := h
  have e1 : b ≠ c := by omega
  have e2 : a ≠ b := by omega
  simp [pr, e1, e2]
theorem pr_count {m : Nat} {t p : List Int} (h : VT m t) : (pr t).count p = if p ∈ pr t then 1 else 0 := (pr_nodup h).count
theorem wide_iff {m : Nat} {ts : List (List Int)} : wide m ts = true ↔ ∀ p ∈ prs m, 1 ≤ cn ts p := by
  unfold wide
  rw [List.all_eq_true]
  refine forall_congr' fun p => forall_congr' fun _ => ?_
  have := cn_nonneg ts p
  simp
  omega
theorem need_iff {m : Nat} {ts : List (List Int)} (hw : wide m ts = true) (hn : ts.Nodup) {t : List Int} (hv : VT m t) (ht : t ∈ ts) : ((pr t).all fun p => decide (1 < cn ts p)) = wide m (wo ts t) := by
  rw [Bool.eq_iff_iff, List.all_eq_true, wide_iff]
  rw [wide_iff] at hw
  constructor
  · intro h p hp
    have e := cn_wo (p := p) hn ht
    rw [pr_count hv] at e
    by_cases hm : p ∈ pr t
    · have := of_decide_eq_true (h p hm)
      rw [if_pos hm] at e
      omega
    · rw [if_neg hm] at e
      have := hw p hp
      omega
  · intro h p hm
    have e := cn_wo (p := p) hn ht
    rw [pr_count hv, if_pos hm] at e
    have := h p (pr_mem hv hm)
    exact decide_eq_true (by omega)
theorem need_eq {m : Nat} {ts : List (List Int)} (hw : wide m ts = true) (hn : ts.Nodup) (hv : ∀ t ∈ ts, VT m t) : need ts = needL m ts := by
  unfold need needL
  refine List.filter_congr fun t ht => ?_
  exact need_iff hw hn (hv t ht) ht
/-- a lot that is looked at -/
structure Good (m : Nat) (ts : List (List Int)) : Prop where
  wi : wide m ts = true
  nd : ts.Nodup
  vt : ∀ t ∈ ts, VT m t
theorem mem_need {ts : List (List Int)} {t : List Int} : t ∈ need ts ↔ t ∈ ts ∧ ∀ p ∈ pr t, 1 < cn ts p := by
  unfold need
  rw [List.mem_filter, List.all_eq_true]
  simp
theorem Good.wo {m : Nat} {ts : List (List Int)} (g : Good m ts) {t : List Int} (h : t ∈ need ts) : Good m (wo ts t) := by
  have ht := (mem_need.mp h).1
  refine ⟨?_, g.nd.filter _, fun u hu => g.vt u (List.mem_filter.mp hu).1⟩
  rw [← need_iff g.wi g.nd (g.vt t ht) ht, List.all_eq_true]
  exact fun p hp => decide_eq_true ((mem_need.mp h).2 p hp)
/-- one step of the walk, and the walk -/
def stepS (ts : List (List Int)) (t : List Int) : List (List Int) := if decide (t ∈ need ts) = true then wo ts t else ts
def slim (ts : List (List Int)) (w : List (List Int)) : List (List Int) := w.foldl stepS ts
theorem stepS_good {m : Nat} {ts : List (List Int)} (g : Good m ts) (t : List Int) : Good m (stepS ts t) := by
  unfold stepS
  split
  · rename_i h; exact g.wo (of_decide_eq_true h)
  · exact g
theorem slim_good {m : Nat} : ∀ (w : List (List Int)) {ts : List (List Int)}, Good m ts → Good m (slim ts w)
  | [], _, g => g
  | t :: w, _, g => slim_good w (stepS_good g t)
theorem cn_step {m : Nat} {ts : List (List Int)} (g : Good m ts) (t p : List Int) : cn (stepS ts t) p ≤ cn ts p := by
  unfold stepS
  split
  · rename_i h
    have ht := (mem_need.mp (of_decide_eq_true h)).1
    have := cn_wo (p := p) g.nd ht
    omega
  · exact Int.le_refl _
theorem cn_slim {m : Nat} : ∀ (w : List (List Int)) {ts : List (List Int)} (p : List Int), Good m ts → cn (slim ts w) p ≤ cn ts p
  | [], _, _, _ => Int.le_refl _
  | t :: w, ts, p, g => Int.le_trans (cn_slim w (ts := stepS ts t) p (stepS_good g t)) (cn_step g t p)
theorem slim_sub : ∀ (w : List (List Int)) {ts : List (List Int)} {u : List Int}, u ∈ slim ts w → u ∈ ts
  | [], _, _, h => h
  | t :: w, ts, u, h => by
    have := slim_sub w (ts := stepS ts t) h
    unfold stepS at this
    split at this
    · exact (List.mem_filter.mp this).1
    · exact this
/-- what was walked over is not needless behind -/
theorem slim_need {m : Nat} : ∀ (w : List (List Int)) {ts : List (List Int)}, Good m ts → ∀ t ∈ w, t ∉ need (slim ts w)
  | [], _, _, t, h => by cases h
  | u :: w, ts, g, t, h => by
    rcases List.mem_cons.mp h with rfl | h
    · intro hn
      obtain ⟨h1, h2⟩ := mem_need.mp hn
      have h3 := slim_sub w (ts := stepS ts t) h1
      by_cases hd : t ∈ need ts
      · have : stepS ts t = wo ts t := by unfold stepS; rw [if_pos (decide_eq_true hd)]
        rw [this] at h3
        simp [wo] at h3
      · have e : stepS ts t = ts := by unfold stepS; rw [if_neg (by simpa using hd)]
        rw [e] at h3
        refine hd (mem_need.mpr ⟨h3, fun p hp => ?_⟩)
        have := h2 p hp
        have := cn_slim (t :: w) p g
        have e2 : slim ts (t :: w) = slim (stepS ts t) w := rfl
        omega
    · exact slim_need w (stepS_good g u) t h
theorem slim_none {m : Nat} {ts : List (List Int)} (g : Good m ts) : need (slim ts ts.reverse) = [] := by
  refine List.eq_nil_iff_forall_not_mem.mpr fun t ht => ?_
  have h1 := slim_sub _ (mem_need.mp ht).1
  exact slim_need _ g t (List.mem_reverse.mpr h1) ht
theorem slim_fix {ts : List (List Int)} (h : need ts = []) : ∀ w : List (List Int), slim ts w = ts
  | [] => rfl
  | t :: w => by
    have : stepS ts t = ts := by unfold stepS; rw [h]; simp
    show slim (stepS ts t) w = ts
    rw [this]
    exact slim_fix h w
end Gk30
set_option maxHeartbeats 4000000
namespace Gk30
open PySem L2 PL
theorem any_tup (t : List Int) : ∀ nss : List (List Int), ((nss.map tupP).any fun z => PyData.eqv z (tupP t)) = decide (t ∈ nss)
  | [] => rfl
  | n :: nss => by
    rw [List.map_cons, List.any_cons, any_tup t nss]
    have : PyData.eqv (tupP n) (tupP t) = decide (n = t) := by simp [tupP, PyData.eqv, eqv_ints]
    rw [this]
    by_cases e : n = t
    · subst e; simp
    · have : ¬ t = n := fun z => e z.symm
      simp [e, this]
theorem gin_tup (t : List Int) (nss : List (List Int)) : gIn (tupD t) (.lst (nss.map tupD)) = some (.d (.bl (decide (t ∈ nss)))) := by
  have e1 : pyD (tupD t) = some (tupP t) := by simp [tupD, pyD, pyDs_ints, tupP]
  have e2 := pyDs_tups nss
  have s1 : SeqAt.shaped (tupP t) = true := by
    obtain ⟨p, h1, h2⟩ := (gdn_tupD (n := 63) t).sh
    rw [e1] at h1; cases h1; exact h2
  have s2 : SeqAt.shaped (.list (nss.map tupP)) = true := by
    have g : gdn 64 (.lst (nss.map tupD)) := gdn_lst fun d hd => by
      obtain ⟨i, _, rfl⟩ := List.mem_map.mp hd
      exact gdn_tupD i
    obtain ⟨p, h1, h2⟩ := g.sh
    have e3 : pyD (.lst (nss.map tupD)) = some (.list (nss.map tupP)) := by simp [pyD, e2]
    rw [e3] at h1; cases h1; exact h2
  have h : inSeqD (tupD t) (nss.map tupD) = some (decide (t ∈ nss)) := by
    unfold inSeqD
    rw [e1, e2]
    simp only [s1, s2, Bool.and_self, if_true, any_tup]
  have h2 : gInSeq false (tupD t) (.lst (nss.map tupD)) = some (.d (.bl (decide (t ∈ nss)))) := by
    show (inSeqD (tupD t) (nss.map tupD)).map (fun b => Pd.d (.bl (if false = true then !b else b))) = _
    rw [h]; rfl
  unfold gIn gOr
  rw [h2]
theorem slim_step {f g : FT} {m : Nat} {ts : List (List Int)} {t : List Int} (hf : f [LOT m ts] = .ok (.lst ((need ts).map tupD)) true .non) (hg : g [LOT m ts, tupD t] = .ok (LOT m (wo ts t)) false .non) :
    sIf (tB (eBin gIn (eVar 1) (eCall 1 none f (argsN 1) (aCons (eVar 0) aNil)))) (sAsg (eCall 2 none g (argsN 2) (aCons (eVar 0) (aCons (eVar 1) aNil))) (gS false 0)) sNext [.dat (LOT m ts), .dat (tupD t)] = .ok .nx [.dat (LOT m (stepS ts t)), .dat (tupD t)] := by
  by_cases h : t ∈ need ts
  · have e : stepS ts t = wo ts t := by unfold stepS; rw [if_pos (decide_eq_true h)]
    rw [e]
    simp [hf, hg, gin_tup, h]
  · have e : stepS ts t = ts := by unfold stepS; rw [if_neg (by simpa using h)]
    rw [e]
    simp [hf, hg, gin_tup, h]
theorem rev_lot (ts : List (List Int)) : gRev (.tup (ts.map tupD)) = some (.d (.tup (ts.reverse.map tupD))) := by
  rw [List.map_reverse]; rfl
theorem slim_loop {f g : FT} {m : Nat} (hf : ∀ ts : List (List Int), ts.length ≤ 1000 → Good m ts → f [LOT m ts] = .ok (.lst ((need ts).map tupD)) true .non) (hg : ∀ (ts : List (List Int)) (t : List Int), ts.length ≤ 1000 → g [LOT m ts, tupD t] = .ok (LOT m (wo ts t)) false .non) :
    ∀ (w ts : List (List Int)) (s : Sl), isLent (some s) = false → ts.length ≤ 1000 → Good m ts → ∃ s', loopG (gS false 1) (sIf (tB (eBin gIn (eVar 1) (eCall 1 none f (argsN 1) (aCons (eVar 0) aNil)))) (sAsg (eCall 2 none g (argsN 2) (aCons (eVar 0) (aCons (eVar 1) aNil))) (gS false 0)) sNext) (w.map tupD) [.dat (LOT m ts), s] = .ok .nx [.dat (LOT m (slim ts w)), s']
  | [], ts, s, _, _, _ => ⟨s, rfl⟩
  | t :: w, ts, s, hs, hl, hgd => by
    have hset : gS false 1 (.d (tupD t)) [.dat (LOT m ts), s] = .ok () [.dat (LOT m ts), .dat (tupD t)] := by simp [hs]
    have hl2 : (stepS ts t).length ≤ 1000 := by
      unfold stepS
      split
      · exact Nat.le_trans (List.length_filter_le _ _) hl
      · exact hl
    obtain ⟨s', e⟩ := slim_loop hf hg w (stepS ts t) (.dat (tupD t)) rfl hl2 (stepS_good hgd t)
    refine ⟨s', ?_⟩
    rw [List.map_cons, loop_cons hset (slim_step (hf ts hl hgd) (hg ts t hl)), e]
    rfl
theorem p_slimmed_of {m : Nat} (hm : m ≤ 30) {ts : List (List Int)} (hl : ts.length ≤ 1000) (g : Good m ts) : m_slimmed_of [LOT m ts] = .ok (LOT m (slim ts ts.reverse)) false .non := by
  obtain ⟨s', e⟩ := slim_loop (f := m_needless_of) (g := m_without_triple) (m := m) (fun ts hl g => p_needless_of hm hl g.vt) (fun ts t hl => p_without hl t) ts.reverse ts .un rfl hl g
  have it : itSeq (eUn gRev (eBin gIx (eVar 0) (eK (.int 2)))) [.dat (LOT m ts), .un] = .ok (ts.reverse.map tupD, none) [.dat (LOT m ts), .un] := by
    have hr := rev_lot ts
    simp only [ev_itseq, ev_un, ev_bin, ev_var, ev_k, List.getElem?_cons_zero, bind_ok, ev_op2, ev_op1, get_d, ixl2, hr]
  exact run_d (b := b_slimmed_of) (ρ0 := [.dat (LOT m ts), .un]) (ρ := [.dat (LOT m (slim ts ts.reverse)), s']) rfl ((seq_nx (for_none it e)).trans (by simp))
end Gk30
set_option maxHeartbeats 4000000
namespace Gk30
open PySem L2 PL
/-! ### the sum of over counts -/
def sumI (xs : List Int) : Int := xs.foldr (· + ·) 0
theorem sumI_app (xs ys : List Int) : sumI (xs ++ ys) = sumI xs + sumI ys := by
  induction xs with
  | nil => simp [sumI]
  | cons x xs ih => simp only [sumI, List.cons_append, List.foldr_cons] at ih ⊢; omega
theorem sum_one {ps : List (List Int)} (hn : ps.Nodup) {q : List Int} (hq : q ∈ ps) : sumI (ps.map fun p => (([q].count p : Nat) : Int)) = 1 := by
  induction ps with
  | nil => cases hq
  | cons p ps ih =>
    rw [List.nodup_cons] at hn
    have e : sumI ((p :: ps).map fun p => (([q].count p : Nat) : Int)) = (([q].count p : Nat) : Int) + sumI (ps.map fun p => (([q].count p : Nat) : Int)) := rfl
    rw [e]
    by_cases h : q = p
    · subst h
      have z : ∀ qs : List (List Int), q ∉ qs → sumI (qs.map fun p => (([q].count p : Nat) : Int)) = 0 := fun qs => by
        induction qs with
        | nil => intro _; rfl
        | cons r qs ih2 =>
          intro hr
          have e2 : sumI ((r :: qs).map fun p => (([q].count p : Nat) : Int)) = (([q].count r : Nat) : Int) + sumI (qs.map fun p => (([q].count p : Nat) : Int)) := rfl
          have : [q].count r = 0 := List.count_eq_zero.mpr (by simpa using fun e => hr (by rw [e]; simp))
          rw [e2, ih2 fun h => hr (List.mem_cons_of_mem _ h), this]; rfl
      rw [z ps hn.1]
      simp
    · have : [q].count p = 0 := List.count_eq_zero.mpr (by simpa using fun e => h e.symm)
      rw [ih hn.2 ((List.mem_cons.mp hq).resolve_left h), this]; rfl
theorem sum_add (f g : List Int → Int) : ∀ ps : List (List Int), sumI (ps.map fun p => f p + g p) = sumI (ps.map f) + sumI (ps.map g)
  | [] => rfl
  | p :: ps => by
    have ih := sum_add f g ps
    simp only [sumI, List.map_cons, List.foldr_cons] at ih ⊢
    omega
theorem sum_count {ps : List (List Int)} (hn : ps.Nodup) : ∀ {qs : List (List Int)}, (∀ q ∈ qs, q ∈ ps) → sumI (ps.map fun p => ((qs.count p : Nat) : Int)) = qs.length
  | [], _ => by
    induction ps with
    | nil => rfl
    | cons p ps ih =>
      rw [List.nodup_cons] at hn
      have := ih hn.2 (fun q hq => by cases hq)
      show (((([] : List (List Int)).count p : Nat)) : Int) + sumI (ps.map fun p => ((([] : List (List Int)).count p : Nat) : Int)) = _
      rw [this]; rfl
  | q :: qs, h => by
    have e : (fun p => (((q :: qs).count p : Nat) : Int)) = fun p => (([q].count p : Nat) : Int) + ((qs.count p : Nat) : Int) := by
      funext p
      have := List.count_append (a := p) (l₁ := [q]) (l₂ := qs)
      show ((([q] ++ qs).count p : Nat) : Int) = _
      rw [this]; omega
    rw [e, sum_add, sum_one hn (h q List.mem_cons_self), sum_count hn fun r hr => h r (List.mem_cons_of_mem _ hr), List.length_cons]
    omega
theorem flat3 {m : Nat} : ∀ {ts : List (List Int)}, (∀ t ∈ ts, VT m t) → (ts.flatMap pr).length = 3 * ts.length
  | [], _ => rfl
  | t :: ts, h => by
    obtain ⟨a, b, c, rfl, _⟩ := h t List.mem_cons_self
    rw [List.flatMap_cons, List.length_append, flat3 fun u hu => h u (List.mem_cons_of_mem _ hu), List.length_cons]
    show 3 + _ = _
    omega
theorem sum_cn {m : Nat} {ts : List (List Int)} (h : ∀ t ∈ ts, VT m t) : sumI ((prs m).map (cn ts)) = 3 * (ts.length : Int) := by
  have := sum_count (prs_nodup m) (qs := ts.flatMap pr) fun q hq => by
    obtain ⟨t, ht, hq⟩ := List.mem_flatMap.mp hq
    exact pr_mem (h t ht) hq
  rw [flat3 h] at this
  have e : (fun p => (((ts.flatMap pr).count p : Nat) : Int)) = cn ts := rfl
  rw [e] at this
  rw [this]; omega
/-- over pairs, less one each, of a wide lot -/
theorem sum_over {m : Nat} {ts : List (List Int)} (g : Good m ts) : sumI (((prs m).filter fun p => decide (1 < cn ts p)).map fun p => cn ts p - 1) = 3 * (ts.length : Int) - (prs m).length := by
  have hw := wide_iff.mp g.wi
  have gen : ∀ ps : List (List Int), (∀ p ∈ ps, 1 ≤ cn ts p) → sumI ((ps.filter fun p => decide (1 < cn ts p)).map fun p => cn ts p - 1) = sumI (ps.map (cn ts)) - ps.length := fun ps => by
    induction ps with
    | nil => intro _; rfl
    | cons p ps ih =>
      intro h
      have h1 := h p List.mem_cons_self
      have h2 := ih fun q hq => h q (List.mem_cons_of_mem _ hq)
      by_cases hd : 1 < cn ts p
      · rw [List.filter_cons_of_pos (by simpa using hd)]
        simp only [sumI, List.map_cons, List.foldr_cons, List.length_cons] at h2 ⊢
        omega
      · rw [List.filter_cons_of_neg (by simpa using hd)]
        simp only [sumI, List.map_cons, List.foldr_cons, List.length_cons] at h2 ⊢
        omega
  rw [gen _ hw, sum_cn g.vt]
end Gk30
set_option maxHeartbeats 4000000
/-! ### the plain law: judges -/
namespace Gk30
open PySem L2 PL
def isI : D → Bool
  | .int _ => true
  | _ => false
def cnt : D → Bool
  | .int i => decide (0 ≤ i)
  | _ => false
def okI (many : Int) : D → Bool
  | .int i => decide (0 ≤ i) && decide (i < many)
  | _ => false
def isIB : D → Bool
  | .int _ => true
  | .bl _ => true
  | _ => false
def isBl : D → Bool
  | .bl _ => true
  | _ => false
def isTp : D → Bool
  | .tup _ => true
  | _ => false
def isSt : D → Bool
  | .str _ => true
  | _ => false
theorem gd_ty {n : Nat} {d : D} (h : gdn n d) : ∃ a, tyD d = some a ∧ isB a "int" = isIB d ∧ isB a "bool" = isBl d ∧ isB a "tuple" = isTp d ∧ isB a "str" = isSt d := by
  obtain ⟨p, h1, _⟩ := h
  cases d <;> first | (simp [pyD] at h1; done) | (refine ⟨_, rfl, ?_, ?_, ?_, ?_⟩ <;> first | exact (show isB _ _ = true by decide) | exact (show isB _ _ = false by decide))
theorem isi_int {n : Nat} {d : D} (h : gdn n d) : gIsi "int" d = some (.d (.bl (isIB d))) := by
  obtain ⟨a, h1, h2, h3, h4, h5⟩ := gd_ty h
  unfold gIsi; rw [h1]; simp only [h2]; rfl
theorem isi_bool {n : Nat} {d : D} (h : gdn n d) : gIsi "bool" d = some (.d (.bl (isBl d))) := by
  obtain ⟨a, h1, h2, h3, h4, h5⟩ := gd_ty h
  unfold gIsi; rw [h1]; simp only [h3]; rfl
theorem isi_tuple {n : Nat} {d : D} (h : gdn n d) : gIsi "tuple" d = some (.d (.bl (isTp d))) := by
  obtain ⟨a, h1, h2, h3, h4, h5⟩ := gd_ty h
  unfold gIsi; rw [h1]; simp only [h4]; rfl
theorem isi_str {n : Nat} {d : D} (h : gdn n d) : gIsi "str" d = some (.d (.bl (isSt d))) := by
  obtain ⟨a, h1, h2, h3, h4, h5⟩ := gd_ty h
  unfold gIsi; rw [h1]; simp only [h5]; rfl
theorem p_is_integer {n : Nat} {d : D} (h : gdn n d) : m_is_integer [d] = .ok (.bl (isI d)) false .non := by
  unfold m_is_integer runF b_is_integer
  simp [rho0, sl0, isi_int h, isi_bool h, gNot, outOf]
  cases d <;> simp [isI, isIB, isBl]
theorem p_is_count {n : Nat} {d : D} (h : gdn n d) : m_is_count [d] = .ok (.bl (cnt d)) false .non := by
  unfold m_is_count runF b_is_count
  simp [rho0, sl0, p_is_integer h, outOf]
  cases d <;> simp [isI, cnt, g2I]
theorem p_is_below {n : Nat} {d : D} (many : Int) (h : gdn n d) : m_is_below [d, .int many] = .ok (.bl (okI many d)) false .non := by
  unfold m_is_below runF b_is_below
  simp [rho0, sl0, p_is_count h, outOf]
  cases d <;> simp [cnt, okI, gLt, gOr, g2I]
  rename_i i
  by_cases hi : 0 ≤ i <;> simp [hi]
def numB : D → Bool
  | .int i => decide (3 ≤ i) && decide (i ≤ 45)
  | _ => false
theorem p_is_number {n : Nat} {d : D} (h : gdn n d) : m_is_number [d] = .ok (.bl (numB d)) false .non := by
  unfold m_is_number runF b_is_number
  simp [rho0, sl0, p_is_integer h, outOf]
  cases d <;> simp [isI, g2I, numB]
  rename_i i
  by_cases hi : 3 ≤ i <;> simp [hi]
def isRow (k : Nat) : D → Bool
  | .tup ds => ds.length == k
  | _ => false
theorem p_is_row {n : Nat} {d : D} (k : Nat) (h : gdn n d) : m_is_row [d, .int (k : Int)] = .ok (.bl (isRow k d)) false .non := by
  unfold m_is_row runF b_is_row
  simp [rho0, sl0, isi_tuple h, outOf]
  cases d <;> simp [isRow, isTp, cLen, gEq, eqD_int]
  rename_i ds
  rw [Bool.eq_iff_iff, beq_iff_eq, beq_iff_eq]
  omega
def ltB : D → Bool
  | .tup [x, y] => (match gLt x y with | some (.d (.bl r)) => r | _ => false)
  | _ => false
/-- is_rising of things that < puts in order -/
theorem p_is_rising {α : Type} {emb : α → D} {lt : α → α → Bool} (xs : List α) (hl : xs.length ≤ 1000) (hlt : ∀ x y, gLt (emb x) (emb y) = some (.d (.bl (lt x y)))) : m_is_rising [.tup (xs.map emb)] = .ok (.bl (adj lt xs)) false .non := by
  unfold m_is_rising runF b_is_rising
  have hz : itZip (aCons (eVar 0) (aCons (eSl (eVar 0) (oSome (eK (.int 1))) oNone) aNil)) [.dat (.tup (xs.map emb)), .un, .un] = .ok (zipD (xs.map emb) ((xs.map emb).drop 1), none) [.dat (.tup (xs.map emb)), .un, .un] := by
    unfold itZip
    have := cut_from (xs := xs.map emb) (k := 1)
    simp at this
    simp [gSl, this]
  have hb : ∀ x y, ltB (.tup [emb x, emb y]) = lt x y := fun x y => by simp [ltB, hlt]
  have hc := comp_map (ct := .many [1, 2]) (elt := eBin gLt (eVar 1) (eVar 2)) (ρ := [.dat (.tup (xs.map emb)), .un, .un]) (fun d => match d with | .tup [x, y] => [.dat (.tup (xs.map emb)), .dat x, .dat y] | _ => []) (fun d => .bl (ltB d)) hz rfl rfl rfl (fun d hd => ?_) ?_
  · have e := adj_zip hb xs
    show (match (sRet _ : Sx) [.dat (.tup (xs.map emb)), .un, .un] with | .ok .nx ρ => _ | .ok (.rt (.d x)) ρ => _ | .ok (.rt (.f x)) ρ => _ | .ok (.rt (.o i)) ρ => _ | .er x ρ => _ | _ => _) = _
    simp only [ev_ret, ev_cb, ev_cons, ev_nil, hc, bind_ok, ag_f, agsGet_cons, agsGet_nil, aget_d, cAll, cBools, blsOf_bl]
    simp [outOf, ← e, List.all_map, Function.comp_def]
  · obtain ⟨x, y, rfl, hx, hy⟩ := zipD_tail_mem hd
    obtain ⟨a, _, rfl⟩ := List.mem_map.mp hx
    obtain ⟨b, _, rfl⟩ := List.mem_map.mp (List.mem_of_mem_drop hy)
    refine ⟨rfl, rfl, .d (.bl (lt a b)), ?_, ?_⟩
    · simp [hlt]
    · simp [hb]
  · refine small_of ?_
    rw [zipD_length]
    simp; omega
end Gk30
set_option maxHeartbeats 4000000
namespace Gk30
open PySem L2 PL
def tri (many : Int) : D → Bool
  | .tup [x, y, z] => okI many x && (okI many y && (okI many z && (match x, y, z with
    | .int a, .int b, .int c => decide (a < b) && decide (b < c)
    | _, _, _ => false)))
  | _ => false
theorem row3 {d : D} (h : isRow 3 d = true) : ∃ x y z, d = .tup [x, y, z] := by
  cases d <;> simp [isRow] at h
  rename_i ds
  match ds, h with
  | [x, y, z], _ => exact ⟨x, y, z, rfl⟩
theorem tri_not {many : Int} {d : D} (h : isRow 3 d = false) : tri many d = false := by
  cases d <;> try rfl
  rename_i ds
  match ds, h with
  | [], _ => rfl
  | [_], _ => rfl
  | [_, _], _ => rfl
  | [_, _, _], h => simp [isRow] at h
  | _ :: _ :: _ :: _ :: _, _ => rfl
theorem okI_int {many : Int} {d : D} (h : okI many d = true) : ∃ i, d = .int i := by
  cases d <;> simp [okI] at h
  exact ⟨_, rfl⟩
theorem gLt_int (a b : Int) : gLt (.int a) (.int b) = some (.d (.bl (decide (a < b)))) := rfl
theorem p_is_triple_in {n : Nat} {v : D} (many : Int) (h : gdn (n + 1) v) : m_is_triple_in [.int many, v] = .ok (.bl (tri many v)) false .non := by
  have e3 := p_is_row (n := n + 1) 3 h
  simp at e3
  cases hr : isRow 3 v with
  | false =>
    rw [tri_not hr]
    unfold m_is_triple_in runF b_is_triple_in
    simp [rho0, sl0, e3, hr, outOf]
  | true =>
    obtain ⟨x, y, z, rfl⟩ := row3 hr
    have hg := gdn_tup_inv h
    have hc := comp_map (ct := .one 2) (it := itSeq (eVar 1)) (elt := eCall 2 none m_is_below (argsN 2) (aCons (eVar 2) (aCons (eVar 0) aNil))) (ρ := [.dat (.int many), .dat (.tup [x, y, z]), .un])
      (fun d => [.dat (.int many), .dat (.tup [x, y, z]), .dat d]) (fun d => .bl (okI many d)) rfl rfl rfl rfl (fun d hd => ⟨rfl, rfl, .d (.bl (okI many d)), by simp [p_is_below many (hg d hd)], rfl⟩) (small_of (by simp))
    unfold m_is_triple_in runF b_is_triple_in
    simp [rho0, sl0, e3, hr, outOf, hc, cAll, cBools, blsOf, tri]
    cases hx : okI many x <;> cases hy : okI many y <;> cases hz : okI many z <;> simp
    obtain ⟨a, rfl⟩ := okI_int hx
    obtain ⟨b, rfl⟩ := okI_int hy
    obtain ⟨c, rfl⟩ := okI_int hz
    have hq := p_is_rising (emb := D.int) (lt := fun a b => decide (a < b)) [a, b, c] (by simp) gLt_int
    simp [adj] at hq
    simp [hq]
end Gk30
set_option maxHeartbeats 4000000
namespace Gk30
open PySem L2 PL
/-- the triple behind data -/
def untri : D → List Int
  | .tup [.int a, .int b, .int c] => [a, b, c]
  | _ => []
theorem tri_shape {many : Int} {d : D} (h : tri many d = true) : ∃ a b c, d = .tup [.int a, .int b, .int c] ∧ 0 ≤ a ∧ a < b ∧ b < c ∧ c < many := by
  have hr : isRow 3 d = true := by
    cases e : isRow 3 d with
    | true => rfl
    | false => rw [tri_not e] at h; cases h
  obtain ⟨x, y, z, rfl⟩ := row3 hr
  simp [tri] at h
  obtain ⟨h1, h2, h3, h4⟩ := h
  obtain ⟨a, rfl⟩ := okI_int h1
  obtain ⟨b, rfl⟩ := okI_int h2
  obtain ⟨c, rfl⟩ := okI_int h3
  simp [okI] at h1 h2 h3 h4
  exact ⟨a, b, c, rfl, h1.1, h4.1, h4.2, h3.2⟩
theorem tri_tup {many : Int} {d : D} (h : tri many d = true) : d = tupD (untri d) := by
  obtain ⟨a, b, c, rfl, _⟩ := tri_shape h
  rfl
theorem gLt_tup (a b : List Int) : gLt (tupD a) (tupD b) = some (.d (.bl (HT.lexLt a b))) := by
  simp [gLt, gOr, g2I, tupD, gLtT, intsOf_map]
def manyOf : D → Int
  | .int i => i
  | _ => 0
def itemsOf : D → List D
  | .tup ts => ts
  | _ => []
def lotB : D → Bool
  | .tup [a, b, c] => isStr "lot" a && numB b && (isTp c && ((itemsOf c).all (tri (manyOf b)) && adj HT.lexLt ((itemsOf c).map untri)))
  | _ => false
theorem lot_not {d : D} (h : isRow 3 d = false) : lotB d = false := by
  cases d <;> try rfl
  rename_i ds
  match ds, h with
  | [], _ => rfl
  | [_], _ => rfl
  | [_, _], _ => rfl
  | [_, _, _], h => simp [isRow] at h
  | _ :: _ :: _ :: _ :: _, _ => rfl
theorem ok_lot : PyData.strOk "lot" = true := by decide +kernel
theorem all_tup {many : Int} {ts : List D} (h : ts.all (tri many) = true) : ts = (ts.map untri).map tupD := by
  rw [List.map_map]
  have : ∀ d ∈ ts, (tupD ∘ untri) d = d := fun d hd => (tri_tup (List.all_eq_true.mp h d hd)).symm
  exact (List.map_id ts).symm.trans (List.map_congr_left fun d hd => (this d hd).symm)
theorem isStr_isSt {s : Str} {d : D} (h : isStr s d = true) : isSt d = true := by
  cases d <;> simp [isStr] at h
  rfl
theorem num_int {d : D} (h : numB d = true) : ∃ i, d = .int i ∧ 3 ≤ i ∧ i ≤ 45 := by
  cases d <;> simp [numB] at h
  exact ⟨_, rfl, h⟩
theorem tp_tup {d : D} (h : isTp d = true) : ∃ ts, d = .tup ts := by
  cases d <;> simp [isTp] at h
  exact ⟨_, rfl⟩
theorem p_is_lot_of {n : Nat} {v : D} (hn : n < 62) (h : gdn (n + 2) v) (hl : ∀ a b ts, v = .tup [a, b, .tup ts] → ts.length ≤ 1000) : m_is_lot_of [v] = .ok (.bl (lotB v)) false .non := by
  have e3 := p_is_row (n := n + 2) 3 h
  simp at e3
  cases hr : isRow 3 v with
  | false =>
    rw [lot_not hr]
    unfold m_is_lot_of runF b_is_lot_of
    simp [rho0, sl0, e3, hr, outOf]
  | true =>
    obtain ⟨x, y, z, rfl⟩ := row3 hr
    have hg := gdn_tup_inv h
    have hx := hg x (by simp)
    have hy := hg y (by simp)
    have hz := hg z (by simp)
    have i0 : gIx (.tup [x, y, z]) (.int 0) = some (.d x) := rfl
    have i1 : gIx (.tup [x, y, z]) (.int 1) = some (.d y) := rfl
    have i2 : gIx (.tup [x, y, z]) (.int 2) = some (.d z) := rfl
    have q0 := eqD_str (hx.mono (by omega : n + 1 ≤ 64)) ok_lot
    have q1 := p_is_number hy
    have q2 := isi_str hx
    have q3 := isi_tuple hz
    rw [hr] at e3
    have hR : rho0 none 2 [D.tup [x, y, z]] = [.dat (.tup [x, y, z]), .un] := rfl
    unfold m_is_lot_of runF b_is_lot_of
    rw [hR]
    cases hs : isStr "lot" x with
    | false =>
      cases hs2 : isSt x <;> simp [e3, i0, i1, q2, gNe, q0, hs, hs2, outOf, lotB]
    | true =>
      have hs2 := isStr_isSt hs
      cases hm : numB y with
      | false => simp [e3, i0, i1, q2, gNe, q0, hs, hs2, q1, hm, outOf, lotB]
      | true =>
        obtain ⟨many, rfl, _⟩ := num_int hm
        cases ht : isTp z with
        | false => simp [e3, i0, i1, i2, q2, q3, ht, gNe, q0, hs, hs2, q1, hm, outOf, lotB]
        | true =>
          obtain ⟨ts, rfl⟩ := tp_tup ht
          have hts := hl x (.int many) ts rfl
          have hgt := gdn_tup_inv hz
          have hc := comp_map (ct := .one 1) (it := itSeq (eBin gIx (eVar 0) (eK (.int 2)))) (ds := ts) (elt := eCall 2 none m_is_triple_in (argsN 2) (aCons (eBin gIx (eVar 0) (eK (.int 1))) (aCons (eVar 1) aNil))) (ρ := [.dat (.tup [x, .int many, .tup ts]), .un])
            (fun d => [.dat (.tup [x, .int many, .tup ts]), .dat d]) (fun d => .bl (tri many d)) (by simp [i2]) rfl rfl rfl (fun d hd => ⟨rfl, rfl, .d (.bl (tri many d)), by
              have hgd : gdn (n + 1) d := (hgt d hd).mono (by omega)
              simp [i1, p_is_triple_in many hgd], rfl⟩) (small_of (by omega))
          cases ha : ts.all (tri many) with
          | false =>
            simp [e3, i0, i1, i2, q2, q3, ht, gNe, q0, hs, hs2, q1, hm, outOf, lotB, hc, cAll, cBools, blsOf_bl, manyOf, itemsOf, ha]
          | true =>
            have hq := p_is_rising (emb := tupD) (lt := HT.lexLt) (ts.map untri) (by rw [List.length_map]; exact hts) gLt_tup
            rw [← all_tup ha] at hq
            simp [e3, i0, i1, i2, q2, q3, ht, gNe, q0, hs, hs2, q1, hm, outOf, lotB, hc, cAll, cBools, blsOf_bl, manyOf, itemsOf, ha, hq]
end Gk30
set_option maxHeartbeats 4000000
namespace Gk30
open PySem L2 PL
/-- a lot of the program -/
structure Lot (m : Nat) (ts : List (List Int)) : Prop where
  lo : 3 ≤ m
  hi : m ≤ 30
  ln : ts.length ≤ 1000
  vt : ∀ t ∈ ts, VT m t
  up : adj HT.lexLt ts = true
theorem tri_vt {m : Nat} {t : List Int} (h : VT m t) : tri m (tupD t) = true ∧ untri (tupD t) = t := by
  obtain ⟨a, b, c, rfl, h1, h2, h3, h4⟩ := h
  have : 0 ≤ b ∧ 0 ≤ c ∧ a < (m : Int) ∧ b < (m : Int) := by omega
  exact ⟨by simp [tupD, tri, okI, h1, h2, h3, h4, this], rfl⟩
theorem untri_map {m : Nat} : ∀ {ts : List (List Int)}, (∀ t ∈ ts, VT m t) → (ts.map tupD).map untri = ts
  | [], _ => rfl
  | t :: ts, h => by
    rw [List.map_cons, List.map_cons, (tri_vt (h t List.mem_cons_self)).2, untri_map fun u hu => h u (List.mem_cons_of_mem _ hu)]
theorem lotB_lot {m : Nat} {ts : List (List Int)} (h : Lot m ts) : lotB (LOT m ts) = true := by
  have h1 := h.lo
  have h2 := h.hi
  have ha : (ts.map tupD).all (tri (m : Int)) = true := List.all_eq_true.mpr fun d hd => by
    obtain ⟨t, ht, rfl⟩ := List.mem_map.mp hd
    exact (tri_vt (h.vt t ht)).1
  have hu := untri_map h.vt
  have hnum : numB (.int (m : Int)) = true := by
    simp [numB]
    omega
  show (isStr "lot" (.str "lot") && numB (.int (m : Int)) && (isTp (.tup (ts.map tupD)) && ((ts.map tupD).all (tri (m : Int)) && adj HT.lexLt ((ts.map tupD).map untri)))) = true
  rw [hnum, ha, hu, h.up]
  simp [isStr, isTp]
theorem gdn_lot (m : Nat) (ts : List (List Int)) : gdn 3 (LOT m ts) := gdn_tup fun d hd => by
  simp at hd
  rcases hd with rfl | rfl | rfl
  · exact gdn_str ok_lot
  · exact gdn_int _
  · exact gdn_tup fun d hd => by
      obtain ⟨t, _, rfl⟩ := List.mem_map.mp hd
      exact gdn_tupD t
theorem p_is_lot {m : Nat} {ts : List (List Int)} (h : Lot m ts) : m_is_lot_of [LOT m ts] = .ok (.bl true) false .non := by
  have e := p_is_lot_of (n := 1) (v := LOT m ts) (by decide) (gdn_lot m ts) (fun a b us e => by
    unfold LOT at e
    injection e with e
    simp at e
    rw [← e.2.2, List.length_map]
    exact h.ln)
  rw [lotB_lot h] at e
  exact e
theorem want_step {f : FT} {x : D} (hf : f [x] = .ok (.bl true) false .non) : (sSeq (sIf (tNotP (tB (eCall 1 none f (argsN 1) (aCons (eVar 0) aNil)))) sBad sNext) (sRet (eVar 0))) [.dat x] = .ok (.rt (.d x)) [.dat x] := by
  simp [hf]
theorem p_want_lot {m : Nat} {ts : List (List Int)} (h : Lot m ts) : m_want_lot [LOT m ts] = .ok (LOT m ts) false .non :=
  run_d (b := b_want_lot) (ρ0 := [.dat (LOT m ts)]) (ρ := [.dat (LOT m ts)]) rfl (want_step (p_is_lot h))
theorem want_step2 {f g : FT} {x : D} (hg : g [x] = .ok x false .non) (hf : f [x] = .ok (.bl true) false .non) : (sSeq (sIf (tNotP (tB (eCall 1 none f (argsN 1) (aCons (eCall 1 none g (argsN 1) (aCons (eVar 0) aNil)) aNil)))) sBad sNext) (sRet (eVar 0))) [.dat x] = .ok (.rt (.d x)) [.dat x] := by
  simp [hf, hg]
theorem p_want_wide {m : Nat} {ts : List (List Int)} (h : Lot m ts) (hw : wide m ts = true) : m_want_wide [LOT m ts] = .ok (LOT m ts) false .non :=
  run_d (b := b_want_wide) (ρ0 := [.dat (LOT m ts)]) (ρ := [.dat (LOT m ts)]) rfl (want_step2 (p_want_lot h) (by rw [p_wide h.hi h.vt, hw]))
theorem wrap_step {f g : FT} {x y : D} {fr : Bool} (hg : g [x] = .ok x false .non) (hf : f [x] = .ok y fr .non) : ∃ p, (sRet (eCall 1 none f (argsN 1) (aCons (eCall 1 none g (argsN 1) (aCons (eVar 0) aNil)) aNil))) [.dat x] = .ok (.rt p) [.dat x] ∧ p = (if fr then .f y else .d y) := by
  cases fr <;> simp [hf, hg]
theorem p_over {m : Nat} {ts : List (List Int)} (h : Lot m ts) : m_over [LOT m ts] = .ok (.lst (overD m ts)) true .non := by
  obtain ⟨p, e, hp⟩ := wrap_step (p_want_lot h) (p_over_of h.hi h.vt)
  subst hp
  exact run_f (b := b_over) (ρ0 := [.dat (LOT m ts)]) (ρ := [.dat (LOT m ts)]) rfl e
theorem p_needless {m : Nat} {ts : List (List Int)} (h : Lot m ts) (hw : wide m ts = true) : m_needless [LOT m ts] = .ok (.lst ((need ts).map tupD)) true .non := by
  obtain ⟨p, e, hp⟩ := wrap_step (p_want_wide h hw) (p_needless_of h.hi h.ln h.vt)
  subst hp
  exact run_f (b := b_needless) (ρ0 := [.dat (LOT m ts)]) (ρ := [.dat (LOT m ts)]) rfl e
theorem p_slimmed {m : Nat} {ts : List (List Int)} (h : Lot m ts) (g : Good m ts) : m_slimmed [LOT m ts] = .ok (LOT m (slim ts ts.reverse)) false .non := by
  obtain ⟨p, e, hp⟩ := wrap_step (p_want_wide h g.wi) (p_slimmed_of h.hi h.ln g)
  subst hp
  exact run_d (b := b_slimmed) (ρ0 := [.dat (LOT m ts)]) (ρ := [.dat (LOT m ts)]) rfl e
end Gk30
set_option maxHeartbeats 4000000
namespace Gk30
open PySem L2 PL
def PotOk (d : D) : Prop := ∃ a b : Int, d = .lst [.int a, .int b] ∧ 0 ≤ a ∧ 0 ≤ b ∧ b ≤ 2147483648
theorem ix0 (x y : D) : gIx (.lst [x, y]) (.int 0) = some (.d x) := rfl
theorem ix1 (x y : D) : gIx (.lst [x, y]) (.int 1) = some (.d y) := rfl
theorem gmul_l {i j : Int} (h1 : -(2 ^ 64) < i) (h2 : i < 2 ^ 64) : gMulI (.int i) (.int j) = some (.d (.int (i * j))) := by
  have : cMul i j = true := decide_eq_true (.inl ⟨h1, h2⟩)
  simp [gMulI, g2IC, this]
theorem gmod_p {i j : Int} (h : 0 < j) : gMod (.int i) (.int j) = some (.d (.int (i % j))) := by
  have : cPos i j = true := decide_eq_true h
  simp [gMod, g2IC, this]
theorem gfdiv_p {i j : Int} (h : 0 < j) (h2 : j < 1073741824) : gFdiv (.int i) (.int j) = some (.d (.int (i / j))) := by
  have : cDiv i j = true := decide_eq_true ⟨h, h2⟩
  simp [gFdiv, g2IC, this]
theorem cdivmod_p {i j : Int} (h : 0 < j) (h2 : j < 1073741824) : cDivmod [.int i, .int j] = some (.d (.tup [.int (i / j), .int (i % j)])) := by
  have : cDiv i j = true := decide_eq_true ⟨h, h2⟩
  simp [cDivmod, this]
theorem p_draw {d : D} {size : Int} (h : PotOk d) (h0 : 0 < size) (h1 : size < 1073741824) : ∃ r d', m_law_draw [d, .int size] = .ok (.int r) false d' ∧ 0 ≤ r ∧ r < size ∧ PotOk d' := by
  obtain ⟨a, b, rfl, ha, hb, hb2⟩ := h
  have hR : rho0 (some 0) 3 [D.lst [.int a, .int b], .int size] = [.own (.lst [.int a, .int b]), .dat (.int size), .un] := rfl
  have m1 : (b * 48271 + 1049) % 2147483587 < 2147483587 := Int.emod_lt_of_pos _ (by decide)
  have m2 : 0 ≤ (b * 48271 + 1049) % 2147483587 := Int.emod_nonneg _ (by decide)
  unfold m_law_draw runF b_law_draw
  rw [hR]
  by_cases hp : 0 < a
  · refine ⟨a % size, .lst [.int (a / size), .int b], ?_, Int.emod_nonneg _ (by omega), Int.emod_lt_of_pos _ h0, a / size, b, rfl, Int.ediv_nonneg ha (by omega), hb, hb2⟩
    simp [ix0, g2I, hp, cdivmod_p h0 h1, gItem, ixN, outOf]
  · refine ⟨((b * 48271 + 1049) % 2147483587 * ((b * 48271 + 1049) % 2147483587) % 2147483563 / 19) % size, .lst [.int a, .int ((b * 48271 + 1049) % 2147483587)], ?_, Int.emod_nonneg _ (by omega), Int.emod_lt_of_pos _ h0, a, _, rfl, ha, m2, by omega⟩
    · simp [ix0, ix1, g2I, hp, gmul_l (by omega : -(2 ^ 64) < b) (by omega : b < 2 ^ 64), gadd_i, cInt, gmod_p (by decide : (0 : Int) < 2147483587), gItem, ixN, outOf,
        gmul_l (by omega : -(2 ^ 64) < (b * 48271 + 1049) % 2147483587) (by omega : (b * 48271 + 1049) % 2147483587 < 2 ^ 64), gmod_p (by decide : (0 : Int) < 2147483563), gfdiv_p (by decide : (0 : Int) < 19) (by decide), gmod_p h0]
end Gk30
set_option maxHeartbeats 4000000
namespace Gk30
open PySem L2 PL
theorem p_pot (ns : List Int) {k : Nat} (hk : k = 0 ∨ k = 1) : ∃ d, m_law_pot [.st (ns.map .int), .int k] = .ok d true .non ∧ PotOk d := by
  have key : ∀ cell : Int, 0 ≤ (cell % 2147483549 * 41161 + 613 * (k : Int) + 59) % 2147483563 + 1 ∧ (cell % 2147483549 * 41161 + 613 * (k : Int) + 59) % 2147483563 + 1 ≤ 2147483648 := fun cell => by
    have h1 := Int.emod_nonneg (cell % 2147483549 * 41161 + 613 * (k : Int) + 59) (b := 2147483563) (by decide)
    have h2 := Int.emod_lt_of_pos (cell % 2147483549 * 41161 + 613 * (k : Int) + 59) (b := 2147483563) (by decide)
    omega
  have mx : ∀ x : Int, cMax [.int 0, .int x] = some (.d (.int (if x > 0 then x else 0))) := fun x => rfl
  have pw : gPow (.int 10) (.int 18) = some (.d (.int (10 ^ 18))) := by
    have : cPow 10 18 = true := by decide
    show (if cPow 10 18 = true then some (Pd.d (.int (10 ^ (18 : Int).toNat))) else none) = _
    rw [this]; rfl
  have rest : ∀ cell : Int, (sRet (eLst (aCons (eCB cMax (aCons (eK (.int 0)) (aCons (eBin gSub (eVar 2) (eBin gPow (eK (.int 10)) (eK (.int 18)))) aNil))) (aCons (eBin gAdd (eBin gMod (eCB cInt (aCons (eBin gAdd (eBin gAdd (eBin gMulI (eBin gMod (eCB cInt (aCons (eVar 2) aNil)) (eK (.int 2147483549))) (eK (.int 41161))) (eBin gMulI (eK (.int 613)) (eVar 1))) (eK (.int 59))) aNil)) (eK (.int 2147483563))) (eK (.int 1))) aNil))))
      [.dat (.st (ns.map .int)), .dat (.int k), .dat (.int cell)] = .ok (.rt (.f (.lst [.int (if cell - 10 ^ 18 > 0 then cell - 10 ^ 18 else 0), .int ((cell % 2147483549 * 41161 + 613 * (k : Int) + 59) % 2147483563 + 1)]))) [.dat (.st (ns.map .int)), .dat (.int k), .dat (.int cell)] := fun cell => by
    have h1 := Int.emod_nonneg cell (b := 2147483549) (by decide)
    have h2 := Int.emod_lt_of_pos cell (b := 2147483549) (by decide)
    simp [gsub_i, pw, mx, cInt, gmod_p (by decide : (0 : Int) < 2147483549), gmod_p (by decide : (0 : Int) < 2147483563), gmul_l (by omega : -(2 ^ 64) < cell % 2147483549) (by omega : cell % 2147483549 < 2 ^ 64), gmul_l (by decide : -(2 ^ 64) < (613 : Int)) (by decide), gadd_i, small]
  have lt2 : ∀ (i j : Int), gLt (.int i) (.int j) = some (.d (.bl (decide (i < j)))) := fun _ _ => rfl
  have a1 : sAsg (eBin gAdd (eBin gMulI (eK (.int 997)) (eVar 1)) (eK (.int 613))) (gS false 2) [.dat (.st (ns.map .int)), .dat (.int k), .un] = .ok .nx [.dat (.st (ns.map .int)), .dat (.int k), .dat (.int (997 * (k : Int) + 613))] := by
    simp [gmul_l (by decide : -(2 ^ 64) < (997 : Int)) (by decide), gadd_i]
  have hcell : ∃ cell, (sIf (tB (eBin gLt (eVar 1) (eCB cLen (aCons (eVar 0) aNil)))) (sAsg (eCB cAbs (aCons (eBin gIx (eVar 0) (eVar 1)) aNil)) (gS false 2)) sNext) [.dat (.st (ns.map .int)), .dat (.int k), .dat (.int (997 * (k : Int) + 613))] = .ok .nx [.dat (.st (ns.map .int)), .dat (.int k), .dat (.int cell)] := by
    by_cases h : k < ns.length
    · refine ⟨if ns[k] < 0 then -ns[k] else ns[k], ?_⟩
      have i0 : gIx (.st (ns.map .int)) (.int k) = some (.d (.int ns[k])) := by
        have hx : ixN (ns.map D.int).length (k : Int) = some k := by
          unfold ixN
          rw [if_pos (by omega), if_pos (by rw [List.length_map]; omega)]; simp
        have hy : (ns.map D.int)[k]? = some (.int ns[k]) := by rw [List.getElem?_map, List.getElem?_eq_getElem h]; rfl
        simp [gIx, gOr, gIxL, gIxT, gIxF, gIxSeq, atI, ixN, h, hx, hy]
      have h2 : (k : Int) < (ns.length : Int) := by omega
      simp [cLen, lt2, i0, cAbs, h2, h]
    · refine ⟨997 * (k : Int) + 613, ?_⟩
      have h2 : ¬ (k : Int) < (ns.length : Int) := by omega
      simp [cLen, lt2, h2, h]
  obtain ⟨cell, hc⟩ := hcell
  refine ⟨.lst [.int (if cell - 10 ^ 18 > 0 then cell - 10 ^ 18 else 0), .int ((cell % 2147483549 * 41161 + 613 * (k : Int) + 59) % 2147483563 + 1)], ?_, _, _, rfl, ?_, (key cell).1, (key cell).2⟩
  · exact run_f (b := b_law_pot) (ρ0 := [.dat (.st (ns.map .int)), .dat (.int k), .un]) (ρ := [.dat (.st (ns.map .int)), .dat (.int k), .dat (.int cell)]) rfl ((seq_nx a1).trans ((seq_nx hc).trans (rest cell)))
  · split <;> omega
end Gk30
set_option maxHeartbeats 4000000
namespace Gk30
open PySem L2 PL
/-! ### all triples -/
def rowT (m : Nat) (p : List Int) : List (List Int) := match p with
  | [a, b] => (List.range' (b.toNat + 1) (m - (b.toNat + 1))).map fun (c : Nat) => [a, b, (c : Int)]
  | _ => []
def tris (m : Nat) : List (List Int) := (prs m).flatMap (rowT m)
theorem rowT_len (m : Nat) (p : List Int) : (rowT m p).length ≤ m := by
  unfold rowT
  split
  · rw [List.length_map, List.length_range']; omega
  · simp
theorem tris_vt {m : Nat} : ∀ t ∈ tris m, VT m t := fun t ht => by
  obtain ⟨p, hp, h⟩ := List.mem_flatMap.mp ht
  obtain ⟨a, b, rfl, h1, h2, h3⟩ := mem_prs.mp hp
  obtain ⟨c, hc, rfl⟩ := List.mem_map.mp h
  have := List.mem_range'_1.mp hc
  exact ⟨a, b, c, rfl, h1, h2, by omega, by omega⟩
def tTo (m : Nat) (pre : List (List Int)) (s2 s3 : Sl) : Rho := [.dat (.int m), .own (.lst ((pre.flatMap (rowT m)).map tupD)), s2, s3, .un]
def tRow : Ex := eComp (itRng2 (aCons (eBin gAdd (eVar 3) (eK (.int 1))) (aCons (eVar 0) aNil))) (.one 4) tYesP (eTup (aCons (eVar 2) (aCons (eVar 3) (aCons (eVar 4) aNil))))
theorem tRow_run {m : Nat} {a b : Int} (pre : List (List Int)) (hb : 0 ≤ b) (hbm : b < m) (hm : m ≤ 100) : tRow (tTo m pre (.dat (.int a)) (.dat (.int b))) = .ok (.f (.lst ((rowT m [a, b]).map tupD))) (tTo m pre (.dat (.int a)) (.dat (.int b))) := by
  have hbn : ((b.toNat : Nat) : Int) = b := Int.toNat_of_nonneg hb
  have hc := comp_map (ct := .one 4) (it := itRng2 (aCons (eBin gAdd (eVar 3) (eK (.int 1))) (aCons (eVar 0) aNil))) (elt := eTup (aCons (eVar 2) (aCons (eVar 3) (aCons (eVar 4) aNil)))) (ρ := tTo m pre (.dat (.int a)) (.dat (.int b)))
    (ds := (List.range' (b.toNat + 1) (m - (b.toNat + 1))).map fun j => D.int ((j : Nat) : Int)) (fun d => (tTo m pre (.dat (.int a)) (.dat (.int b))).set 4 (.dat d)) (fun d => .tup [.int a, .int b, d]) (by
      have h1 : inLine (b + 1) = true := inl_of (by omega) (by omega)
      have h2 : inLine (m : Int) = true := inl_of (by omega) (by omega)
      rw [← rng2_eq, hbn]
      exact rng2_run (by simp [gadd_i, tTo]) h1 h2) rfl rfl rfl (fun d hd => by
      refine ⟨rfl, rfl, .d (.tup [.int a, .int b, d]), ?_, rfl⟩
      simp [tTo, small]) (small_of (by rw [List.length_map, List.length_range']; omega))
  have hmap : ((List.range' (b.toNat + 1) (m - (b.toNat + 1))).map fun j => D.int ((j : Nat) : Int)).map (fun d => D.tup [.int a, .int b, d]) = (rowT m [a, b]).map tupD := by
    unfold rowT
    rw [List.map_map, List.map_map]
    rfl
  rw [hmap] at hc
  exact hc
theorem tLoop {m : Nat} (hm : m ≤ 30) : ∃ s2 s3, loopG (gTupP 2 (gsCons (gS false 2) (gsCons (gS false 3) gsNil))) (sExpr (eMeth 1 mExt (aCons tRow aNil))) ((prs m).map tupD) (tTo m [] .un .un) = .ok .nx (tTo m (prs m) s2 s3) := by
  have key : ∀ (ds pre : List (List Int)) (s2 s3 : Sl), isLent (some s2) = false → isLent (some s3) = false → prs m = pre ++ ds → ∃ s2' s3', loopG (gTupP 2 (gsCons (gS false 2) (gsCons (gS false 3) gsNil))) (sExpr (eMeth 1 mExt (aCons tRow aNil))) (ds.map tupD) (tTo m pre s2 s3) = .ok .nx (tTo m (prs m) s2' s3') := fun ds => by
    induction ds with
    | nil => intro pre s2 s3 _ _ e; rw [List.append_nil] at e; rw [← e]; exact ⟨s2, s3, rfl⟩
    | cons p ds ih =>
      intro pre s2 s3 n2 n3 e
      obtain ⟨a, b, rfl, h1, h2, h3⟩ := mem_prs.mp (show p ∈ prs m by rw [e]; simp)
      have hset : gTupP 2 (gsCons (gS false 2) (gsCons (gS false 3) gsNil)) (.d (tupD [a, b])) (tTo m pre s2 s3) = .ok () (tTo m pre (.dat (.int a)) (.dat (.int b))) := by
        simp [tTo, tup2, n2, n3]
      have hpl : pre.length ≤ 1000 := by
        have := congrArg List.length e
        rw [List.length_append] at this
        have := prs_small hm
        omega
      have q := ext_step (j := 1) (r := tRow) (ρ := tTo m pre (.dat (.int a)) (.dat (.int b))) (zs := (pre.flatMap (rowT m)).map tupD) (xs := (pre.flatMap (rowT m)).map tupD) rfl (tRow_run pre (by omega) h3 (by omega)) rfl (by
        rw [List.length_map, List.length_map]
        have := flat_len (rowT_len m) pre
        have := rowT_len m [a, b]
        have h3 : pre.length * m ≤ 1000 * 30 := Nat.mul_le_mul hpl hm
        omega)
      have e2 : (tTo m pre (.dat (.int a)) (.dat (.int b))).set 1 (.own (.lst ((pre.flatMap (rowT m)).map tupD ++ (rowT m [a, b]).map tupD))) = tTo m (pre ++ [[a, b]]) (.dat (.int a)) (.dat (.int b)) := by
        unfold tTo
        simp
      rw [e2] at q
      rw [List.map_cons, loop_cons hset q]
      exact ih (pre ++ [[a, b]]) _ _ rfl rfl (by rw [e]; simp)
  exact key (prs m) [] .un .un rfl rfl rfl
theorem it_call0 {f : FT} {x : D} {xs : List D} {r : Rho} (hf : f [x] = .ok (.lst xs) true .non) : itSeq (eCall 1 none f (argsN 1) (aCons (eVar 0) aNil)) (.dat x :: r) = .ok (xs, none) (.dat x :: r) := by
  simp [hf]
theorem p_all_triples {m : Nat} (hm : m ≤ 30) : m_law_all_triples [.int m] = .ok (.lst ((tris m).map tupD)) true .non := by
  obtain ⟨s2, s3, e⟩ := tLoop hm
  have a1 : sAsg (eLst aNil) (gS true 1) [.dat (.int m), .un, .un, .un, .un] = .ok .nx (tTo m [] .un .un) := by simp [tTo, small]
  have it := it_call0 (r := [.own (.lst []), .un, .un, .un]) (p_law_pairs (show m ≤ 100 by omega))
  exact run_o (i := 1) (b := b_law_all_triples) (ρ0 := [.dat (.int m), .un, .un, .un, .un]) (ρ := tTo m (prs m) s2 s3) (s := .own (.lst ((tris m).map tupD))) rfl ((seq_nx a1).trans ((seq_nx (for_none it e)).trans (by simp [tTo]))) (fun z => nomatch z) rfl rfl
theorem tris_nodup (m : Nat) : (tris m).Nodup := by
  unfold tris
  show List.Pairwise (fun a b => a ≠ b) _
  refine List.pairwise_flatMap.mpr ⟨fun p _ => ?_, ?_⟩
  · unfold rowT
    split
    · exact (List.pairwise_map.mpr ((List.nodup_range' (s := _) (n := _)).imp fun h z => h (by simp at z; omega)))
    · exact List.Pairwise.nil
  · refine (prs_nodup m).imp fun {p q} hne => ?_
    intro t h1 u h2 etu
    subst etu
    unfold rowT at h1 h2
    split at h1
    · split at h2
      · obtain ⟨c, _, rfl⟩ := List.mem_map.mp h1
        obtain ⟨d, _, e⟩ := List.mem_map.mp h2
        simp at e
        exact hne (by simp [e.1, e.2.1])
      · simp at h2
    · simp at h1
end Gk30
set_option maxHeartbeats 4000000
namespace Gk30
open PySem L2 PL
/-! ### shuffled -/
theorem draw_call {ρ : Rho} {pot : D} {s : Int} (h0 : ρ[0]? = some (.own pot)) (hp : PotOk pot) (h1 : 0 < s) (h2 : s < 1073741824) : ∃ r pot', 0 ≤ r ∧ r < s ∧ PotOk pot' ∧ callEnd (some 0) m_law_draw (argsN 2) [.o 0, .d (.int s)] ρ = .ok (.d (.int r)) (ρ.set 0 (.own pot')) := by
  obtain ⟨r, pot', e, r0, r1, hp'⟩ := p_draw hp h1 h2
  refine ⟨r, pot', r0, r1, hp', ?_⟩
  refine (ce_io (n := 2) (as := [.d (.int s)]) (ds := [.int s]) h0 rfl rfl).trans ?_
  rw [e]; rfl
theorem map_erase {α β : Type} (f : α → β) : ∀ (xs : List α) (j : Nat), (xs.map f).eraseIdx j = (xs.eraseIdx j).map f
  | [], _ => rfl
  | _ :: _, 0 => rfl
  | x :: xs, j + 1 => by
    show f x :: (xs.map f).eraseIdx j = f x :: (xs.eraseIdx j).map f
    rw [map_erase f xs j]
theorem pop_at {xs : List (List Int)} {r : Int} (h0 : 0 ≤ r) (h1 : r < xs.length) (h2 : xs.length < 1000000) : ∃ x, xs[r.toNat]? = some x ∧ mPopAt (.lst (xs.map tupD)) [.int r] = some (tupD x, .lst ((xs.eraseIdx r.toNat).map tupD)) := by
  have hj : r.toNat < xs.length := by omega
  refine ⟨xs[r.toNat], List.getElem?_eq_getElem hj, ?_⟩
  have b : (-(2 ^ 63) ≤ r ∧ r < 2 ^ 63) := by omega
  have e1 : ixN xs.length r = some r.toNat := by
    unfold ixN
    rw [if_pos h0, if_pos h1]
  have e2 : (xs.map tupD)[r.toNat]? = some (tupD xs[r.toNat]) := by rw [List.getElem?_map, List.getElem?_eq_getElem hj]; rfl
  show (if decide (-(2 ^ 63) ≤ r ∧ r < 2 ^ 63) then (match ixN (xs.map tupD).length r with | some j => _ | none => _) else none) = _
  rw [decide_eq_true b, if_pos rfl, List.length_map, e1]
  show (match (xs.map tupD)[r.toNat]? with | some d => _ | none => _) = _
  rw [e2, map_erase]
end Gk30
set_option maxHeartbeats 4000000
namespace Gk30
open PySem L2 PL
def shTo (pot so : D) (xs ys : List (List Int)) : Rho := [.own pot, .dat so, .own (.lst (xs.map tupD)), .own (.lst (ys.map tupD))]
def shBody : Sx := sExpr (eMeth 3 mApp (aCons (eMeth 2 mPopAt (aCons (eCall 2 (some 0) m_law_draw (argsN 2) (aCons (eVar 0) (aCons (eCB cLen (aCons (eVar 2) aNil)) aNil))) aNil)) aNil))
def shCond : Rho → Rs Bool := tB (eBin gNe (eVar 2) (eLst aNil))
theorem gne_nil (xs : List (List Int)) : gNe (.lst (xs.map tupD)) (.lst []) = some (.d (.bl (!xs.isEmpty))) := by
  have g : gdn 64 (.lst (xs.map tupD)) := gdn_lst fun d hd => by
    obtain ⟨i, _, rfl⟩ := List.mem_map.mp hd
    exact gdn_tupD i
  have e := eqD_nil g
  rw [show (xs.map tupD).isEmpty = xs.isEmpty by cases xs <;> rfl] at e
  simp [gNe, e]
theorem sh_cond (pot so : D) (xs ys : List (List Int)) : shCond (shTo pot so xs ys) = .ok (!xs.isEmpty) (shTo pot so xs ys) := by
  have h := gne_nil xs
  simp [shCond, shTo, h, small]
theorem sh_body {pot so : D} {xs ys : List (List Int)} (hp : PotOk pot) (h1 : 0 < xs.length) (h2 : xs.length + ys.length < 1000000) : ∃ j x pot', xs[j]? = some x ∧ PotOk pot' ∧ shBody (shTo pot so xs ys) = .ok .nx (shTo pot' so (xs.eraseIdx j) (ys ++ [x])) := by
  obtain ⟨r, pot', r0, r1, hp', hc⟩ := draw_call (ρ := shTo pot so xs ys) (s := (xs.length : Int)) rfl hp (by omega) (by omega)
  obtain ⟨x, hx, hpop⟩ := pop_at (xs := xs) r0 r1 (by omega)
  refine ⟨r.toNat, x, pot', hx, hp', ?_⟩
  have a0 : eCall 2 (some 0) m_law_draw (argsN 2) (aCons (eVar 0) (aCons (eCB cLen (aCons (eVar 2) aNil)) aNil)) (shTo pot so xs ys) = .ok (.d (.int r)) (shTo pot' so xs ys) := by
    have : eCall 2 (some 0) m_law_draw (argsN 2) (aCons (eVar 0) (aCons (eCB cLen (aCons (eVar 2) aNil)) aNil)) (shTo pot so xs ys) = callEnd (some 0) m_law_draw (argsN 2) [.o 0, .d (.int (xs.length : Int))] (shTo pot so xs ys) := by
      generalize m_law_draw = f
      simp [shTo, cLen]
    rw [this, hc]; rfl
  unfold shBody
  generalize eCall 2 (some 0) m_law_draw (argsN 2) (aCons (eVar 0) (aCons (eCB cLen (aCons (eVar 2) aNil)) aNil)) = C at a0 ⊢
  have p1 : eMeth 2 mPopAt (aCons C aNil) (shTo pot so xs ys) = .ok (.d (tupD x)) (shTo pot' so (xs.eraseIdx r.toNat) ys) := by
    have g2 : (shTo pot so xs ys)[2]? = some (.own (.lst (xs.map tupD))) := rfl
    have g2' : (shTo pot' so xs ys)[2]? = some (.own (.lst (xs.map tupD))) := rfl
    simp [eMeth, g2, a0, g2', hpop]
    rfl
  have ha : mApp (.lst (ys.map tupD)) [tupD x] = some (.non, .lst ((ys ++ [x]).map tupD)) := by
    show (if small ((ys.map tupD).length + 1) = true then _ else _) = _
    rw [if_pos (small_of (by rw [List.length_map]; omega))]
    simp
  have g3 : (shTo pot so xs ys)[3]? = some (.own (.lst (ys.map tupD))) := rfl
  have g3' : (shTo pot' so (xs.eraseIdx r.toNat) ys)[3]? = some (.own (.lst (ys.map tupD))) := rfl
  generalize eMeth 2 mPopAt (aCons C aNil) = C2 at p1 ⊢
  rw [ev_expr]
  have p2 : eMeth 3 mApp (aCons C2 aNil) (shTo pot so xs ys) = .ok (.d .non) (shTo pot' so (xs.eraseIdx r.toNat) (ys ++ [x])) := by
    simp [eMeth, g3, p1, g3', ha]
    simp [shTo]
  rw [p2]; rfl
end Gk30
set_option maxHeartbeats 4000000
namespace Gk30
open PySem L2 PL
theorem while_yes {c : Rho → Rs Bool} {body : Sx} {n : Nat} {ρ ρ1 ρ2 : Rho} (h1 : c ρ = .ok true ρ1) (h2 : body ρ1 = .ok .nx ρ2) : whileG c body (n + 1) ρ = whileG c body n ρ2 := by
  have e : whileG c body (n + 1) ρ = (c ρ).bind fun b ρ1 => if b = true then (match body ρ1 with
      | .ok .nx ρ2 => whileG c body n ρ2
      | .ok .ct ρ2 => whileG c body n ρ2
      | .ok .bk ρ2 => .ok .nx ρ2
      | r => r) else .ok .nx ρ1 := rfl
  rw [e, h1, bind_ok, if_pos rfl, h2]
theorem while_no {c : Rho → Rs Bool} {body : Sx} {n : Nat} {ρ ρ1 : Rho} (h1 : c ρ = .ok false ρ1) : whileG c body (n + 1) ρ = .ok .nx ρ1 := by
  have e : whileG c body (n + 1) ρ = (c ρ).bind fun b ρ1 => if b = true then (match body ρ1 with
      | .ok .nx ρ2 => whileG c body n ρ2
      | .ok .ct ρ2 => whileG c body n ρ2
      | .ok .bk ρ2 => .ok .nx ρ2
      | r => r) else .ok .nx ρ1 := rfl
  rw [e, h1, bind_ok, if_neg Bool.false_ne_true]
theorem erase_perm {α : Type} : ∀ {xs : List α} {j : Nat} {x : α}, xs[j]? = some x → (x :: xs.eraseIdx j).Perm xs
  | [], j, x, h => by simp at h
  | a :: xs, 0, x, h => by
    have : a = x := by simpa using h
    subst this
    exact List.Perm.refl _
  | a :: xs, j + 1, x, h => by
    have ih := erase_perm (xs := xs) (j := j) (x := x) (by simpa using h)
    exact (List.Perm.swap a x _).trans (ih.cons a)
theorem sh_while {so : D} : ∀ (n : Nat) {xs ys : List (List Int)} {pot : D}, xs.length < n → PotOk pot → xs.length + ys.length < 1000000 → ∃ zs pot', zs.Perm xs ∧ PotOk pot' ∧ whileG shCond shBody n (shTo pot so xs ys) = .ok .nx (shTo pot' so [] (ys ++ zs))
  | 0, xs, ys, pot, h, _, _ => by omega
  | n + 1, xs, ys, pot, h, hp, hl => by
    cases xs with
    | nil => exact ⟨[], pot, List.Perm.refl _, hp, by rw [while_no (sh_cond pot so [] ys), List.append_nil]⟩
    | cons a xs =>
      obtain ⟨j, x, pot1, hx, hp1, e⟩ := sh_body (so := so) (ys := ys) hp (xs := a :: xs) (by simp) hl
      have hj : j < (a :: xs).length := (List.getElem?_eq_some_iff.mp hx).1
      have hlen : ((a :: xs).eraseIdx j).length = (a :: xs).length - 1 := List.length_eraseIdx_of_lt hj
      obtain ⟨zs, pot2, hz, hp2, e2⟩ := sh_while n (xs := (a :: xs).eraseIdx j) (ys := ys ++ [x]) (so := so) (pot := pot1) (by rw [hlen]; omega) hp1 (by rw [hlen, List.length_append]; simp at hl ⊢; omega)
      refine ⟨x :: zs, pot2, ?_, hp2, ?_⟩
      · have hxj : (a :: xs)[j] = x := by
          have := List.getElem?_eq_getElem hj
          rw [hx] at this
          exact (Option.some.inj this).symm
        have := erase_perm hx
        exact (hz.cons x).trans this
      · rw [while_yes (sh_cond pot so (a :: xs) ys) e, e2]
        simp
end Gk30
set_option maxHeartbeats 4000000
namespace Gk30
open PySem L2 PL
theorem p_shuffled {pot : D} {xs : List (List Int)} (hp : PotOk pot) (hl : xs.length < 4096) : ∃ (zs : List (List Int)) (pot' : D), zs.Perm xs ∧ PotOk pot' ∧ m_law_shuffled [pot, .lst (xs.map tupD)] = .ok (.lst (zs.map tupD)) true pot' := by
  obtain ⟨zs, pot', hz, hp', e⟩ := sh_while (so := .lst (xs.map tupD)) 4096 (xs := xs) (ys := []) (pot := pot) hl hp (by simp; omega)
  refine ⟨zs, pot', hz, hp', ?_⟩
  have a1 : sPar2 true 2 true 3 (eCB cList (aCons (eVar 1) aNil)) (eLst aNil) [.own pot, .dat (.lst (xs.map tupD)), .un, .un] = .ok .nx (shTo pot (.lst (xs.map tupD)) xs []) := by
    have hc : cList [.lst (xs.map tupD)] = some (.f (.lst (xs.map tupD))) := rfl
    simp [hc, small, shTo]
  have w : sWhile 4096 shCond shBody (shTo pot (.lst (xs.map tupD)) xs []) = .ok .nx (shTo pot' (.lst (xs.map tupD)) [] zs) := by
    rw [List.nil_append] at e
    exact e
  exact run_o (i := 3) (io := some 0) (b := b_law_shuffled) (ρ0 := [.own pot, .dat (.lst (xs.map tupD)), .un, .un]) (ρ := shTo pot' (.lst (xs.map tupD)) [] zs) (s := .own (.lst (zs.map tupD))) rfl ((seq_nx a1).trans ((seq_nx w).trans (by simp [shTo]))) (by decide) rfl rfl
end Gk30
set_option maxHeartbeats 4000000
namespace Gk30
open PySem L2 PL
theorem lex_eq : ∀ a b : List Int, HT.lexLt a b = lexI a b
  | [], [] => rfl
  | [], _ :: _ => rfl
  | _ :: _, [] => rfl
  | x :: r, y :: t => by
    have ih := lex_eq r t
    unfold HT.lexLt lexI
    rw [ih]
    by_cases h : x < y
    · have : ¬ x = y := by omega
      simp [h, this]
    · by_cases h2 : y < x
      · have : ¬ x = y := by omega
        simp [h, h2, this]
      · have : x = y := by omega
        simp [h, h2, this]
theorem adj_of {ts : List (List Int)} (h : ts.Pairwise fun a b => lexI a b = true) : adj HT.lexLt ts = true := by
  induction ts with
  | nil => rfl
  | cons a ts ih =>
    cases ts with
    | nil => rfl
    | cons b r =>
      rw [List.pairwise_cons] at h
      show (HT.lexLt a b && adj HT.lexLt (b :: r)) = true
      rw [lex_eq, h.1 b List.mem_cons_self, ih h.2]; rfl
theorem sortL_up {ts : List (List Int)} (hn : ts.Nodup) : (sortL ts).Pairwise fun a b => lexI a b = true := by
  have h1 := sortL_le ts
  have h2 : (sortL ts).Pairwise fun a b => a ≠ b := (sortL_perm ts).nodup_iff.mpr hn
  refine (h1.and h2).imp fun {a b} h => ?_
  cases e : lexI a b with
  | true => rfl
  | false => exact absurd (lexI_total a b e h.1) h.2
end Gk30
set_option maxHeartbeats 4000000
namespace Gk30
open PySem L2 PL
theorem gix_lst {xs : List D} {r : Int} (h0 : 0 ≤ r) (h1 : r < xs.length) : ∃ x, x ∈ xs ∧ gIx (.lst xs) (.int r) = some (.d x) := by
  have hj : r.toNat < xs.length := by omega
  have e1 : ixN xs.length r = some r.toNat := by
    unfold ixN
    rw [if_pos h0, if_pos h1]
  refine ⟨xs[r.toNat], List.getElem_mem hj, ?_⟩
  have hy : xs[r.toNat]? = some xs[r.toNat] := List.getElem?_eq_getElem hj
  simp [gIx, gOr, gIxL, gIxSeq, atI, e1, hy]
theorem pick_step {f : FT} {pot pot' x : D} {xs : List D} {r : Int} (hc : callEnd (some 0) f (argsN 2) [.o 0, .d (.int xs.length)] [.own pot, .dat (.lst xs)] = .ok (.d (.int r)) [.own pot', .dat (.lst xs)]) (hx : gIx (.lst xs) (.int r) = some (.d x)) :
    (sRet (eBin gIx (eVar 1) (eCall 2 (some 0) f (argsN 2) (aCons (eVar 0) (aCons (eCB cLen (aCons (eVar 1) aNil)) aNil))))) [.own pot, .dat (.lst xs)] = .ok (.rt (.d x)) [.own pot', .dat (.lst xs)] := by
  simp [cLen, hc, hx]
theorem p_pick {pot : D} {xs : List D} (hp : PotOk pot) (h : 0 < xs.length) (h2 : xs.length < 1000000) : ∃ x pot', x ∈ xs ∧ PotOk pot' ∧ m_law_pick [pot, .lst xs] = .ok x false pot' := by
  obtain ⟨r, pot', r0, r1, hp', hc⟩ := draw_call (ρ := [.own pot, .dat (.lst xs)]) (s := (xs.length : Int)) rfl hp (by omega) (by omega)
  obtain ⟨x, hx, e⟩ := gix_lst r0 r1
  exact ⟨x, pot', hx, hp', run_d (io := some 0) (b := b_law_pick) (ρ0 := [.own pot, .dat (.lst xs)]) (ρ := [.own pot', .dat (.lst xs)]) rfl (pick_step hc e)⟩
/-! _law_any -/
theorem neOk_vt {m : Nat} {ts : List (List Int)} (h : ∀ t ∈ ts, VT m t) : neOk ts = true := List.all_eq_true.mpr fun t ht => by
  obtain ⟨a, b, c, rfl, _⟩ := h t ht
  rfl
theorem sort_lst {ts : List (List Int)} {m : Nat} (h : ∀ t ∈ ts, VT m t) : ∃ p, cSortA [.lst (ts.map tupD)] = some p ∧ p = .f (.lst ((sortL ts).map tupD)) := by
  refine ⟨_, ?_, rfl⟩
  cases ts with
  | nil => simp [cSortA, cOr, cSortI, cSortIT, intsOf, sortI, sortL]
  | cons t ts =>
    obtain ⟨a, b, c, rfl, _⟩ := h t (List.mem_cons_self)
    have e1 : cSortI [.lst (([a, b, c] :: ts).map tupD)] = none := rfl
    have e2 : cSortIT [.lst (([a, b, c] :: ts).map tupD)] = none := rfl
    have e3 : cSortL [.lst (([a, b, c] :: ts).map tupD)] = some (.f (.lst ((sortL ([a, b, c] :: ts)).map tupD))) := by
      show (match tupsOf (([a, b, c] :: ts).map tupD) with | some nss => if neOk nss then some (Pd.f (.lst ((sortL nss).map tupD))) else none | none => none) = _
      rw [tupsOf_map]
      show (if neOk ([a, b, c] :: ts) = true then _ else _) = _
      rw [if_pos (neOk_vt h)]
    unfold cSortA cOr
    simp only [e1, e2, e3]
theorem sort_tup {ts : List (List Int)} {m : Nat} (h : ∀ t ∈ ts, VT m t) : cSortA [.tup (ts.map tupD)] = some (.f (.lst ((sortL ts).map tupD))) := by
  cases ts with
  | nil => simp [cSortA, cOr, cSortI, cSortIT, intsOf, sortI, sortL]
  | cons t ts =>
    obtain ⟨a, b, c, rfl, _⟩ := h t (List.mem_cons_self)
    have e1 : cSortI [.tup (([a, b, c] :: ts).map tupD)] = none := rfl
    have e2 : cSortIT [.tup (([a, b, c] :: ts).map tupD)] = none := rfl
    have e3 : cSortL [.tup (([a, b, c] :: ts).map tupD)] = none := rfl
    have e4 : cSortT [.tup (([a, b, c] :: ts).map tupD)] = some (.f (.lst ((sortL ([a, b, c] :: ts)).map tupD))) := by
      show (match tupsOf (([a, b, c] :: ts).map tupD) with | some nss => if neOk nss then some (Pd.f (.lst ((sortL nss).map tupD))) else none | none => none) = _
      rw [tupsOf_map]
      show (if neOk ([a, b, c] :: ts) = true then _ else _) = _
      rw [if_pos (neOk_vt h)]
    unfold cSortA cOr
    simp only [e1, e2, e3, e4]
theorem lot_of {m : Nat} {ts : List (List Int)} (h3 : 3 ≤ m) (h30 : m ≤ 30) (hl : ts.length ≤ 1000) (hv : ∀ t ∈ ts, VT m t) (hn : ts.Nodup) : Lot m (sortL ts) :=
  ⟨h3, h30, by rw [(sortL_perm ts).length_eq]; exact hl, fun t ht => hv t ((sortL_perm ts).mem_iff.mp ht), adj_of (sortL_up hn)⟩
theorem any_step {f g h : FT} {m : Nat} {most r : Int} {pot pot1 pot2 : D} {zs all : List (List Int)} (hm : g [.int m] = .ok (.lst (all.map tupD)) true .non)
    (hf : callEnd (some 0) f (argsN 2) [.o 0, .d (.lst (all.map tupD))] [.own pot, .dat (.int m), .dat (.int most)] = .ok (.f (.lst (zs.map tupD))) [.own pot1, .dat (.int m), .dat (.int most)])
    (hh : callEnd (some 0) h (argsN 2) [.o 0, .d (.int (most + 1))] [.own pot1, .dat (.int m), .dat (.int most)] = .ok (.d (.int r)) [.own pot2, .dat (.int m), .dat (.int most)])
    {ts : List (List Int)} (hs : gSl (.lst (zs.map tupD)) none (some r) = some (.f (.lst (ts.map tupD)))) (hc : cSortA [.lst (ts.map tupD)] = some (.f (.lst ((sortL ts).map tupD)))) :
    (sRet (eTup (aCons (eK (.str "lot")) (aCons (eVar 1) (aCons (eCB cTuple (aCons (eCB cSortA (aCons (eSl (eCall 2 (some 0) f (argsN 2) (aCons (eVar 0) (aCons (eCall 1 none g (argsN 1) (aCons (eVar 1) aNil)) aNil))) oNone (oSome (eCall 2 (some 0) h (argsN 2) (aCons (eVar 0) (aCons (eBin gAdd (eVar 2) (eK (.int 1))) aNil))))) aNil)) aNil)) aNil))))) [.own pot, .dat (.int m), .dat (.int most)]
      = .ok (.rt (.d (LOT m (sortL ts)))) [.own pot2, .dat (.int m), .dat (.int most)] := by
  have ht : cTuple [.lst ((sortL ts).map tupD)] = some (.d (.tup ((sortL ts).map tupD))) := rfl
  simp [hm, hf, hs, hh, hc, gadd_i, ht, small, LOT]
theorem sl_to (xs : List D) {r : Int} (h : 0 ≤ r) : gSl (.lst xs) none (some r) = some (.f (.lst (xs.take r.toNat))) := by
  obtain ⟨k, rfl⟩ : ∃ k : Nat, r = k := ⟨r.toNat, by omega⟩
  show some (Pd.f (.lst (cutD xs none (some (k : Int))))) = _
  rw [cut_to]; rfl
theorem tris_len {m : Nat} (hm : m ≤ 7) : (tris m).length < 4096 := by
  have : m = 0 ∨ m = 1 ∨ m = 2 ∨ m = 3 ∨ m = 4 ∨ m = 5 ∨ m = 6 ∨ m = 7 := by omega
  rcases this with rfl | rfl | rfl | rfl | rfl | rfl | rfl | rfl <;> decide
theorem p_any {pot : D} {m : Nat} {most : Int} (hp : PotOk pot) (h3 : 3 ≤ m) (h7 : m ≤ 7) (h0 : 0 ≤ most) (h1 : most ≤ 1000) : ∃ ts pot', Lot m ts ∧ ts.Nodup ∧ (ts.length : Int) ≤ most ∧ PotOk pot' ∧ m_law_any [pot, .int m, .int most] = .ok (LOT m ts) false pot' := by
  obtain ⟨zs, pot1, hz, hp1, e1⟩ := p_shuffled hp (tris_len h7)
  obtain ⟨r, pot2, r0, r1, hp2, e2⟩ := draw_call (ρ := [.own pot1, .dat (.int m), .dat (.int most)]) (s := most + 1) rfl hp1 (by omega) (by omega)
  have hsub : ∀ t ∈ zs.take r.toNat, t ∈ tris m := fun t ht => hz.mem_iff.mp (List.mem_of_mem_take ht)
  have hv : ∀ t ∈ zs.take r.toNat, VT m t := fun t ht => tris_vt t (hsub t ht)
  have hnz : zs.Nodup := hz.nodup_iff.mpr (tris_nodup m)
  have hn : (zs.take r.toNat).Nodup := hnz.sublist (List.take_sublist _ _)
  have hl : (zs.take r.toNat).length ≤ r.toNat := by rw [List.length_take]; omega
  have hlot := lot_of h3 (by omega) (by omega) hv hn
  obtain ⟨p, hs, rfl⟩ := sort_lst hv
  refine ⟨sortL (zs.take r.toNat), pot2, hlot, (sortL_perm _).nodup_iff.mpr hn, by rw [(sortL_perm _).length_eq]; omega, hp2, ?_⟩
  refine run_d (io := some 0) (b := b_law_any) (ρ0 := [.own pot, .dat (.int m), .dat (.int most)]) (ρ := [.own pot2, .dat (.int m), .dat (.int most)]) rfl (any_step (p_all_triples (by omega)) (ce_io (n := 2) (as := [.d (.lst ((tris m).map tupD))]) (ds := [.lst ((tris m).map tupD)]) rfl rfl rfl |>.trans (by rw [e1]; rfl)) e2 ?_ hs)
  rw [sl_to _ r0, List.map_take]
/-! _law_with -/
theorem gadd_t {xs ys : List D} (h : xs.length + ys.length ≤ 1000000) : gAdd (.tup xs) (.tup ys) = some (.d (.tup (xs ++ ys))) := by
  have : small (xs.length + ys.length) = true := small_of (by omega)
  simp [gAdd, gOr, gAddI, g2I, gAddS, gAddL, gAddT, this]
theorem with_step {m : Nat} {ts : List (List Int)} {t : List Int} {us : List D} (ha : gAdd (.tup (ts.map tupD)) (.tup [tupD t]) = some (.d (.tup us))) (hc : cSortA [.tup us] = some (.f (.lst ((sortL (ts ++ [t])).map tupD)))) :
    (sRet (eBin gAdd (eSl (eVar 0) oNone (oSome (eK (.int 2)))) (eTup (aCons (eCB cTuple (aCons (eCB cSortA (aCons (eBin gAdd (eBin gIx (eVar 0) (eK (.int 2))) (eTup (aCons (eVar 1) aNil))) aNil)) aNil)) aNil)))) [.dat (LOT m ts), .dat (tupD t)] = .ok (.rt (.d (LOT m (sortL (ts ++ [t]))))) [.dat (LOT m ts), .dat (tupD t)] := by
  have ht : cTuple [.lst ((sortL (ts ++ [t])).map tupD)] = some (.d (.tup ((sortL (ts ++ [t])).map tupD))) := rfl
  simp [head2, ixl2, ha, hc, ht, small, add_lot]
theorem p_with {m : Nat} {ts : List (List Int)} {t : List Int} (hl : ts.length ≤ 1000) (h : ∀ u ∈ ts ++ [t], VT m u) : m_law_with [LOT m ts, tupD t] = .ok (LOT m (sortL (ts ++ [t]))) false .non :=
  run_d (b := b_law_with) (ρ0 := [.dat (LOT m ts), .dat (tupD t)]) (ρ := [.dat (LOT m ts), .dat (tupD t)]) rfl (with_step (gadd_t (by rw [List.length_map]; simp; omega)) (by
    have := sort_tup h
    rwa [List.map_append] at this))
end Gk30
set_option maxHeartbeats 4000000
namespace Gk30
open PySem L2 PL
def leftL (m : Nat) (ts : List (List Int)) : List (List Int) := (prs m).filter fun p => cn ts p == 0
theorem gnotin_int (x a b : Int) : gNotIn (.int x) (tupD [a, b]) = some (.d (.bl (!(x == a || x == b)))) := by
  have e1 : pyD (.int x) = some (.int x) := by simp [pyD]
  have e2 : pyDs [D.int a, D.int b] = some [.int a, .int b] := by simp [pyDs, pyD]
  have s1 : SeqAt.shaped (.int x) = true := by
    obtain ⟨p, h1, h2⟩ := (gdn_int (n := 64) x).sh
    rw [e1] at h1; cases h1; exact h2
  have s2 : SeqAt.shaped (.list [.int a, .int b]) = true := by
    have g : gdn 64 (.lst [D.int a, D.int b]) := gdn_lst (n := 63) fun d hd => by
      simp at hd
      rcases hd with rfl | rfl <;> exact gdn_int _
    obtain ⟨p, h1, h2⟩ := g.sh
    have e3 : pyD (.lst [D.int a, D.int b]) = some (.list [.int a, .int b]) := by simp [pyD, e2]
    rw [e3] at h1; cases h1; exact h2
  have h : inSeqD (.int x) [D.int a, D.int b] = some (x == a || x == b) := by
    unfold inSeqD
    rw [e1, e2]
    have h1 : (a == x) = (x == a) := Bool.beq_comm
    have h2 : (b == x) = (x == b) := Bool.beq_comm
    simp [s1, s2, PyData.eqv, h1, h2]
  have h2 : gInSeq true (.int x) (tupD [a, b]) = some (.d (.bl (!(x == a || x == b)))) := by
    show (inSeqD (.int x) [D.int a, D.int b]).map (fun b => Pd.d (.bl (if true = true then !b else b))) = _
    rw [h]; rfl
  unfold gNotIn gOr
  rw [h2]
def unI : D → Int
  | .int i => i
  | _ => 0
/-- things beside a pair -/
def beside (m : Nat) (a b : Int) : List Nat := (List.range m).filter fun j => !(((j : Nat) : Int) == a || ((j : Nat) : Int) == b)
theorem beside_run {m : Nat} (hm : m ≤ 30) {a b : Int} {s0 s2 s4 : Sl} : eComp (itRng1 (aCons (eVar 1) aNil)) (.one 5) (tB (eBin gNotIn (eVar 5) (eVar 3))) (eVar 5) [s0, .dat (.int m), s2, .dat (tupD [a, b]), s4, .un]
    = .ok (.f (.lst ((beside m a b).map fun j => D.int ((j : Nat) : Int)))) [s0, .dat (.int m), s2, .dat (tupD [a, b]), s4, .un] := by
  have h := comp_gen (ct := .one 5) (cond := tB (eBin gNotIn (eVar 5) (eVar 3))) (elt := eVar 5) (it := itRng1 (aCons (eVar 1) aNil)) (ρ := [s0, .dat (.int m), s2, .dat (tupD [a, b]), s4, .un]) (ds := rngD 0 m)
    (fun d => [s0, .dat (.int m), s2, .dat (tupD [a, b]), s4, .dat d]) (fun d => !(unI d == a || unI d == b)) (fun d => d)
    (rng1_run (j := (m : Int)) (by simp) (inl_of (by omega) (by omega))) rfl rfl rfl (fun d hd => by
      rw [rng1_eq] at hd
      obtain ⟨j, _, rfl⟩ := List.mem_map.mp hd
      refine ⟨rfl, rfl, ?_, fun _ => ⟨.d (.int j), by simp, rfl⟩⟩
      simp [gnotin_int, unI]) (small_of (by
        rw [List.length_map]
        have := List.length_filter_le (fun d => !(unI d == a || unI d == b)) (rngD 0 m)
        rw [rng1_eq, List.length_map, List.length_range] at this
        rw [rng1_eq]
        omega))
  rw [rng1_eq, List.filter_map, List.map_map] at h
  exact h
theorem mem_beside {m : Nat} {a b : Int} {j : Nat} : j ∈ beside m a b ↔ j < m ∧ (j : Int) ≠ a ∧ (j : Int) ≠ b := by
  unfold beside
  rw [List.mem_filter, List.mem_range]
  simp
theorem beside_pos {m : Nat} {a b : Int} (h3 : 3 ≤ m) : 0 < (beside m a b).length := by
  have : ∃ j, j ∈ beside m a b := by
    by_cases h0 : a ≠ 0 ∧ b ≠ 0
    · exact ⟨0, mem_beside.mpr ⟨by omega, by omega, by omega⟩⟩
    · by_cases h1 : a ≠ 1 ∧ b ≠ 1
      · exact ⟨1, mem_beside.mpr ⟨by omega, by omega, by omega⟩⟩
      · exact ⟨2, mem_beside.mpr ⟨by omega, by omega, by omega⟩⟩
  obtain ⟨j, hj⟩ := this
  exact List.length_pos_of_mem hj
theorem sort3 {m : Nat} {a b c : Int} (h0 : 0 ≤ a) (h1 : a < b) (h2 : b < m) (hc : 0 ≤ c) (hcm : c < m) (ha : c ≠ a) (hb : c ≠ b) : ∃ t, sortI [a, b, c] = t ∧ VT m t ∧ [a, b] ∈ pr t := by
  by_cases k1 : c < a
  · have e : [c, a, b] = sortI [a, b, c] := sortI_eq ((List.Perm.swap a c [b]).trans (List.Perm.cons a (List.Perm.swap b c []))) (by simp; omega)
    exact ⟨_, e.symm, ⟨c, a, b, rfl, hc, k1, h1, h2⟩, by simp [pr]⟩
  · by_cases k2 : c < b
    · have e : [a, c, b] = sortI [a, b, c] := sortI_eq (List.Perm.cons a (List.Perm.swap b c [])) (by simp; omega)
      exact ⟨_, e.symm, ⟨a, c, b, rfl, h0, by omega, k2, h2⟩, by simp [pr]⟩
    · have e : [a, b, c] = sortI [a, b, c] := sortI_eq (List.Perm.refl _) (by simp; omega)
      exact ⟨_, e.symm, ⟨a, b, c, rfl, h0, h1, by omega, hcm⟩, by simp [pr]⟩
/-! what a turn does to the left pairs -/
theorem cn_perm {ts us : List (List Int)} (h : ts.Perm us) (p : List Int) : cn ts p = cn us p := by
  unfold cn
  rw [(h.flatMap_right pr).count_eq]
theorem cn_snoc (ts : List (List Int)) (t p : List Int) : cn (ts ++ [t]) p = cn ts p + (((pr t).count p : Nat) : Int) := by
  rw [cn_perm (List.perm_append_comm) p]
  show cn (t :: ts) p = _
  rw [cn_cons]; omega
theorem left_less {m : Nat} {ts : List (List Int)} {t p : List Int} (hp : p ∈ leftL m ts) (ht : p ∈ pr t) : (leftL m (sortL (ts ++ [t]))).length < (leftL m ts).length := by
  have hsub : List.Sublist (leftL m (sortL (ts ++ [t]))) (leftL m ts) := by
    unfold leftL
    have e : (prs m).filter (fun q => cn (sortL (ts ++ [t])) q == 0) = ((prs m).filter fun q => cn ts q == 0).filter (fun q => cn (sortL (ts ++ [t])) q == 0) := by
      rw [List.filter_filter]
      refine List.filter_congr fun q _ => ?_
      rw [cn_perm (sortL_perm _) q, cn_snoc]
      have := cn_nonneg ts q
      rw [Bool.eq_iff_iff]
      simp
      omega
    rw [e]
    exact List.filter_sublist
  rcases Nat.lt_or_eq_of_le hsub.length_le with h | h
  · exact h
  · have e := hsub.eq_of_length h
    rw [← e] at hp
    have h2 := (List.mem_filter.mp hp).2
    rw [cn_perm (sortL_perm _) p, cn_snoc] at h2
    have h3 := cn_nonneg ts p
    have h4 : 0 < (pr t).count p := List.count_pos_iff.mpr ht
    simp at h2
    omega
theorem left_new {m : Nat} {ts : List (List Int)} {t p : List Int} (hp : p ∈ leftL m ts) (ht : p ∈ pr t) : t ∉ ts := fun h => by
  have h2 := (List.mem_filter.mp hp).2
  have : 0 < (ts.flatMap pr).count p := List.count_pos_iff.mpr (List.mem_flatMap.mpr ⟨t, h, ht⟩)
  simp [cn] at h2
  omega
def wTo (pot : D) (m : Nat) (ts : List (List Int)) (s3 s4 : Sl) : Rho := [.own pot, .dat (.int m), .dat (LOT m ts), s3, s4, .un]
def wCond : Rho → Rs Bool := tNotP (tB (eCall 1 none m_law_is_wide (argsN 1) (aCons (eVar 2) aNil)))
def wBody : Sx := (sSeq (sAsg (eBin gIx (eCall 1 none m_law_left (argsN 1) (aCons (eVar 2) aNil)) (eK (.int 0))) (gS false 3))
  (sSeq (sAsg (eCall 2 (some 0) m_law_pick (argsN 2) (aCons (eVar 0) (aCons (eComp (itRng1 (aCons (eVar 1) aNil)) (.one 5) (tB (eBin gNotIn (eVar 5) (eVar 3))) (eVar 5)) aNil))) (gS false 4))
  (sAsg (eCall 2 none m_law_with (argsN 2) (aCons (eVar 2) (aCons (eCB cTuple (aCons (eCB cSortA (aCons (eBin gAdd (eVar 3) (eTup (aCons (eVar 4) aNil))) aNil)) aNil)) aNil))) (gS false 2))))
theorem cond_step {f : FT} {pot : D} {m : Nat} {ts : List (List Int)} {s3 s4 : Sl} {b : Bool} (hf : f [LOT m ts] = .ok (.bl b) false .non) : tNotP (tB (eCall 1 none f (argsN 1) (aCons (eVar 2) aNil))) (wTo pot m ts s3 s4) = .ok (!b) (wTo pot m ts s3 s4) := by
  simp [wTo, hf]
theorem w1_step {f : FT} {pot : D} {m : Nat} {ts : List (List Int)} {s3 s4 : Sl} {p : List Int} {r : List D} (n3 : isLent (some s3) = false) (hf : f [LOT m ts] = .ok (.lst (tupD p :: r)) true .non) : sAsg (eBin gIx (eCall 1 none f (argsN 1) (aCons (eVar 2) aNil)) (eK (.int 0))) (gS false 3) (wTo pot m ts s3 s4) = .ok .nx (wTo pot m ts (.dat (tupD p)) s4) := by
  have : gIx (.lst (tupD p :: r)) (.int 0) = some (.d (tupD p)) := by
    have h1 : ixN (tupD p :: r).length 0 = some 0 := by unfold ixN; rw [if_pos (by omega), if_pos (by simp)]; rfl
    simp [gIx, gOr, gIxL, gIxSeq, atI]
    simp at h1
    rw [h1]; rfl
  simp [wTo, hf, this, n3]
theorem w2_step {f : FT} {C : Ex} {pot pot' x : D} {m : Nat} {ts : List (List Int)} {s3 s4 : Sl} {xs : D} (n4 : isLent (some s4) = false) (hC : C (wTo pot m ts s3 s4) = .ok (.f xs) (wTo pot m ts s3 s4)) (hf : callEnd (some 0) f (argsN 2) [.o 0, .d xs] (wTo pot m ts s3 s4) = .ok (.d x) (wTo pot' m ts s3 s4)) :
    sAsg (eCall 2 (some 0) f (argsN 2) (aCons (eVar 0) (aCons C aNil))) (gS false 4) (wTo pot m ts s3 s4) = .ok .nx (wTo pot' m ts s3 (.dat x)) := by
  have g : eVar 0 (wTo pot m ts s3 s4) = .ok (.o 0) (wTo pot m ts s3 s4) := rfl
  have l : isLent (wTo pot' m ts s3 s4)[4]? = false := n4
  simp only [ev_asg, ev_call, ev_cons, g, bind_ok, hC, ev_nil, ag_d, List.length_cons, List.length_nil, and_self, if_true, List.append_nil]
  show ((callEnd (some 0) f (argsN 2) [.o 0, .d xs] (wTo pot m ts s3 s4)).bind _) = _
  rw [hf]
  simp [l]
  rfl
theorem w3_step {f : FT} {pot : D} {m : Nat} {ts us : List (List Int)} {a b c : Int} (hf : f [LOT m ts, tupD (sortI [a, b, c])] = .ok (LOT m us) false .non) :
    sAsg (eCall 2 none f (argsN 2) (aCons (eVar 2) (aCons (eCB cTuple (aCons (eCB cSortA (aCons (eBin gAdd (eVar 3) (eTup (aCons (eVar 4) aNil))) aNil)) aNil)) aNil))) (gS false 2) (wTo pot m ts (.dat (tupD [a, b])) (.dat (.int c))) = .ok .nx (wTo pot m us (.dat (tupD [a, b])) (.dat (.int c))) := by
  have h1 : gAdd (tupD [a, b]) (.tup [.int c]) = some (.d (tupD [a, b, c])) := rfl
  have h2 : cSortA [tupD [a, b, c]] = some (.f (.lst ((sortI [a, b, c]).map .int))) := rfl
  have h3 : cTuple [.lst ((sortI [a, b, c]).map .int)] = some (.d (tupD (sortI [a, b, c]))) := rfl
  simp [wTo, h1, h2, h3, small, hf]
theorem w_turn {pot : D} {m : Nat} {ts : List (List Int)} {s3 s4 : Sl} (n3 : isLent (some s3) = false) (n4 : isLent (some s4) = false) (hp : PotOk pot) (L : Lot m ts) (hn : ts.Nodup) (hl : ts.length < 1000) (hw : wide m ts = false) :
    ∃ us pot' s3' s4', isLent (some s3') = false ∧ isLent (some s4') = false ∧ PotOk pot' ∧ Lot m us ∧ us.Nodup ∧ us.length = ts.length + 1 ∧ (leftL m us).length < (leftL m ts).length ∧ wBody (wTo pot m ts s3 s4) = .ok .nx (wTo pot' m us s3' s4') := by
  have hne : leftL m ts ≠ [] := fun e => by
    have := wide_filter m ts
    rw [hw] at this
    unfold leftL at e
    rw [e] at this; cases this
  obtain ⟨p, r, hpr⟩ := List.exists_cons_of_ne_nil hne
  have hmem : p ∈ leftL m ts := by rw [hpr]; exact List.mem_cons_self
  obtain ⟨a, b, rfl, h1, h2, h3⟩ := mem_prs.mp (List.mem_filter.mp hmem).1
  have hL := p_law_left L.hi L.vt
  have hL2 : m_law_left [LOT m ts] = .ok (.lst (tupD [a, b] :: r.map tupD)) true .non := by
    rw [hL]
    have : (prs m).filter (fun p => cn ts p == 0) = [a, b] :: r := hpr
    rw [this]; rfl
  have e1 := w1_step (pot := pot) (s4 := s4) n3 hL2
  obtain ⟨x, pot', hx, hp', e2⟩ := p_pick (pot := pot) (xs := (beside m a b).map fun j => D.int ((j : Nat) : Int)) hp (by rw [List.length_map]; exact beside_pos L.lo) (by
    rw [List.length_map]
    have := List.length_filter_le (fun j => !(((j : Nat) : Int) == a || ((j : Nat) : Int) == b)) (List.range m)
    rw [List.length_range] at this
    have := L.hi
    unfold beside
    omega)
  obtain ⟨j, hj, rfl⟩ := List.mem_map.mp hx
  obtain ⟨j1, j2, j3⟩ := mem_beside.mp hj
  have e2' := w2_step (f := m_law_pick) (C := eComp (itRng1 (aCons (eVar 1) aNil)) (.one 5) (tB (eBin gNotIn (eVar 5) (eVar 3))) (eVar 5)) (pot := pot) (pot' := pot') (x := .int j) (m := m) (ts := ts) (s3 := .dat (tupD [a, b])) (s4 := s4) n4 (beside_run L.hi)
    ((ce_io (n := 2) (as := [.d (.lst ((beside m a b).map fun j => D.int ((j : Nat) : Int)))]) (ds := [.lst ((beside m a b).map fun j => D.int ((j : Nat) : Int))]) rfl rfl rfl).trans (by rw [e2]; rfl))
  obtain ⟨t, ht, hv, hpt⟩ := sort3 h1 h2 h3 (c := (j : Int)) (by omega) (by omega) j2 j3
  have hv' : ∀ u ∈ ts ++ [t], VT m u := fun u hu => by
    rcases List.mem_append.mp hu with h | h
    · exact L.vt u h
    · rw [List.mem_singleton.mp h]; exact hv
  have hnew := left_new hmem hpt
  have hn' : (ts ++ [t]).Nodup := by
    rw [List.nodup_append]
    exact ⟨hn, by simp, fun u hu v hv e => hnew (by rw [List.mem_singleton.mp hv] at e; rw [← e]; exact hu)⟩
  have e3 := w3_step (pot := pot') (ts := ts) (us := sortL (ts ++ [t])) (f := m_law_with) (a := a) (b := b) (c := (j : Int)) (by rw [ht]; exact p_with L.ln hv')
  refine ⟨sortL (ts ++ [t]), pot', .dat (tupD [a, b]), .dat (.int j), rfl, rfl, hp', lot_of L.lo L.hi (by simp; omega) hv' hn', (sortL_perm _).nodup_iff.mpr hn', by rw [(sortL_perm _).length_eq]; simp, left_less hmem hpt, ?_⟩
  unfold wBody
  rw [seq_nx e1, seq_nx e2']
  exact e3
theorem w_loop : ∀ (n : Nat) {pot : D} {m : Nat} {ts : List (List Int)} {s3 s4 : Sl}, isLent (some s3) = false → isLent (some s4) = false → PotOk pot → Lot m ts → ts.Nodup → ts.length + (leftL m ts).length < 1000 → (leftL m ts).length < n →
    ∃ us pot' s3' s4', PotOk pot' ∧ Lot m us ∧ Good m us ∧ whileG wCond wBody n (wTo pot m ts s3 s4) = .ok .nx (wTo pot' m us s3' s4')
  | 0, _, _, _, _, _, _, _, _, _, _, _, h => by omega
  | n + 1, pot, m, ts, s3, s4, n3, n4, hp, L, hn, hl, hlt => by
    have hc : wCond (wTo pot m ts s3 s4) = .ok (!wide m ts) (wTo pot m ts s3 s4) := cond_step (p_law_wide L.hi L.vt)
    cases hw : wide m ts with
    | true =>
      rw [hw] at hc
      exact ⟨ts, pot, s3, s4, hp, L, ⟨hw, hn, L.vt⟩, while_no hc⟩
    | false =>
      rw [hw] at hc
      obtain ⟨us, pot1, s3', s4', a3, a4, hp1, L1, hn1, hlen, hless, e⟩ := w_turn n3 n4 hp L hn (by omega) hw
      obtain ⟨vs, pot2, s3'', s4'', hp2, L2, g, e2⟩ := w_loop n a3 a4 hp1 L1 hn1 (by omega) (by omega)
      exact ⟨vs, pot2, s3'', s4'', hp2, L2, g, by rw [while_yes hc e, e2]⟩
theorem asg_any {f : FT} {pot pot' x : D} {m : Nat} (hf : callEnd (some 0) f (argsN 3) [.o 0, .d (.int m), .d (.int 4)] [.own pot, .dat (.int m), .un, .un, .un, .un] = .ok (.d x) [.own pot', .dat (.int m), .un, .un, .un, .un]) :
    sAsg (eCall 3 (some 0) f (argsN 3) (aCons (eVar 0) (aCons (eVar 1) (aCons (eK (.int 4)) aNil)))) (gS false 2) [.own pot, .dat (.int m), .un, .un, .un, .un] = .ok .nx [.own pot', .dat (.int m), .dat x, .un, .un, .un] := by
  simp [hf]
theorem p_law_wide_lot {pot : D} {m : Nat} (hp : PotOk pot) (h3 : 3 ≤ m) (h7 : m ≤ 7) : ∃ ts pot', Lot m ts ∧ Good m ts ∧ PotOk pot' ∧ m_law_wide [pot, .int m] = .ok (LOT m ts) false pot' := by
  obtain ⟨ts, pot1, L, hn, hl, hp1, e1⟩ := p_any (most := 4) hp h3 h7 (by omega) (by omega)
  have hleft : (leftL m ts).length ≤ 49 := by
    have h1 := List.length_filter_le (fun p => cn ts p == 0) (prs m)
    have h2 := prs_len m
    have h3 : m * m ≤ 7 * 7 := Nat.mul_le_mul h7 h7
    unfold leftL
    omega
  obtain ⟨us, pot2, s3, s4, hp2, L2, g, e2⟩ := w_loop 4096 (s3 := .un) (s4 := .un) rfl rfl hp1 L hn (by omega) (by omega)
  refine ⟨us, pot2, L2, g, hp2, ?_⟩
  have a1 := asg_any (f := m_law_any) (pot := pot) (pot' := pot1) (x := LOT m ts) (m := m) ((ce_io (n := 3) (as := [.d (.int m), .d (.int 4)]) (ds := [.int m, .int 4]) rfl rfl rfl).trans (by rw [e1]; rfl))
  exact run_d (io := some 0) (b := b_law_wide) (ρ0 := [.own pot, .dat (.int m), .un, .un, .un, .un]) (ρ := wTo pot2 m us s3 s4) rfl ((seq_nx a1).trans ((seq_nx (s := sWhile 4096 wCond wBody) e2).trans (by simp [wTo])))
end Gk30
set_option maxHeartbeats 4000000
namespace Gk30
open PySem L2 PL
/-! ### _law_right -/
theorem lex_tr (a b c : List Int) (h1 : lexI a b = true) (h2 : lexI b c = true) : lexI a c = true := by
  cases h : lexI a c with
  | true => rfl
  | false =>
    have h3 := lexI_trans _ _ _ (lexI_asym _ _ h2) h
    rw [h1] at h3; cases h3
theorem up_of_adj : ∀ {ts : List (List Int)}, adj HT.lexLt ts = true → ts.Pairwise fun a b => lexI a b = true
  | [], _ => .nil
  | [x], _ => List.pairwise_singleton _ _
  | x :: y :: r, e => by
    unfold adj at e
    rw [Bool.and_eq_true, lex_eq] at e
    have ih := up_of_adj e.2
    refine List.pairwise_cons.mpr ⟨fun z hz => ?_, ih⟩
    rcases List.mem_cons.mp hz with rfl | hz
    · exact e.1
    · exact lex_tr _ _ _ e.1 ((List.pairwise_cons.mp ih).1 z hz)
theorem Lot.wo {m : Nat} {ts : List (List Int)} (L : Lot m ts) (t : List Int) : Lot m (wo ts t) :=
  ⟨L.lo, L.hi, Nat.le_trans (List.length_filter_le _ _) L.ln, fun u hu => L.vt u (List.mem_filter.mp hu).1, adj_of ((up_of_adj L.up).filter _)⟩
theorem Lot.step {m : Nat} {ts : List (List Int)} (L : Lot m ts) (t : List Int) : Lot m (stepS ts t) := by
  unfold stepS
  split
  · exact L.wo t
  · exact L
theorem Lot.slim {m : Nat} : ∀ (w : List (List Int)) {ts : List (List Int)}, Lot m ts → Lot m (slim ts w)
  | [], _, L => L
  | t :: w, _, L => Lot.slim w (L.step t)
theorem rep_step {f : FT} {x d : D} {fr : Bool} {ρ : Rho} {i j : Nat} {s : Str} (hi : eVar i ρ = .ok (.d x) ρ) (hj : eVar j ρ = .ok (.d d) ρ) (hf : f [x] = .ok d fr .non) (hr : cRepr [.lst [d, d]] = some (.d (.str s))) (hn : gNe (.str s) (.str s) = some (.d (.bl false))) :
    (sIf (tB (eBin gNe (eCB cRepr (aCons (eLst (aCons (eCall 1 none f (argsN 1) (aCons (eVar i) aNil)) (aCons (eCallK 0 1 none f (([0] : List Nat).map .arg) aNil (aCons (eVar i) aNil)) aNil))) aNil)) (eCB cRepr (aCons (eLst (aCons (eVar j) (aCons (eVar j) aNil))) aNil)))) (sRet (eK (.bl false))) sNext) ρ = .ok .nx ρ := by
  have c1 : callEnd none f [Src.arg 0] [.d x] ρ = resOf ρ (f [x]) := ce_p1
  cases fr <;> simp [-ev_var, hi, hj, hf, hr, hn, small, c1]
/-- texts of what is told -/
theorem small_abs {m : Nat} {p : List Int} (hm : m ≤ 30) (h : p ∈ prs m) : ∀ i ∈ p, i.natAbs < 10 ^ 12 := by
  obtain ⟨a, b, rfl, h1, h2, h3⟩ := mem_prs.mp h
  intro i hi
  simp at hi
  rcases hi with rfl | rfl <;> omega
theorem vt_abs {m : Nat} {p : List Int} (hm : m ≤ 30) (h : VT m p) : p.length = 3 ∧ ∀ i ∈ p, i.natAbs < 10 ^ 12 := by
  obtain ⟨a, b, c, rfl, h1, h2, h3, h4⟩ := h
  refine ⟨rfl, fun i hi => ?_⟩
  simp at hi
  rcases hi with rfl | rfl | rfl <;> omega
theorem rpn_tupD {n : Nat} {p : List Int} (h : ∀ i ∈ p, i.natAbs < 10 ^ 12) : rpn (n + 1) (p.length * 42) (tupD p) := by
  have := rpn_tup (n := n) (w := 41) (ds := p.map .int) fun d hd => by
    obtain ⟨i, hi, rfl⟩ := List.mem_map.mp hd
    exact rpn_int (h i hi)
  rw [List.length_map] at this
  exact this
theorem rp_vts {m : Nat} {ts : List (List Int)} (hm : m ≤ 30) (hl : ts.length ≤ 1000) (h : ∀ t ∈ ts, VT m t) : ∀ d ∈ ts.map tupD, rpn 2 126 d := fun d hd => by
  obtain ⟨t, ht, rfl⟩ := List.mem_map.mp hd
  obtain ⟨l, ha⟩ := vt_abs hm (h t ht)
  have := rpn_tupD (n := 1) ha
  rw [l] at this
  exact this
theorem rp_lst {m : Nat} {ts : List (List Int)} (hm : m ≤ 30) (hl : ts.length ≤ 1000) (h : ∀ t ∈ ts, VT m t) : rpn 63 127000 (.lst (ts.map tupD)) :=
  (rpn_lst (rp_vts hm hl h)).mono (by omega) (by rw [List.length_map]; omega)
theorem rp_lot {m : Nat} {ts : List (List Int)} (hm : m ≤ 30) (hl : ts.length ≤ 1000) (h : ∀ t ∈ ts, VT m t) : rpn 63 400000 (LOT m ts) :=
  (rpn_tup (n := 3) (w := 127000) (ds := [.str "lot", .int m, .tup (ts.map tupD)]) fun d hd => by
    simp at hd
    rcases hd with rfl | rfl | rfl
    · exact (rpn_str (n := 3) (by decide +kernel)).mono (Nat.le_refl _) (by omega)
    · exact (rpn_int (n := 3) (by omega)).mono (Nat.le_refl _) (by omega)
    · exact (rpn_tup (rp_vts hm hl h)).mono (Nat.le_refl _) (by rw [List.length_map]; omega)).mono (by omega) (by simp)
theorem cn_le (ts : List (List Int)) (h : ∀ t ∈ ts, (pr t).length ≤ 3) (p : List Int) : cn ts p ≤ 3 * ts.length := by
  unfold cn
  have h1 : (ts.flatMap pr).count p ≤ (ts.flatMap pr).length := List.count_le_length
  have h2 : (ts.flatMap pr).length ≤ 3 * ts.length := by
    clear h1
    induction ts with
    | nil => simp
    | cons t ts ih =>
      rw [List.flatMap_cons, List.length_append, List.length_cons]
      have := h t List.mem_cons_self
      have := ih fun u hu => h u (List.mem_cons_of_mem _ hu)
      omega
  omega
theorem rp_over {m : Nat} {ts : List (List Int)} (L : Lot m ts) : rpn 63 200000 (.lst (overD m ts)) := by
  have hc : ∀ p, cn ts p ≤ 3 * ts.length := cn_le ts fun t ht => by
    obtain ⟨a, b, c, rfl, _⟩ := L.vt t ht
    exact Nat.le_refl _
  have hb : ∀ d ∈ overD m ts, rpn 3 180 d := fun d hd => by
    obtain ⟨p, hp, rfl⟩ := List.mem_map.mp hd
    have hp' := (List.mem_filter.mp hp).1
    have ha := small_abs L.hi hp'
    obtain ⟨a, b, rfl, h1, h2, h3⟩ := mem_prs.mp hp'
    refine rpn_tup (n := 2) (w := 84) (ds := [tupD [a, b], .int (cn ts [a, b] - 1)]) (fun d hd => ?_) |>.mono (Nat.le_refl _) (by simp)
    simp at hd
    rcases hd with rfl | rfl
    · exact rpn_tupD (n := 1) ha
    · have := hc [a, b]
      have := cn_nonneg ts [a, b]
      have := L.ln
      exact (rpn_int (n := 2) (by omega)).mono (Nat.le_refl _) (by omega)
  refine (rpn_lst hb).mono (by omega) ?_
  have h1 := List.length_filter_le (fun p => decide (1 < cn ts p)) (prs m)
  have h2 := prs_small L.hi
  unfold overD
  rw [List.length_map]
  omega
/-! the statements -/
def SR11 (pot : D) (s1 s2 s3 s4 s5 s6 s7 s8 : Sl) : Rho := [.own pot, s1, s2, s3, s4, s5, s6, s7, s8, .un, .un]
theorem r_draws {f g h : FT} {pot p1 p2 p3 p4 A B : D} {r r2 : Int}
    (h1 : callEnd (some 0) g (argsN 2) [.o 0, .d (.int 5)] (SR11 pot .un .un .un .un .un .un .un .un) = .ok (.d (.int r)) (SR11 p1 .un .un .un .un .un .un .un .un))
    (h2 : callEnd (some 0) f (argsN 3) [.o 0, .d (.int (3 + r)), .d (.int 9)] (SR11 p1 .un .un .un .un .un .un .un .un) = .ok (.d A) (SR11 p2 .un .un .un .un .un .un .un .un))
    (h3 : callEnd (some 0) g (argsN 2) [.o 0, .d (.int 5)] (SR11 p2 .un .un .un .un .un .un .un .un) = .ok (.d (.int r2)) (SR11 p3 .un .un .un .un .un .un .un .un))
    (h4 : callEnd (some 0) h (argsN 2) [.o 0, .d (.int (3 + r2))] (SR11 p3 .un .un .un .un .un .un .un .un) = .ok (.d B) (SR11 p4 .un .un .un .un .un .un .un .un)) :
    sPar2 false 5 false 6 (eCall 3 (some 0) f (argsN 3) (aCons (eVar 0) (aCons (eBin gAdd (eK (.int 3)) (eCall 2 (some 0) g (argsN 2) (aCons (eVar 0) (aCons (eK (.int 5)) aNil)))) (aCons (eK (.int 9)) aNil)))) (eCall 2 (some 0) h (argsN 2) (aCons (eVar 0) (aCons (eBin gAdd (eK (.int 3)) (eCall 2 (some 0) g (argsN 2) (aCons (eVar 0) (aCons (eK (.int 5)) aNil)))) aNil))) (SR11 pot .un .un .un .un .un .un .un .un)
      = .ok .nx (SR11 p4 .un .un .un .un (.dat A) (.dat B) .un .un) := by
  unfold SR11 at *
  simp [h1, h2, h3, h4, gadd_i]
theorem ov_comp {g : FT} {m : Nat} {ts : List (List Int)} {s0 s2 s3 s4 s5 s6 s8 : Sl} (hm : m ≤ 30) (hg : g [.int m] = .ok (.lst ((prs m).map tupD)) true .non) :
    eComp (itSeq (eCall 1 none g (argsN 1) (aCons (eBin gIx (eVar 1) (eK (.int 1))) aNil))) (.one 9) (tB (eBin (g2I fun i j => .bl (decide (j < i))) (eBin gIxA (eVar 7) (eVar 9)) (eK (.int 1)))) (eTup (aCons (eVar 9) (aCons (eBin gSub (eBin gIxA (eVar 7) (eVar 9)) (eK (.int 1))) aNil)))
      [s0, .dat (LOT m ts), s2, s3, s4, s5, s6, .dat (.dct (dctOf (prs m) (cn ts))), s8, .un, .un] = .ok (.f (.lst (overD m ts))) [s0, .dat (LOT m ts), s2, s3, s4, s5, s6, .dat (.dct (dctOf (prs m) (cn ts))), s8, .un, .un] := by
  have h := comp_gen (ct := .one 9) (it := itSeq (eCall 1 none g (argsN 1) (aCons (eBin gIx (eVar 1) (eK (.int 1))) aNil))) (cond := tB (eBin (g2I fun i j => .bl (decide (j < i))) (eBin gIxA (eVar 7) (eVar 9)) (eK (.int 1)))) (elt := eTup (aCons (eVar 9) (aCons (eBin gSub (eBin gIxA (eVar 7) (eVar 9)) (eK (.int 1))) aNil)))
    (ρ := [s0, .dat (LOT m ts), s2, s3, s4, s5, s6, .dat (.dct (dctOf (prs m) (cn ts))), s8, .un, .un]) (ds := (prs m).map tupD) (fun d => [s0, .dat (LOT m ts), s2, s3, s4, s5, s6, .dat (.dct (dctOf (prs m) (cn ts))), s8, .dat d, .un]) (fun d => (fun p => decide (1 < cn ts p)) (unt d)) (fun d => .tup [d, .int (cn ts (unt d) - 1)]) (by simp [ixl1, hg]) rfl rfl rfl (fun d hd => by
    obtain ⟨p, hp, rfl⟩ := List.mem_map.mp hd
    refine ⟨rfl, rfl, ?_, fun _ => ⟨.d (.tup [tupD p, .int (cn ts p - 1)]), ?_, by rw [unt_tup]; rfl⟩⟩
    · simp [gIxA_dct hp, g1_lt, unt_tup]
    · simp [gIxA_dct hp, gsub_i, small]) (small_of (by
      rw [List.length_map]
      have h1 := List.length_filter_le (fun d => (fun p => decide (1 < cn ts p)) (unt d)) ((prs m).map tupD)
      rw [List.length_map] at h1
      have := prs_small hm
      omega))
  have ft := filter_tup (fun p => decide (1 < cn ts p)) (prs m)
  rw [ft, List.map_map] at h
  have e : ((prs m).filter fun p => decide (1 < cn ts p)).map ((fun d => D.tup [d, .int (cn ts (unt d) - 1)]) ∘ tupD) = overD m ts := by
    unfold overD
    refine List.map_congr_left fun p _ => ?_
    show D.tup [tupD p, .int (cn ts (unt (tupD p)) - 1)] = _
    rw [unt_tup]
  rw [e] at h
  exact h
abbrev body1 : Sx := (sSeq (sAsg (eCall 1 none m_law_counts (argsN 1) (aCons (eVar 1) aNil)) (gS false 7))
  (sSeq (sAsg (eComp (itSeq (eCall 1 none m_law_all_pairs (argsN 1) (aCons (eBin gIx (eVar 1) (eK (.int 1))) aNil))) (.one 9) (tB (eBin (g2I fun i j => .bl (decide (j < i))) (eBin gIxA (eVar 7) (eVar 9)) (eK (.int 1)))) (eTup (aCons (eVar 9) (aCons (eBin gSub (eBin gIxA (eVar 7) (eVar 9)) (eK (.int 1))) aNil)))) (gS false 2))
  (sIf (tB (eBin gNe (eCB cRepr (aCons (eLst (aCons (eCall 1 none m_over (argsN 1) (aCons (eVar 1) aNil)) (aCons (eCallK 0 1 none m_over (([0] : List Nat).map .arg) aNil (aCons (eVar 1) aNil)) aNil))) aNil)) (eCB cRepr (aCons (eLst (aCons (eVar 2) (aCons (eVar 2) aNil))) aNil)))) (sRet (eK (.bl false))) sNext)))
theorem asg_c {f : FT} {x y : D} {fr : Bool} {s0 s2 s3 s4 s5 s6 s7 s8 : Sl} (h7 : isLent (some s7) = false) (hf : f [x] = .ok y fr .non) :
    sAsg (eCall 1 none f (argsN 1) (aCons (eVar 1) aNil)) (gS false 7) [s0, .dat x, s2, s3, s4, s5, s6, s7, s8, .un, .un] = .ok .nx [s0, .dat x, s2, s3, s4, s5, s6, .dat y, s8, .un, .un] := by
  cases fr <;> simp [hf, h7]
theorem asg_x {C : Ex} {y : D} {s0 s1 s2 s3 s4 s5 s6 s7 s8 : Sl} (h2 : isLent (some s2) = false) (hC : C [s0, s1, s2, s3, s4, s5, s6, s7, s8, .un, .un] = .ok (.f y) [s0, s1, s2, s3, s4, s5, s6, s7, s8, .un, .un]) :
    sAsg C (gS false 2) [s0, s1, s2, s3, s4, s5, s6, s7, s8, .un, .un] = .ok .nx [s0, s1, .dat y, s3, s4, s5, s6, s7, s8, .un, .un] := by
  simp [hC, h2]
theorem turn1 {m : Nat} {ts : List (List Int)} (L : Lot m ts) {s0 s2 s3 s4 s5 s6 s7 s8 : Sl} (h2 : isLent (some s2) = false) (h7 : isLent (some s7) = false) :
    body1 [s0, .dat (LOT m ts), s2, s3, s4, s5, s6, s7, s8, .un, .un] = .ok .nx [s0, .dat (LOT m ts), .dat (.lst (overD m ts)), s3, s4, s5, s6, .dat (.dct (dctOf (prs m) (cn ts))), s8, .un, .un] := by
  obtain ⟨z, r1, r2⟩ := repr_same (rp_over L) (by omega)
  refine (seq_nx (asg_c h7 (p_law_counts L.hi L.vt))).trans ((seq_nx (asg_x h2 (ov_comp L.hi (p_law_pairs (by have := L.hi; omega))))).trans ?_)
  exact rep_step (x := LOT m ts) (d := .lst (overD m ts)) rfl rfl (p_over L) r1 r2
end Gk30
set_option maxHeartbeats 4000000
namespace Gk30
open PySem L2 PL
theorem setl {s0 s1 s2 s3 s4 s5 s6 s7 s8 : Sl} {x : D} (h : isLent (some s1) = false) : gS false 1 (.d x) [s0, s1, s2, s3, s4, s5, s6, s7, s8, .un, .un] = .ok () [s0, .dat x, s2, s3, s4, s5, s6, s7, s8, .un, .un] := by
  simp [h]
theorem r_over {m n : Nat} {ts us : List (List Int)} (L : Lot m ts) (L2 : Lot n us) {pot : D} :
    sFor (itSeq (eTup (aCons (eVar 5) (aCons (eVar 6) aNil)))) (gS false 1) body1 (SR11 pot .un .un .un .un (.dat (LOT m ts)) (.dat (LOT n us)) .un .un)
      = .ok .nx (SR11 pot (.dat (LOT n us)) (.dat (.lst (overD n us))) .un .un (.dat (LOT m ts)) (.dat (LOT n us)) (.dat (.dct (dctOf (prs n) (cn us)))) .un) := by
  have it : itSeq (eTup (aCons (eVar 5) (aCons (eVar 6) aNil))) (SR11 pot .un .un .un .un (.dat (LOT m ts)) (.dat (LOT n us)) .un .un) = .ok ([LOT m ts, LOT n us], none) (SR11 pot .un .un .un .un (.dat (LOT m ts)) (.dat (LOT n us)) .un .un) := by
    unfold SR11
    simp [small]
  refine for_none it ?_
  unfold SR11
  rw [loop_cons (setl rfl) (turn1 L rfl rfl), loop_cons (setl rfl) (turn1 L2 rfl rfl)]
  rfl
theorem r_many {f : FT} {m : Nat} {ts : List (List Int)} {y : D} {fr : Bool} {s0 s1 s2 s3 s4 s5 s7 s8 : Sl} (h7 : isLent (some s7) = false) (h8 : isLent (some s8) = false) (hf : f [LOT m ts] = .ok y fr .non) :
    sAsg (eTup (aCons (eBin gIx (eVar 6) (eK (.int 1))) (aCons (eCall 1 none f (argsN 1) (aCons (eVar 6) aNil)) aNil))) (gTupP 2 (gsCons (gS false 8) (gsCons (gS false 7) gsNil))) [s0, s1, s2, s3, s4, s5, .dat (LOT m ts), s7, s8, .un, .un]
      = .ok .nx [s0, s1, s2, s3, s4, s5, .dat (LOT m ts), .dat y, .dat (.int m), .un, .un] := by
  cases fr <;> simp [ixl1, hf, h7, h8, small]
def overN (m : Nat) (ts : List (List Int)) : List Int := ((prs m).filter fun p => decide (1 < cn ts p)).map fun p => cn ts p - 1
def un2 : D → D
  | .tup [_, b] => b
  | _ => .non
theorem r_sumc {f : FT} {m : Nat} {ts : List (List Int)} {s0 s1 s2 s3 s4 s5 s7 s8 : Sl} (L : Lot m ts) (hf : f [LOT m ts] = .ok (.lst (overD m ts)) true .non) :
    eComp (itSeq (eCall 1 none f (argsN 1) (aCons (eVar 6) aNil))) (.many [9, 10]) tYesP (eVar 10) [s0, s1, s2, s3, s4, s5, .dat (LOT m ts), s7, s8, .un, .un] = .ok (.f (.lst ((overN m ts).map .int))) [s0, s1, s2, s3, s4, s5, .dat (LOT m ts), s7, s8, .un, .un] := by
  have h := comp_map (ct := .many [9, 10]) (it := itSeq (eCall 1 none f (argsN 1) (aCons (eVar 6) aNil))) (elt := eVar 10) (ρ := [s0, s1, s2, s3, s4, s5, .dat (LOT m ts), s7, s8, .un, .un]) (ds := overD m ts)
    (fun d => match d with | .tup [a, b] => [s0, s1, s2, s3, s4, s5, .dat (LOT m ts), s7, s8, .dat a, .dat b] | _ => []) un2 (by simp [hf]) rfl rfl rfl (fun d hd => by
      obtain ⟨p, hp, rfl⟩ := List.mem_map.mp hd
      exact ⟨rfl, rfl, .d (.int (cn ts p - 1)), rfl, rfl⟩) (small_of (by
        have h1 := List.length_filter_le (fun p => decide (1 < cn ts p)) (prs m)
        have h2 := prs_small L.hi
        unfold overD
        rw [List.length_map]
        omega))
  rw [h]
  unfold overD overN
  rw [List.map_map, List.map_map]
  rfl
theorem sum_ints (ns : List Int) : cSum [.lst (ns.map .int)] = some (.d (.int (sumI ns))) := by
  show (match intsOf (ns.map .int) with | some ns => some (Pd.d (.int ns.sum)) | none => none) = _
  rw [intsOf_map]
  rfl
theorem prs_tri {m : Nat} (h3 : 3 ≤ m) (h7 : m ≤ 7) : ((prs m).length : Int) = (m : Int) * ((m : Int) - 1) / 2 := by
  have : m = 3 ∨ m = 4 ∨ m = 5 ∨ m = 6 ∨ m = 7 := by omega
  rcases this with rfl | rfl | rfl | rfl | rfl <;> decide
theorem ne_ii (i : Int) : gNe (.int i) (.int i) = some (.d (.bl false)) := by
  simp [gNe, eqD_int]
theorem clen_t (xs : List D) : cLen [.tup xs] = some (.d (.int xs.length)) := rfl
theorem r_sum_step {C : Ex} {gM gF : D → D → Option Pd} {m : Nat} {ts : List (List Int)} {s0 s1 s2 s3 s4 s5 s7 : Sl} {xs : D} {v a b c : Int} (hC : C [s0, s1, s2, s3, s4, s5, .dat (LOT m ts), s7, .dat (.int m), .un, .un] = .ok (.f xs) [s0, s1, s2, s3, s4, s5, .dat (LOT m ts), s7, .dat (.int m), .un, .un])
    (h1 : cSum [xs] = some (.d (.int v))) (m1 : gM (.int 3) (.int (ts.length : Int)) = some (.d (.int a))) (m2 : gM (.int m) (.int ((m : Int) - 1)) = some (.d (.int b))) (m3 : gF (.int b) (.int 2) = some (.d (.int c))) (hv : v = a - c) :
    (sIf (tB (eBin gNe (eCB cSum (aCons C aNil)) (eBin gSub (eBin gM (eK (.int 3)) (eCB cLen (aCons (eBin gIx (eVar 6) (eK (.int 2))) aNil))) (eBin gF (eBin gM (eVar 8) (eBin gSub (eVar 8) (eK (.int 1)))) (eK (.int 2)))))) (sRet (eK (.bl false))) sNext)
      [s0, s1, s2, s3, s4, s5, .dat (LOT m ts), s7, .dat (.int m), .un, .un] = .ok .nx [s0, s1, s2, s3, s4, s5, .dat (LOT m ts), s7, .dat (.int m), .un, .un] := by
  subst hv
  simp [hC, h1, ixl2, clen_t, m1, m2, m3, gsub_i, ne_ii]
theorem r_sum {C : Ex} {m : Nat} {ts : List (List Int)} {s0 s1 s2 s3 s4 s5 s7 : Sl} {ns : List Int} (h30 : m ≤ 30) (hC : C [s0, s1, s2, s3, s4, s5, .dat (LOT m ts), s7, .dat (.int m), .un, .un] = .ok (.f (.lst (ns.map .int))) [s0, s1, s2, s3, s4, s5, .dat (LOT m ts), s7, .dat (.int m), .un, .un])
    (hs : sumI ns = 3 * (ts.length : Int) - (m : Int) * ((m : Int) - 1) / 2) :
    (sIf (tB (eBin gNe (eCB cSum (aCons C aNil)) (eBin gSub (eBin gMulI (eK (.int 3)) (eCB cLen (aCons (eBin gIx (eVar 6) (eK (.int 2))) aNil))) (eBin gFdiv (eBin gMulI (eVar 8) (eBin gSub (eVar 8) (eK (.int 1)))) (eK (.int 2)))))) (sRet (eK (.bl false))) sNext)
      [s0, s1, s2, s3, s4, s5, .dat (LOT m ts), s7, .dat (.int m), .un, .un] = .ok .nx [s0, s1, s2, s3, s4, s5, .dat (LOT m ts), s7, .dat (.int m), .un, .un] :=
  r_sum_step hC (sum_ints ns) (gmul_l (by decide) (by decide)) (gmul_l (by omega) (by omega)) (gfdiv_p (by decide) (by decide)) hs
theorem asg_f {f : FT} {x y : D} {fr : Bool} {s0 s1 s2 s3 s4 s5 s7 s8 : Sl} (h2 : isLent (some s2) = false) (hf : f [x] = .ok y fr .non) :
    sAsg (eCall 1 none f (argsN 1) (aCons (eVar 6) aNil)) (gS false 2) [s0, s1, s2, s3, s4, s5, .dat x, s7, s8, .un, .un] = .ok .nx [s0, s1, .dat y, s3, s4, s5, .dat x, s7, s8, .un, .un] := by
  cases fr <;> simp [hf, h2]
theorem asg_late {x : D} {s0 s1 s2 s3 s4 s5 s7 s8 : Sl} (h3 : isLent (some s3) = false) :
    sAsg (eVar 6) (gS false 3) [s0, s1, s2, s3, s4, s5, .dat x, s7, s8, .un, .un] = .ok .nx [s0, s1, s2, .dat x, s4, s5, .dat x, s7, s8, .un, .un] := by
  simp [h3]
theorem late_step {f g : FT} {m : Nat} {ts : List (List Int)} {t : List Int} {s0 s1 s2 s5 s6 s7 s8 : Sl} (hf : f [LOT m ts] = .ok (.lst ((need ts).map tupD)) true .non) (hg : g [LOT m ts, tupD t] = .ok (LOT m (wo ts t)) false .non) :
    sAsg (eIf (tB (eBin gIn (eVar 4) (eCall 1 none f (argsN 1) (aCons (eVar 3) aNil)))) (eCall 2 none g (argsN 2) (aCons (eVar 3) (aCons (eVar 4) aNil))) (eVar 3)) (gS false 3) [s0, s1, s2, .dat (LOT m ts), .dat (tupD t), s5, s6, s7, s8, .un, .un]
      = .ok .nx [s0, s1, s2, .dat (LOT m (stepS ts t)), .dat (tupD t), s5, s6, s7, s8, .un, .un] := by
  by_cases h : t ∈ need ts
  · have e : stepS ts t = wo ts t := by unfold stepS; rw [if_pos (decide_eq_true h)]
    rw [e]
    simp [hf, hg, gin_tup, h]
  · have e : stepS ts t = ts := by unfold stepS; rw [if_neg (by simpa using h)]
    rw [e]
    simp [hf, hg, gin_tup, h]
theorem late_loop {f g : FT} {m : Nat} {s0 s1 s2 s5 s6 s7 s8 : Sl} (hf : ∀ ts : List (List Int), Lot m ts → Good m ts → f [LOT m ts] = .ok (.lst ((need ts).map tupD)) true .non) (hg : ∀ (ts : List (List Int)) (t : List Int), Lot m ts → g [LOT m ts, tupD t] = .ok (LOT m (wo ts t)) false .non) :
    ∀ (w ts : List (List Int)) (s : Sl), isLent (some s) = false → Lot m ts → Good m ts → ∃ s', loopG (gS false 4) (sAsg (eIf (tB (eBin gIn (eVar 4) (eCall 1 none f (argsN 1) (aCons (eVar 3) aNil)))) (eCall 2 none g (argsN 2) (aCons (eVar 3) (aCons (eVar 4) aNil))) (eVar 3)) (gS false 3)) (w.map tupD) [s0, s1, s2, .dat (LOT m ts), s, s5, s6, s7, s8, .un, .un]
      = .ok .nx [s0, s1, s2, .dat (LOT m (slim ts w)), s', s5, s6, s7, s8, .un, .un]
  | [], ts, s, _, _, _ => ⟨s, rfl⟩
  | t :: w, ts, s, hs, L, hgd => by
    have hset : gS false 4 (.d (tupD t)) [s0, s1, s2, .dat (LOT m ts), s, s5, s6, s7, s8, .un, .un] = .ok () [s0, s1, s2, .dat (LOT m ts), .dat (tupD t), s5, s6, s7, s8, .un, .un] := by simp [hs]
    obtain ⟨s', e⟩ := late_loop hf hg w (stepS ts t) (.dat (tupD t)) rfl (L.step t) (stepS_good hgd t)
    refine ⟨s', ?_⟩
    rw [List.map_cons, loop_cons hset (late_step (hf ts L hgd) (hg ts t L)), e]
    rfl
theorem eq_lot {m : Nat} (ts : List (List Int)) : gEq (LOT m ts) (LOT m ts) = some (.d (.bl true)) := by
  have e : pyD (LOT m ts) = some (.tuple [.str "lot", .int m, .tuple (ts.map tupP)]) := by simp [LOT, pyD, pyDs, pyDs_tups]
  have g := (gdn_lot m ts).mono (show 3 ≤ 64 by omega)
  unfold gEq
  rw [eqD_of g g e e]
  have : PyData.eqv (.tuple [.str "lot", .int m, .tuple (ts.map tupP)]) (.tuple [.str "lot", .int m, .tuple (ts.map tupP)]) = true := by
    simp [PyData.eqv, PyData.eqvAll, eqv_tups]
  rw [this]; rfl
theorem eq_nil2 : gEq (.lst []) (.lst []) = some (.d (.bl true)) := by
  have := eqD_nil (xs := []) (gdn_lst (n := 63) fun d hd => absurd hd (by simp))
  simp [gEq, this]
theorem r_last {f g h : FT} {m : Nat} {ts us : List (List Int)} {s0 s1 s2 s4 s5 s7 s8 : Sl} (h1 : f [LOT m ts] = .ok (LOT m us) false .non) (h2 : g [LOT m us] = .ok (.bl true) false .non) (h3 : h [LOT m us] = .ok (.lst []) true .non) (h4 : f [LOT m us] = .ok (LOT m us) false .non) :
    (sRet (eAnd (eCall 1 none g (argsN 1) (aCons (eCall 1 none f (argsN 1) (aCons (eVar 6) aNil)) aNil)) (eAnd (eBin gEq (eCall 1 none h (argsN 1) (aCons (eCall 1 none f (argsN 1) (aCons (eVar 6) aNil)) aNil)) (eLst aNil)) (eBin gEq (eCall 1 none f (argsN 1) (aCons (eVar 3) aNil)) (eVar 3))))) [s0, s1, s2, .dat (LOT m us), s4, s5, .dat (LOT m ts), s7, s8, .un, .un]
      = .ok (.rt (.d (.bl true))) [s0, s1, s2, .dat (LOT m us), s4, s5, .dat (LOT m ts), s7, s8, .un, .un] := by
  simp [h1, h2, h3, h4, eq_lot, eq_nil2, small]
theorem draw5 {ρ : Rho} {pot : D} (h0 : ρ[0]? = some (.own pot)) (hp : PotOk pot) : ∃ (r : Nat) (pot' : D), r < 5 ∧ PotOk pot' ∧ callEnd (some 0) m_law_draw (argsN 2) [.o 0, .d (.int 5)] ρ = .ok (.d (.int r)) (ρ.set 0 (.own pot')) := by
  obtain ⟨r, pot', r0, r1, hp', e⟩ := draw_call h0 hp (s := 5) (by omega) (by omega)
  obtain ⟨k, rfl⟩ : ∃ k : Nat, r = k := ⟨r.toNat, by omega⟩
  exact ⟨k, pot', by omega, hp', e⟩
theorem p_right {pot : D} (hp : PotOk pot) : ∃ pot', PotOk pot' ∧ m_law_right [pot] = .ok (.bl true) false pot' := by
  obtain ⟨r1, q1, hr1, hq1, e1⟩ := draw5 (ρ := SR11 pot .un .un .un .un .un .un .un .un) rfl hp
  obtain ⟨us, q2, Lu, hnu, hlu, hq2, e2⟩ := p_any (pot := q1) (m := 3 + r1) (most := 9) hq1 (by omega) (by omega) (by omega) (by omega)
  obtain ⟨r2, q3, hr2, hq3, e3⟩ := draw5 (ρ := SR11 q2 .un .un .un .un .un .un .un .un) rfl hq2
  obtain ⟨ts, q4, L, g, hq4, e4⟩ := p_law_wide_lot (pot := q3) (m := 3 + r2) hq3 (by omega) (by omega)
  refine ⟨q4, hq4, ?_⟩
  have c2 : callEnd (some 0) m_law_any (argsN 3) [.o 0, .d (.int (3 + (r1 : Int))), .d (.int 9)] (SR11 q1 .un .un .un .un .un .un .un .un) = .ok (.d (LOT (3 + r1) us)) (SR11 q2 .un .un .un .un .un .un .un .un) := by
    refine (ce_io (z := q1) (n := 3) (as := [.d (.int (3 + (r1 : Int))), .d (.int 9)]) (ds := [.int (3 + (r1 : Int)), .int 9]) rfl rfl rfl).trans ?_
    have : ((3 + r1 : Nat) : Int) = 3 + (r1 : Int) := by omega
    rw [← this, e2]; rfl
  have c4 : callEnd (some 0) m_law_wide (argsN 2) [.o 0, .d (.int (3 + (r2 : Int)))] (SR11 q3 .un .un .un .un .un .un .un .un) = .ok (.d (LOT (3 + r2) ts)) (SR11 q4 .un .un .un .un .un .un .un .un) := by
    refine (ce_io (z := q3) (n := 2) (as := [.d (.int (3 + (r2 : Int)))]) (ds := [.int (3 + (r2 : Int))]) rfl rfl rfl).trans ?_
    have : ((3 + r2 : Nat) : Int) = 3 + (r2 : Int) := by omega
    rw [← this, e4]; rfl
  have a0 := r_draws e1 c2 e3 c4
  have a1 := r_over Lu L (pot := q4)
  have hsum : sumI (overN (3 + r2) ts) = 3 * (ts.length : Int) - ((3 + r2 : Nat) : Int) * (((3 + r2 : Nat) : Int) - 1) / 2 := by
    rw [← prs_tri (m := 3 + r2) (by omega) (by omega)]
    exact sum_over g
  have hneed : need ts = needL (3 + r2) ts := need_eq g.wi g.nd g.vt
  have f1 : m_law_needless [LOT (3 + r2) ts] = .ok (.lst ((need ts).map tupD)) true .non := by rw [hneed]; exact p_law_needless L.hi L.ln L.vt
  have hvn : ∀ t ∈ need ts, VT (3 + r2) t := fun t ht => L.vt t (mem_need.mp ht).1
  have hln : (need ts).length ≤ 1000 := Nat.le_trans (List.length_filter_le _ _) L.ln
  obtain ⟨z1, k1, k2⟩ := repr_same (rp_lst L.hi hln hvn) (by omega)
  obtain ⟨s4, lp⟩ := late_loop (f := m_law_needless) (g := m_law_without) (m := 3 + r2) (s0 := .own q4) (s1 := .dat (LOT (3 + r2) ts)) (s2 := .dat (.lst ((need ts).map tupD))) (s5 := .dat (LOT (3 + r1) us)) (s6 := .dat (LOT (3 + r2) ts)) (s7 := .dat (.dct (dctOf (prs (3 + r2)) (cn ts)))) (s8 := .dat (.int ((3 + r2 : Nat) : Int)))
    (fun xs Lx gx => by rw [need_eq gx.wi gx.nd gx.vt]; exact p_law_needless Lx.hi Lx.ln Lx.vt) (fun xs t Lx => p_law_without Lx.ln t) ts.reverse ts .un rfl L g
  have it : itSeq (eUn gRev (eBin gIx (eVar 6) (eK (.int 2)))) [.own q4, .dat (LOT (3 + r2) ts), .dat (.lst ((need ts).map tupD)), .dat (LOT (3 + r2) ts), .un, .dat (LOT (3 + r1) us), .dat (LOT (3 + r2) ts), .dat (.dct (dctOf (prs (3 + r2)) (cn ts))), .dat (.int ((3 + r2 : Nat) : Int)), .un, .un]
      = .ok (ts.reverse.map tupD, none) [.own q4, .dat (LOT (3 + r2) ts), .dat (.lst ((need ts).map tupD)), .dat (LOT (3 + r2) ts), .un, .dat (LOT (3 + r1) us), .dat (LOT (3 + r2) ts), .dat (.dct (dctOf (prs (3 + r2)) (cn ts))), .dat (.int ((3 + r2 : Nat) : Int)), .un, .un] := by
    have hr := rev_lot ts
    simp only [ev_itseq, ev_un, ev_bin, ev_var, ev_k, List.getElem?_cons_zero, List.getElem?_cons_succ, bind_ok, ev_op2, ev_op1, get_d, ixl2, hr]
  have Ls := Lot.slim ts.reverse L
  have gs := slim_good ts.reverse g
  have hnone := slim_none g
  obtain ⟨z2, k3, k4⟩ := repr_same (rp_lot Ls.hi Ls.ln Ls.vt) (by omega)
  have l1 : m_slimmed [LOT (3 + r2) ts] = .ok (LOT (3 + r2) (slim ts ts.reverse)) false .non := p_slimmed L g
  have l2 : m_law_is_wide [LOT (3 + r2) (slim ts ts.reverse)] = .ok (.bl true) false .non := by rw [p_law_wide Ls.hi Ls.vt, gs.wi]
  have l3 : m_needless [LOT (3 + r2) (slim ts ts.reverse)] = .ok (.lst []) true .non := by rw [p_needless Ls gs.wi, hnone]; rfl
  have l4 : m_slimmed [LOT (3 + r2) (slim ts ts.reverse)] = .ok (LOT (3 + r2) (slim ts ts.reverse)) false .non := by
    rw [p_slimmed Ls gs, slim_fix hnone]
  have hR : rho0 (some 0) 11 [pot] = SR11 pot .un .un .un .un .un .un .un .un := rfl
  refine run_d (io := some 0) (b := b_law_right) hR (ρ := [.own q4, .dat (LOT (3 + r2) ts), .dat (.lst ((need ts).map tupD)), .dat (LOT (3 + r2) (slim ts ts.reverse)), s4, .dat (LOT (3 + r1) us), .dat (LOT (3 + r2) ts), .dat (.dct (dctOf (prs (3 + r2)) (cn ts))), .dat (.int ((3 + r2 : Nat) : Int)), .un, .un]) ?_
  refine (seq_nx a0).trans ((seq_nx a1).trans ?_)
  refine (seq_nx (r_many rfl rfl (p_law_counts L.hi L.vt))).trans ?_
  refine (seq_nx (r_sum L.hi (r_sumc L (p_over L)) hsum)).trans ?_
  refine (seq_nx (asg_f rfl f1)).trans ?_
  refine (seq_nx (rep_step (x := LOT (3 + r2) ts) (d := .lst ((need ts).map tupD)) rfl rfl (p_needless L g.wi) k1 k2)).trans ?_
  refine (seq_nx (asg_late rfl)).trans ?_
  refine (seq_nx (for_none it lp)).trans ?_
  refine (seq_nx (rep_step (x := LOT (3 + r2) ts) (d := LOT (3 + r2) (slim ts ts.reverse)) rfl rfl l1 k3 k4)).trans ?_
  exact r_last l1 l2 l3 l4
/-! law -/
def Out4 (s : D) (ρ : Rho) : Prop := ∃ (k p t : Sl), ρ = [.dat s, k, p, t] ∧ isLent (some k) = false ∧ isLent (some p) = false ∧ isLent (some t) = false
def In4 (s k : D) (ρ : Rho) : Prop := ∃ (p : D) (t : Sl), ρ = [.dat s, .dat k, .own p, t] ∧ PotOk p ∧ isLent (some t) = false
theorem right_step {f : FT} {s k p p' x : D} (hf : callEnd (some 0) f (argsN 1) [.o 2] [.dat s, .dat k, .own p, .dat x] = .ok (.d (.bl true)) [.dat s, .dat k, .own p', .dat x]) :
    (sIf (tNotP (tB (eCall 1 (some 0) f (argsN 1) (aCons (eVar 2) aNil)))) (sRet (eK (.bl false))) sNext) [.dat s, .dat k, .own p, .dat x] = .ok .nx [.dat s, .dat k, .own p', .dat x] := by
  simp [hf]
theorem turnR {s k x : D} {ρ : Rho} (h : In4 s k ρ) : ∃ ρ1 ρ2, gS false 3 (.d x) ρ = .ok () ρ1 ∧ (sIf (tNotP (tB (eCall 1 (some 0) m_law_right (argsN 1) (aCons (eVar 2) aNil)))) (sRet (eK (.bl false))) sNext) ρ1 = .ok .nx ρ2 ∧ In4 s k ρ2 := by
  obtain ⟨p, t, rfl, hp, ht⟩ := h
  obtain ⟨p', hp', e⟩ := p_right hp
  refine ⟨[.dat s, .dat k, .own p, .dat x], [.dat s, .dat k, .own p', .dat x], by simp [ht], right_step ?_, p', .dat x, rfl, hp', rfl⟩
  refine (ce_io (z := p) (n := 1) (as := []) (ds := []) rfl rfl rfl).trans ?_
  rw [e]; rfl
abbrev bodyK : Sx := (sSeq (sAsg (eCall 2 none m_law_pot (argsN 2) (aCons (eVar 0) (aCons (eVar 1) aNil))) (gS true 2))
  (sFor (itRng1 (aCons (eK (.int 2)) aNil)) (gS false 3) (sIf (tNotP (tB (eCall 1 (some 0) m_law_right (argsN 1) (aCons (eVar 2) aNil)))) (sRet (eK (.bl false))) sNext)))
theorem pot_step {f : FT} {s k d : D} {p t : Sl} (hp : isLent (some p) = false) (hf : f [s, k] = .ok d true .non) : sAsg (eCall 2 none f (argsN 2) (aCons (eVar 0) (aCons (eVar 1) aNil))) (gS true 2) [.dat s, .dat k, p, t] = .ok .nx [.dat s, .dat k, .own d, t] := by
  simp [hf, hp]
theorem turnK {ns : List Int} {k : Nat} (hk : k = 0 ∨ k = 1) {ρ : Rho} (h : Out4 (.st (ns.map .int)) ρ) : ∃ ρ1 ρ2, gS false 1 (.d (.int k)) ρ = .ok () ρ1 ∧ bodyK ρ1 = .ok .nx ρ2 ∧ Out4 (.st (ns.map .int)) ρ2 := by
  obtain ⟨k0, p, t, rfl, h1, h2, h3⟩ := h
  obtain ⟨d, e, hd⟩ := p_pot ns hk
  obtain ⟨ρ', el, q, t', rfl, _, ht'⟩ := loop_inv (tg := gS false 3) (body := sIf (tNotP (tB (eCall 1 (some 0) m_law_right (argsN 1) (aCons (eVar 2) aNil)))) (sRet (eK (.bl false))) sNext) (In4 (.st (ns.map .int)) (.int k)) (ds := rngD 0 2) (ρ := [.dat (.st (ns.map .int)), .dat (.int k), .own d, t]) (fun y _ ρ hρ => turnR hρ) ⟨d, t, rfl, hd, h3⟩
  refine ⟨[.dat (.st (ns.map .int)), .dat (.int k), p, t], [.dat (.st (ns.map .int)), .dat (.int k), .own q, t'], by simp [h1], ?_, .dat (.int k), .own q, t', rfl, rfl, rfl, ht'⟩
  exact (seq_nx (pot_step h2 e)).trans (for_none (rng1_run (j := 2) rfl (inl_of (by omega) (by omega))) el)
theorem law_true (ns : List Int) : ∃ out, m_law [.st (ns.map .int)] = .ok (.bl true) false out := by
  have it : itSeq (eTup (aCons (eK (.int 0)) (aCons (eK (.int 1)) aNil))) [.dat (.st (ns.map .int)), .un, .un, .un] = .ok ([.int 0, .int 1], none) [.dat (.st (ns.map .int)), .un, .un, .un] := by
    simp [small]
  obtain ⟨ρ', hl, _, _, _, rfl, _⟩ := loop_inv (tg := gS false 1) (body := bodyK) (Out4 (.st (ns.map .int))) (ds := [.int 0, .int 1]) (ρ := [.dat (.st (ns.map .int)), .un, .un, .un]) (fun y hy ρ hρ => by
    simp at hy
    rcases hy with rfl | rfl
    · exact turnK (k := 0) (Or.inl rfl) hρ
    · exact turnK (k := 1) (Or.inr rfl) hρ) ⟨.un, .un, .un, rfl, rfl, rfl, rfl⟩
  exact ⟨.non, run_d (io := none) (b := b_law) (ρ0 := [.dat (.st (ns.map .int)), .un, .un, .un]) rfl ((seq_nx (for_none it hl)).trans rfl)⟩
end Gk30
set_option maxHeartbeats 0
namespace Gk30
open PySem L2 PySem.Spec PyProof.Rows PL
def dd_is_integer : He.DefD := ⟨("is_integer", none), "is_integer", "is_integer", defArgs s_is_integer, defBody s_is_integer, defScope s_is_integer, [], []⟩
def dd_is_count : He.DefD := ⟨("is_count", none), "is_count", "is_count", defArgs s_is_count, defBody s_is_count, defScope s_is_count, [], []⟩
def dd_is_below : He.DefD := ⟨("is_below", none), "is_below", "is_below", defArgs s_is_below, defBody s_is_below, defScope s_is_below, [], []⟩
def dd_is_row : He.DefD := ⟨("is_row", none), "is_row", "is_row", defArgs s_is_row, defBody s_is_row, defScope s_is_row, [], []⟩
def dd_is_rising : He.DefD := ⟨("is_rising", none), "is_rising", "is_rising", defArgs s_is_rising, defBody s_is_rising, defScope s_is_rising, [], []⟩
def dd_is_number : He.DefD := ⟨("is_number", none), "is_number", "is_number", defArgs s_is_number, defBody s_is_number, defScope s_is_number, [], []⟩
def dd_is_triple_in : He.DefD := ⟨("is_triple_in", none), "is_triple_in", "is_triple_in", defArgs s_is_triple_in, defBody s_is_triple_in, defScope s_is_triple_in, [], []⟩
def dd_is_lot_of : He.DefD := ⟨("is_lot_of", none), "is_lot_of", "is_lot_of", defArgs s_is_lot_of, defBody s_is_lot_of, defScope s_is_lot_of, [], []⟩
def dd_pairs_of_triple : He.DefD := ⟨("pairs_of_triple", none), "pairs_of_triple", "pairs_of_triple", defArgs s_pairs_of_triple, defBody s_pairs_of_triple, defScope s_pairs_of_triple, [], []⟩
def dd_all_pairs : He.DefD := ⟨("all_pairs", none), "all_pairs", "all_pairs", defArgs s_all_pairs, defBody s_all_pairs, defScope s_all_pairs, [], []⟩
def dd_without_triple : He.DefD := ⟨("without_triple", none), "without_triple", "without_triple", defArgs s_without_triple, defBody s_without_triple, defScope s_without_triple, [], []⟩
def dd_want_lot : He.DefD := ⟨("want_lot", none), "want_lot", "want_lot", defArgs s_want_lot, defBody s_want_lot, defScope s_want_lot, [], []⟩
def dd_counts_of : He.DefD := ⟨("counts_of", none), "counts_of", "counts_of", defArgs s_counts_of, defBody s_counts_of, defScope s_counts_of, [], []⟩
def dd_left_of : He.DefD := ⟨("left_of", none), "left_of", "left_of", defArgs s_left_of, defBody s_left_of, defScope s_left_of, [], []⟩
def dd_is_wide_of : He.DefD := ⟨("is_wide_of", none), "is_wide_of", "is_wide_of", defArgs s_is_wide_of, defBody s_is_wide_of, defScope s_is_wide_of, [], []⟩
def dd_over_of : He.DefD := ⟨("over_of", none), "over_of", "over_of", defArgs s_over_of, defBody s_over_of, defScope s_over_of, [], []⟩
def dd_needless_of : He.DefD := ⟨("needless_of", none), "needless_of", "needless_of", defArgs s_needless_of, defBody s_needless_of, defScope s_needless_of, [], []⟩
def dd_slimmed_of : He.DefD := ⟨("slimmed_of", none), "slimmed_of", "slimmed_of", defArgs s_slimmed_of, defBody s_slimmed_of, defScope s_slimmed_of, [], []⟩
def dd_want_wide : He.DefD := ⟨("want_wide", none), "want_wide", "want_wide", defArgs s_want_wide, defBody s_want_wide, defScope s_want_wide, [], []⟩
def dd_over : He.DefD := ⟨("over", none), "over", "over", defArgs s_over, defBody s_over, defScope s_over, [], []⟩
def dd_needless : He.DefD := ⟨("needless", none), "needless", "needless", defArgs s_needless, defBody s_needless, defScope s_needless, [], []⟩
def dd_slimmed : He.DefD := ⟨("slimmed", none), "slimmed", "slimmed", defArgs s_slimmed, defBody s_slimmed, defScope s_slimmed, [], []⟩
def dd_law_pot : He.DefD := ⟨("_law_pot", none), "_law_pot", "_law_pot", defArgs s_law_pot, defBody s_law_pot, defScope s_law_pot, [], []⟩
def dd_law_draw : He.DefD := ⟨("_law_draw", none), "_law_draw", "_law_draw", defArgs s_law_draw, defBody s_law_draw, defScope s_law_draw, [], []⟩
def dd_law_pick : He.DefD := ⟨("_law_pick", none), "_law_pick", "_law_pick", defArgs s_law_pick, defBody s_law_pick, defScope s_law_pick, [], []⟩
def dd_law_all_pairs : He.DefD := ⟨("_law_all_pairs", none), "_law_all_pairs", "_law_all_pairs", defArgs s_law_all_pairs, defBody s_law_all_pairs, defScope s_law_all_pairs, [], []⟩
def dd_law_all_triples : He.DefD := ⟨("_law_all_triples", none), "_law_all_triples", "_law_all_triples", defArgs s_law_all_triples, defBody s_law_all_triples, defScope s_law_all_triples, [], []⟩
def dd_law_in : He.DefD := ⟨("_law_in", none), "_law_in", "_law_in", defArgs s_law_in, defBody s_law_in, defScope s_law_in, [], []⟩
def dd_law_counts : He.DefD := ⟨("_law_counts", none), "_law_counts", "_law_counts", defArgs s_law_counts, defBody s_law_counts, defScope s_law_counts, [], []⟩
def dd_law_left : He.DefD := ⟨("_law_left", none), "_law_left", "_law_left", defArgs s_law_left, defBody s_law_left, defScope s_law_left, [], []⟩
def dd_law_is_wide : He.DefD := ⟨("_law_is_wide", none), "_law_is_wide", "_law_is_wide", defArgs s_law_is_wide, defBody s_law_is_wide, defScope s_law_is_wide, [], []⟩
def dd_law_with : He.DefD := ⟨("_law_with", none), "_law_with", "_law_with", defArgs s_law_with, defBody s_law_with, defScope s_law_with, [], []⟩
def dd_law_without : He.DefD := ⟨("_law_without", none), "_law_without", "_law_without", defArgs s_law_without, defBody s_law_without, defScope s_law_without, [], []⟩
def dd_law_shuffled : He.DefD := ⟨("_law_shuffled", none), "_law_shuffled", "_law_shuffled", defArgs s_law_shuffled, defBody s_law_shuffled, defScope s_law_shuffled, [], []⟩
def dd_law_any : He.DefD := ⟨("_law_any", none), "_law_any", "_law_any", defArgs s_law_any, defBody s_law_any, defScope s_law_any, [], []⟩
def dd_law_wide : He.DefD := ⟨("_law_wide", none), "_law_wide", "_law_wide", defArgs s_law_wide, defBody s_law_wide, defScope s_law_wide, [], []⟩
def dd_law_needless : He.DefD := ⟨("_law_needless", none), "_law_needless", "_law_needless", defArgs s_law_needless, defBody s_law_needless, defScope s_law_needless, [], []⟩
def dd_law_right : He.DefD := ⟨("_law_right", none), "_law_right", "_law_right", defArgs s_law_right, defBody s_law_right, defScope s_law_right, [], []⟩
def dd_law : He.DefD := ⟨("law", none), "law", "law", defArgs s_law, defBody s_law, defScope s_law, [], []⟩
def fn0 : List He.DefD := [dd_is_integer, dd_is_count, dd_is_below, dd_is_row, dd_is_rising, dd_is_number, dd_is_triple_in, dd_is_lot_of, dd_pairs_of_triple, dd_all_pairs, dd_without_triple, dd_want_lot, dd_counts_of, dd_left_of, dd_is_wide_of, dd_over_of, dd_needless_of, dd_slimmed_of, dd_want_wide, dd_over, dd_needless, dd_slimmed, dd_law_pot, dd_law_draw, dd_law_pick, dd_law_all_pairs, dd_law_all_triples, dd_law_in, dd_law_counts, dd_law_left]
def fn1 : List He.DefD := [dd_law_is_wide, dd_law_with, dd_law_without, dd_law_shuffled, dd_law_any, dd_law_wide, dd_law_needless, dd_law_right, dd_law]
def fn : List He.DefD := fn0 ++ fn1
def fa0 : List He.Fa := [.glo "is_integer", .glo "is_count", .glo "is_below", .glo "is_row", .glo "is_rising", .glo "is_number", .glo "is_triple_in", .glo "is_lot_of", .glo "pairs_of_triple", .glo "all_pairs", .glo "without_triple", .glo "want_lot", .glo "counts_of", .glo "left_of", .glo "is_wide_of", .glo "over_of", .glo "needless_of", .glo "slimmed_of", .glo "want_wide", .glo "over", .glo "needless", .glo "slimmed", .glo "_law_pot", .glo "_law_draw", .glo "_law_pick", .glo "_law_all_pairs", .glo "_law_all_triples", .glo "_law_in", .glo "_law_counts", .glo "_law_left"]
def fa1 : List He.Fa := [.glo "_law_is_wide", .glo "_law_with", .glo "_law_without", .glo "_law_shuffled", .glo "_law_any", .glo "_law_wide", .glo "_law_needless", .glo "_law_right", .glo "law", .free "abs", .free "all", .free "bool", .free "dict", .free "divmod", .free "int", .free "isinstance", .free "len", .free "list", .free "max", .free "range", .free "repr", .free "sorted", .free "str", .free "sum", .free "tuple", .free "zip", .int "LEAST_THINGS" 3, .str "LOT" "lot", .int "MOST_THINGS" 45]
def fa : List He.Fa := fa0 ++ fa1
def loose0 : List Str := ["TripleError", "StateError", "InvalidLot", "NotWide", "is_integer", "is_count", "is_below", "is_row", "is_rising", "LOT", "LEAST_THINGS", "MOST_THINGS", "is_number", "is_triple_in", "is_lot_of", "pairs_of_triple", "all_pairs", "without_triple", "want_lot", "counts_of", "left_of", "is_wide_of", "over_of", "needless_of", "slimmed_of", "want_wide", "over", "needless", "slimmed", "_law_pot"]
def loose1 : List Str := ["_law_draw", "_law_pick", "_law_all_pairs", "_law_all_triples", "_law_in", "_law_counts", "_law_left", "_law_is_wide", "_law_with", "_law_without", "_law_shuffled", "_law_any", "_law_wide", "_law_needless", "_law_right"]
def loose : List Str := loose0 ++ loose1
abbrev R : PySem.W.OpenRow := PySem.W.OpenLaw.row PySem.Challenge.rw_eachtwo_k30_whole_over_and_needless
abbrev hk : PySem.W.Hook := He.hookD 4 fa fn
def ob (s : PySem.W.SharedT) : He.AlD := He.obsDG 4 fa fn (HandSHeadRun.getT s)
theorem ob_eq (s : PySem.W.SharedT) : ob s = hk.obs s.abs := He.obsDG_eq (HandSHeadRun.getT_eq s)
set_option maxHeartbeats 0 in
theorem run (w : World) : HandSHeadRun.RunEq R (PySem.W.view R.prog [51]) hk ob 4000 loose w := by
  intro os
  kernel_rfl
theorem facts {K : PySem.W.Frag} {h : Heap} {mg : Str → Option Value} (X : K.In h) (G : h.Ns mainGlobals mg) (c : He.SaysD fa fn K) : ∃ fd, Fc K mg fd := by
  obtain ⟨fd0, F0⟩ := c.def_ 0 (d := dd_is_integer) rfl
  obtain ⟨fd1, F1⟩ := c.def_ 1 (d := dd_is_count) rfl
  obtain ⟨fd2, F2⟩ := c.def_ 2 (d := dd_is_below) rfl
  obtain ⟨fd3, F3⟩ := c.def_ 3 (d := dd_is_row) rfl
  obtain ⟨fd4, F4⟩ := c.def_ 4 (d := dd_is_rising) rfl
  obtain ⟨fd5, F5⟩ := c.def_ 5 (d := dd_is_number) rfl
  obtain ⟨fd6, F6⟩ := c.def_ 6 (d := dd_is_triple_in) rfl
  obtain ⟨fd7, F7⟩ := c.def_ 7 (d := dd_is_lot_of) rfl
  obtain ⟨fd8, F8⟩ := c.def_ 8 (d := dd_pairs_of_triple) rfl
  obtain ⟨fd9, F9⟩ := c.def_ 9 (d := dd_all_pairs) rfl
  obtain ⟨fd10, F10⟩ := c.def_ 10 (d := dd_without_triple) rfl
  obtain ⟨fd11, F11⟩ := c.def_ 11 (d := dd_want_lot) rfl
  obtain ⟨fd12, F12⟩ := c.def_ 12 (d := dd_counts_of) rfl
  obtain ⟨fd13, F13⟩ := c.def_ 13 (d := dd_left_of) rfl
  obtain ⟨fd14, F14⟩ := c.def_ 14 (d := dd_is_wide_of) rfl
  obtain ⟨fd15, F15⟩ := c.def_ 15 (d := dd_over_of) rfl
  obtain ⟨fd16, F16⟩ := c.def_ 16 (d := dd_needless_of) rfl
  obtain ⟨fd17, F17⟩ := c.def_ 17 (d := dd_slimmed_of) rfl
  obtain ⟨fd18, F18⟩ := c.def_ 18 (d := dd_want_wide) rfl
  obtain ⟨fd19, F19⟩ := c.def_ 19 (d := dd_over) rfl
  obtain ⟨fd20, F20⟩ := c.def_ 20 (d := dd_needless) rfl
  obtain ⟨fd21, F21⟩ := c.def_ 21 (d := dd_slimmed) rfl
  obtain ⟨fd22, F22⟩ := c.def_ 22 (d := dd_law_pot) rfl
  obtain ⟨fd23, F23⟩ := c.def_ 23 (d := dd_law_draw) rfl
  obtain ⟨fd24, F24⟩ := c.def_ 24 (d := dd_law_pick) rfl
  obtain ⟨fd25, F25⟩ := c.def_ 25 (d := dd_law_all_pairs) rfl
  obtain ⟨fd26, F26⟩ := c.def_ 26 (d := dd_law_all_triples) rfl
  obtain ⟨fd27, F27⟩ := c.def_ 27 (d := dd_law_in) rfl
  obtain ⟨fd28, F28⟩ := c.def_ 28 (d := dd_law_counts) rfl
  obtain ⟨fd29, F29⟩ := c.def_ 29 (d := dd_law_left) rfl
  obtain ⟨fd30, F30⟩ := c.def_ 30 (d := dd_law_is_wide) rfl
  obtain ⟨fd31, F31⟩ := c.def_ 31 (d := dd_law_with) rfl
  obtain ⟨fd32, F32⟩ := c.def_ 32 (d := dd_law_without) rfl
  obtain ⟨fd33, F33⟩ := c.def_ 33 (d := dd_law_shuffled) rfl
  obtain ⟨fd34, F34⟩ := c.def_ 34 (d := dd_law_any) rfl
  obtain ⟨fd35, F35⟩ := c.def_ 35 (d := dd_law_wide) rfl
  obtain ⟨fd36, F36⟩ := c.def_ 36 (d := dd_law_needless) rfl
  obtain ⟨fd37, F37⟩ := c.def_ 37 (d := dd_law_right) rfl
  obtain ⟨fd38, F38⟩ := c.def_ 38 (d := dd_law) rfl
  exact ⟨fun i => match i with | 0 => fd0 | 1 => fd1 | 2 => fd2 | 3 => fd3 | 4 => fd4 | 5 => fd5 | 6 => fd6 | 7 => fd7 | 8 => fd8 | 9 => fd9 | 10 => fd10 | 11 => fd11 | 12 => fd12 | 13 => fd13 | 14 => fd14 | 15 => fd15 | 16 => fd16 | 17 => fd17 | 18 => fd18 | 19 => fd19 | 20 => fd20 | 21 => fd21 | 22 => fd22 | 23 => fd23 | 24 => fd24 | 25 => fd25 | 26 => fd26 | 27 => fd27 | 28 => fd28 | 29 => fd29 | 30 => fd30 | 31 => fd31 | 32 => fd32 | 33 => fd33 | 34 => fd34 | 35 => fd35 | 36 => fd36 | 37 => fd37 | 38 => fd38 | _ => fd0, F0, (He.glo_ok X G (c.fact 0 (f := .glo "is_integer") rfl)), F1, (He.glo_ok X G (c.fact 1 (f := .glo "is_count") rfl)), F2, (He.glo_ok X G (c.fact 2 (f := .glo "is_below") rfl)), F3, (He.glo_ok X G (c.fact 3 (f := .glo "is_row") rfl)), F4, (He.glo_ok X G (c.fact 4 (f := .glo "is_rising") rfl)), F5, (He.glo_ok X G (c.fact 5 (f := .glo "is_number") rfl)), F6, (He.glo_ok X G (c.fact 6 (f := .glo "is_triple_in") rfl)), F7, (He.glo_ok X G (c.fact 7 (f := .glo "is_lot_of") rfl)), F8, (He.glo_ok X G (c.fact 8 (f := .glo "pairs_of_triple") rfl)), F9, (He.glo_ok X G (c.fact 9 (f := .glo "all_pairs") rfl)), F10, (He.glo_ok X G (c.fact 10 (f := .glo "without_triple") rfl)), F11, (He.glo_ok X G (c.fact 11 (f := .glo "want_lot") rfl)), F12, (He.glo_ok X G (c.fact 12 (f := .glo "counts_of") rfl)), F13, (He.glo_ok X G (c.fact 13 (f := .glo "left_of") rfl)), F14, (He.glo_ok X G (c.fact 14 (f := .glo "is_wide_of") rfl)), F15, (He.glo_ok X G (c.fact 15 (f := .glo "over_of") rfl)), F16, (He.glo_ok X G (c.fact 16 (f := .glo "needless_of") rfl)), F17, (He.glo_ok X G (c.fact 17 (f := .glo "slimmed_of") rfl)), F18, (He.glo_ok X G (c.fact 18 (f := .glo "want_wide") rfl)), F19, (He.glo_ok X G (c.fact 19 (f := .glo "over") rfl)), F20, (He.glo_ok X G (c.fact 20 (f := .glo "needless") rfl)), F21, (He.glo_ok X G (c.fact 21 (f := .glo "slimmed") rfl)), F22, (He.glo_ok X G (c.fact 22 (f := .glo "_law_pot") rfl)), F23, (He.glo_ok X G (c.fact 23 (f := .glo "_law_draw") rfl)), F24, (He.glo_ok X G (c.fact 24 (f := .glo "_law_pick") rfl)), F25, (He.glo_ok X G (c.fact 25 (f := .glo "_law_all_pairs") rfl)), F26, (He.glo_ok X G (c.fact 26 (f := .glo "_law_all_triples") rfl)), F27, (He.glo_ok X G (c.fact 27 (f := .glo "_law_in") rfl)), F28, (He.glo_ok X G (c.fact 28 (f := .glo "_law_counts") rfl)), F29, (He.glo_ok X G (c.fact 29 (f := .glo "_law_left") rfl)), F30, (He.glo_ok X G (c.fact 30 (f := .glo "_law_is_wide") rfl)), F31, (He.glo_ok X G (c.fact 31 (f := .glo "_law_with") rfl)), F32, (He.glo_ok X G (c.fact 32 (f := .glo "_law_without") rfl)), F33, (He.glo_ok X G (c.fact 33 (f := .glo "_law_shuffled") rfl)), F34, (He.glo_ok X G (c.fact 34 (f := .glo "_law_any") rfl)), F35, (He.glo_ok X G (c.fact 35 (f := .glo "_law_wide") rfl)), F36, (He.glo_ok X G (c.fact 36 (f := .glo "_law_needless") rfl)), F37, (He.glo_ok X G (c.fact 37 (f := .glo "_law_right") rfl)), F38, (He.glo_ok X G (c.fact 38 (f := .glo "law") rfl)), (He.free_ok X G (c.fact 39 (f := .free "abs") rfl)), (He.free_ok X G (c.fact 40 (f := .free "all") rfl)), (He.free_ok X G (c.fact 41 (f := .free "bool") rfl)), (He.free_ok X G (c.fact 42 (f := .free "dict") rfl)), (He.free_ok X G (c.fact 43 (f := .free "divmod") rfl)), (He.free_ok X G (c.fact 44 (f := .free "int") rfl)), (He.free_ok X G (c.fact 45 (f := .free "isinstance") rfl)), (He.free_ok X G (c.fact 46 (f := .free "len") rfl)), (He.free_ok X G (c.fact 47 (f := .free "list") rfl)), (He.free_ok X G (c.fact 48 (f := .free "max") rfl)), (He.free_ok X G (c.fact 49 (f := .free "range") rfl)), (He.free_ok X G (c.fact 50 (f := .free "repr") rfl)), (He.free_ok X G (c.fact 51 (f := .free "sorted") rfl)), (He.free_ok X G (c.fact 52 (f := .free "str") rfl)), (He.free_ok X G (c.fact 53 (f := .free "sum") rfl)), (He.free_ok X G (c.fact 54 (f := .free "tuple") rfl)), (He.free_ok X G (c.fact 55 (f := .free "zip") rfl)), (He.int_ok X G (c.fact 56 (f := .int "LEAST_THINGS" 3) rfl)), (He.str_ok X G (c.fact 57 (f := .str "LOT" "lot") rfl)), (He.int_ok X G (c.fact 58 (f := .int "MOST_THINGS" 45) rfl))⟩

theorem law_bind {K : PySem.W.Frag} {mg : Str → Option Value} {fd : Nat → FuncData} (fc : Fc K mg fd) (s : Shared) (u : Value) : BindsTo s (fd 38) ⟨[u], []⟩ [("script", u)] :=
  FunD.bindsA (ps := ["script"]) fc.f_law (fun _ _ _ _ _ _ us hl => match us, hl with | [_], _ => rfl) s [u] rfl
end Gk30
open PySem PySem.W PySem.Calls PyProof.Rows
theorem head_k30 (law_true : ∀ ns : List Int, ns.length ≤ 63 → ∃ out, Gk30.m_law [.st (ns.map PL.D.int)] = .ok (.bl true) false out) : PySem.Challenge.rw_eachtwo_k30_whole_over_and_needless.Holds := by
  w_on; o_law
  refine HandSHeadRun.head_any (r := OpenLaw.row PySem.Challenge.rw_eachtwo_k30_whole_over_and_needless) (q := view (OpenLaw.row PySem.Challenge.rw_eachtwo_k30_whole_over_and_needless).prog [51]) (H := Gk30.hk) (ob := Gk30.ob) (M := 4000) (loose := Gk30.loose)
    (d := HandSHeadRun.topDef (OpenLaw.row PySem.Challenge.rw_eachtwo_k30_whole_over_and_needless).prog 51) (kwd := []) Gk30.ob_eq
    (by kernel_rfl) (fun s => by kernel_rfl) Gk30.run (by kernel_rfl) (by kernel_rfl) (by kernel_rfl) (by rfl) (by first | assumption | decide +kernel) (by decide +kernel) ⟨rfl, rfl, rfl, rfl, rfl, by decide +kernel⟩ ?hw ?hc
  case hw => w_witness2
  case hc =>
    refine PL.walk_end (l := PySem.Challenge.rw_eachtwo_k30_whole_over_and_needless) (n := 63) (k := 10) (x := "script") rfl (by decide) (by kernel_rfl) ⟨rfl, by decide, by decide⟩ ?F
    intro w mg fa h Y G hmg0
    obtain ⟨K, KX, c⟩ := Y
    obtain ⟨fd, fc⟩ := Gk30.facts KX G c
    have e : mg ("law" : PySem.Str) = some (.ref fa) := by
      have e : (HandSHeadRun.topDef (OpenLaw.row PySem.Challenge.rw_eachtwo_k30_whole_over_and_needless).prog 51).name = ("law" : PySem.Str) := by kernel_rfl
      rw [← e]
      exact hmg0
    have e2 := e.symm.trans fc.g_law
    cases e2
    exact ⟨K, fd 38, Gk30.m_law, ⟨K, fun _ _ => False, fun _ _ _ _ _ => False⟩, rfl, KX, Gk30.law_bind fc, law_true, fun base _ _ => Gk30.ok_law fc _ rfl⟩
theorem PySem.Challenge.cw_eachtwo_k30_whole_over_and_needless_holds : PySem.Challenge.rw_eachtwo_k30_whole_over_and_needless.Holds := by
  exact head_k30 fun ns _ => Gk30.law_true ns
