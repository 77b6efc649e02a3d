import PyProof.Rows.All
import Wide.All
import OpenK.AllK
import Wide.FinOn
import HandS.ForMost
import HandS.Evl
import HandS.Wide
import HandS.Zip
import HandS.DictComp
import HandS.TupAny
import HandS.Style
import HandS.IsInst
import HandS.Deep
import HandS.StrMore
import PyProof.CollectStr
import PyProof.ListStr
import HandS.More
import KE.KTupSum
import HandS.SortInts
import PyProof.StrLawsIn
import PyProof.P3Eq
import PyProof.Rows.RegReprOcc
import PySem.Challenge.RW_seenparts_k00_words_as_numbers
set_option Elab.async false
set_option linter.all false
set_option maxRecDepth 100000
set_option Elab.async false
/-! Values without a heap: data D, results W, the relation to the abstract heap, judgements over D. -/
namespace Dl
abbrev St := L2.St
open PySem L2

/-- data that no longer changes -/
inductive D where
  | non | bl (b : Bool) | int (i : Int) | str (x : Str)
  | tup (xs : List D) | lst (xs : List D)
  | dct (kvs : List (Key × D))
  | ins (c : Str) (fs : List (Str × D))
  | opq

structure Gx where
  K : PySem.W.Frag
  cl : Str → Addr

mutual
def Has (G : Gx) (B : Hp) : D → V → Prop
  | .non, v => v = .non
  | .bl b, v => v = .bl b
  | .int i, v => v = .int i
  | .str s, v => v = .str s
  | .tup ds, v => ∃ a vs, v = .ref a ∧ SqT G.K B a vs ∧ HasL G B ds vs
  | .lst ds, v => ∃ a vs, v = .ref a ∧ B a = some (.lst vs) ∧ HasL G B ds vs
  | .dct kvs, v => ∃ a ws, v = .ref a ∧ B a = some (.dK ws) ∧ HasK G B kvs ws
  | .ins c fs, v => ∃ a dx ws, v = .ref a ∧ B a = some (.ins (G.cl c) dx ws) ∧ HasF G B fs ws
  | .opq, _ => False
def HasL (G : Gx) (B : Hp) : List D → List V → Prop
  | [], vs => vs = []
  | d :: ds, vs => ∃ v r, vs = v :: r ∧ Has G B d v ∧ HasL G B ds r
def HasK (G : Gx) (B : Hp) : List (Key × D) → List (Key × V) → Prop
  | [], ws => ws = []
  | (k, d) :: r, ws => ∃ v t, ws = (k, v) :: t ∧ Has G B d v ∧ HasK G B r t
def HasF (G : Gx) (B : Hp) : List (Str × D) → List (Str × V) → Prop
  | [], ws => ws = []
  | (k, d) :: r, ws => ∃ v t, ws = (k, v) :: t ∧ Has G B d v ∧ HasF G B r t
end

abbrev Ex := Evl.Ex

section
variable {G : Gx} {B B' : Hp}
mutual
theorem Has.mono (e : Ex B B') : ∀ (d : D) (v : V), Has G B d v → Has G B' d v
  | .non, v, h => by unfold Has at h ⊢; exact h
  | .bl _, v, h => by unfold Has at h ⊢; exact h
  | .int _, v, h => by unfold Has at h ⊢; exact h
  | .str _, v, h => by unfold Has at h ⊢; exact h
  | .tup ds, v, h => by
    unfold Has at h ⊢
    obtain ⟨a, vs, e1, h1, h2⟩ := h
    exact ⟨a, vs, e1, Evl.ex_t e h1, HasL.mono e ds vs h2⟩
  | .lst ds, v, h => by
    unfold Has at h ⊢
    obtain ⟨a, vs, e1, h1, h2⟩ := h
    exact ⟨a, vs, e1, e _ _ h1, HasL.mono e ds vs h2⟩
  | .dct ks, v, h => by
    unfold Has at h ⊢
    obtain ⟨a, vs, e1, h1, h2⟩ := h
    exact ⟨a, vs, e1, e _ _ h1, HasK.mono e ks vs h2⟩
  | .ins c fs, v, h => by
    unfold Has at h ⊢
    obtain ⟨a, dx, vs, e1, h1, h2⟩ := h
    exact ⟨a, dx, vs, e1, e _ _ h1, HasF.mono e fs vs h2⟩
  | .opq, v, h => by unfold Has at h; exact h.elim
theorem HasL.mono (e : Ex B B') : ∀ (ds : List D) (vs : List V), HasL G B ds vs → HasL G B' ds vs
  | [], vs, h => by unfold HasL at h ⊢; exact h
  | d :: ds, vs, h => by
    unfold HasL at h ⊢
    obtain ⟨v, r, e1, h1, h2⟩ := h
    exact ⟨v, r, e1, Has.mono e d v h1, HasL.mono e ds r h2⟩
theorem HasK.mono (e : Ex B B') : ∀ (ks : List (Key × D)) (ws : List (Key × V)), HasK G B ks ws → HasK G B' ks ws
  | [], vs, h => by unfold HasK at h ⊢; exact h
  | (k, d) :: ds, vs, h => by
    unfold HasK at h ⊢
    obtain ⟨v, r, e1, h1, h2⟩ := h
    exact ⟨v, r, e1, Has.mono e d v h1, HasK.mono e ds r h2⟩
theorem HasF.mono (e : Ex B B') : ∀ (ks : List (Str × D)) (ws : List (Str × V)), HasF G B ks ws → HasF G B' ks ws
  | [], vs, h => by unfold HasF at h ⊢; exact h
  | (k, d) :: ds, vs, h => by
    unfold HasF at h ⊢
    obtain ⟨v, r, e1, h1, h2⟩ := h
    exact ⟨v, r, e1, Has.mono e d v h1, HasF.mono e ds r h2⟩
end

theorem HasL.len : ∀ {ds : List D} {vs : List V}, HasL G B ds vs → vs.length = ds.length
  | [], _, h => by unfold HasL at h; subst h; rfl
  | d :: ds, _, h => by
    unfold HasL at h
    obtain ⟨v, r, rfl, _, h2⟩ := h
    simp [HasL.len h2]
theorem HasL.get : ∀ {ds : List D} {vs : List V} {i : Nat} {v : V}, HasL G B ds vs → vs[i]? = some v → ∃ d, ds[i]? = some d ∧ Has G B d v
  | [], _, i, v, h, e => by unfold HasL at h; subst h; simp at e
  | d :: ds, _, 0, v, h, e => by
    unfold HasL at h
    obtain ⟨v', r, rfl, h1, h2⟩ := h
    simp at e; subst e
    exact ⟨d, rfl, h1⟩
  | d :: ds, _, i + 1, v, h, e => by
    unfold HasL at h
    obtain ⟨v', r, rfl, h1, h2⟩ := h
    obtain ⟨x, a, b⟩ := HasL.get h2 (i := i) (by simpa using e)
    exact ⟨x, by simpa using a, b⟩
theorem HasL.at : ∀ {ds : List D} {vs : List V} {i : Nat} {d : D}, HasL G B ds vs → ds[i]? = some d → ∃ v, vs[i]? = some v ∧ Has G B d v
  | [], _, i, v, h, e => by simp at e
  | d :: ds, _, 0, v, h, e => by
    unfold HasL at h
    obtain ⟨v', r, rfl, h1, h2⟩ := h
    simp at e; subst e
    exact ⟨v', rfl, h1⟩
  | d :: ds, _, i + 1, v, h, e => by
    unfold HasL at h
    obtain ⟨v', r, rfl, h1, h2⟩ := h
    obtain ⟨x, a, b⟩ := HasL.at h2 (i := i) (by simpa using e)
    exact ⟨x, by simpa using a, b⟩
theorem HasL.nil : HasL G B [] [] := by unfold HasL; rfl
theorem HasL.cons {d : D} {v : V} {ds : List D} {vs : List V} (h : Has G B d v) (t : HasL G B ds vs) : HasL G B (d :: ds) (v :: vs) := by
  unfold HasL; exact ⟨v, vs, rfl, h, t⟩
theorem HasL.app : ∀ {ds es : List D} {vs us : List V}, HasL G B ds vs → HasL G B es us → HasL G B (ds ++ es) (vs ++ us)
  | [], es, vs, us, h, k => by unfold HasL at h; subst h; exact k
  | d :: ds, es, vs, us, h, k => by
    unfold HasL at h
    obtain ⟨v', r, rfl, h1, h2⟩ := h
    exact HasL.cons h1 (HasL.app h2 k)
theorem HasL.snoc {ds : List D} {vs : List V} {d : D} {v : V} (h : HasL G B ds vs) (k : Has G B d v) : HasL G B (ds ++ [d]) (vs ++ [v]) := h.app (.cons k .nil)
theorem HasL.take : ∀ {ds : List D} {vs : List V} (n : Nat), HasL G B ds vs → HasL G B (ds.take n) (vs.take n)
  | [], vs, n, h => by unfold HasL at h; subst h; simp; exact .nil
  | d :: ds, vs, 0, h => by simp; exact .nil
  | d :: ds, vs, n + 1, h => by
    unfold HasL at h
    obtain ⟨v', r, rfl, h1, h2⟩ := h
    simp only [List.take_succ_cons]
    exact HasL.cons h1 (HasL.take n h2)
theorem HasL.drop : ∀ {ds : List D} {vs : List V} (n : Nat), HasL G B ds vs → HasL G B (ds.drop n) (vs.drop n)
  | [], vs, n, h => by unfold HasL at h; subst h; simp; exact .nil
  | d :: ds, vs, 0, h => by simpa using h
  | d :: ds, vs, n + 1, h => by
    unfold HasL at h
    obtain ⟨v', r, rfl, h1, h2⟩ := h
    simp only [List.drop_succ_cons]
    exact HasL.drop n h2
theorem HasL.set : ∀ {ds : List D} {vs : List V} {d : D} {v : V} (n : Nat), HasL G B ds vs → Has G B d v → HasL G B (ds.set n d) (vs.set n v)
  | [], vs, d, v, n, h, k => by unfold HasL at h; subst h; simp; exact .nil
  | x :: ds, vs, d, v, 0, h, k => by
    unfold HasL at h
    obtain ⟨v', r, rfl, h1, h2⟩ := h
    exact HasL.cons k h2
  | x :: ds, vs, d, v, n + 1, h, k => by
    unfold HasL at h
    obtain ⟨v', r, rfl, h1, h2⟩ := h
    exact HasL.cons h1 (HasL.set n h2 k)
theorem HasL.ints : ∀ {ns : List Int} {vs : List V}, HasL G B (ns.map D.int) vs → vs = ns.map V.int
  | [], vs, h => by unfold HasL at h; exact h
  | n :: ns, vs, h => by
    unfold HasL at h
    obtain ⟨v', r, rfl, h1, h2⟩ := h
    unfold Has at h1
    rw [h1, HasL.ints h2]; rfl
theorem HasL.strs : ∀ {ns : List Str} {vs : List V}, HasL G B (ns.map D.str) vs → vs = ns.map V.str
  | [], vs, h => by unfold HasL at h; exact h
  | n :: ns, vs, h => by
    unfold HasL at h
    obtain ⟨v', r, rfl, h1, h2⟩ := h
    unfold Has at h1
    rw [h1, HasL.strs h2]; rfl
theorem HasL.bls : ∀ {ns : List Bool} {vs : List V}, HasL G B (ns.map D.bl) vs → vs = ns.map V.bl
  | [], vs, h => by unfold HasL at h; exact h
  | n :: ns, vs, h => by
    unfold HasL at h
    obtain ⟨v', r, rfl, h1, h2⟩ := h
    unfold Has at h1
    rw [h1, HasL.bls h2]; rfl
theorem hasL_ints : ∀ (ns : List Int), HasL G B (ns.map D.int) (ns.map V.int)
  | [] => .nil
  | n :: ns => HasL.cons (by unfold Has; rfl) (hasL_ints ns)
theorem hasL_strs : ∀ (ns : List Str), HasL G B (ns.map D.str) (ns.map V.str)
  | [] => .nil
  | n :: ns => HasL.cons (by unfold Has; rfl) (hasL_strs ns)
end

/-- what an expression gives: shared data; a new list or dict (fr); one that a name owns, looked at (bo); the pen -/
inductive W where
  | sh (d : D) | fr (d : D) | bo (d : D) | pen

def W.d : W → D
  | .sh d => d
  | .fr d => d
  | .bo d => d
  | .pen => .opq
def W.isFr : W → Bool
  | .fr _ => true
  | _ => false

/-- at a stands a list or dict of what B knows -/
def Top (G : Gx) (B H : Hp) : D → Addr → Prop
  | .lst ds, a => ∃ vs, H a = some (.lst vs) ∧ HasL G B ds vs
  | .dct ks, a => ∃ ws, H a = some (.dK ws) ∧ HasK G B ks ws
  | _, _ => False

/-- the pen: a dict of its cells and four numbers -/
def penD (c : Addr) (at_ dg ct fo : Int) : List (Key × V) :=
  [(.inr "cells", .ref c), (.inr "at", .int at_), (.inr "digits", .int dg), (.inr "count", .int ct), (.inr "fold", .int fo)]
def PenAt (G : Gx) (B H : Hp) (a : Addr) : Prop :=
  ∃ c ns at_ dg ct fo, H a = some (.dK (penD c at_ dg ct fo)) ∧ SqL G.K B c (List.map V.int ns) ∧ 0 ≤ at_ ∧ 0 ≤ dg
def PenOk (G : Gx) (p : Option Addr) (B H : Hp) : Prop := ∀ a, p = some a → B a = none ∧ PenAt G B H a

def WR (G : Gx) (p : Option Addr) (B H0 H : Hp) : W → V → Prop
  | .sh d, v => Has G B d v
  | .fr d, v => ∃ a, v = .ref a ∧ H0 a = none ∧ B a = none ∧ p ≠ some a ∧ Top G B H d a
  | .bo d, v => ∃ a, v = .ref a ∧ p ≠ some a ∧ Top G B H d a
  | .pen, v => ∃ a, v = .ref a ∧ p = some a

structure Grow (G : Gx) (p : Option Addr) (B H B' H' : Hp) : Prop where
  keep : ∀ a o, p ≠ some a → H a = some o → H' a = some o
  there : ∀ a, H' a = none → H a = none
  base : Ex B B'
  sub : Ex B' H'
  new : ∀ a, B' a ≠ none → B a ≠ none ∨ H a = none
  pen : PenOk G p B' H'

section
variable {G : Gx} {p : Option Addr} {B H B1 H1 B2 H2 H0 H0' : Hp}
theorem Grow.refl (s : Ex B H) (k : PenOk G p B H) : Grow G p B H B H := ⟨fun _ _ _ e => e, fun _ e => e, Evl.Ex.refl _, s, fun _ e => .inl e, k⟩
theorem Grow.trans (a : Grow G p B H B1 H1) (b : Grow G p B1 H1 B2 H2) : Grow G p B H B2 H2 where
  keep := fun x o n e => b.keep x o n (a.keep x o n e)
  there := fun x e => a.there x (b.there x e)
  base := a.base.trans b.base
  sub := b.sub
  new := fun x e => by
    rcases b.new x e with h | h
    · exact a.new x h
    · exact .inr (a.there x h)
  pen := b.pen
theorem Top.mono {d : D} {a : Addr} (h : Top G B H d a) (n : p ≠ some a) (g : Grow G p B H B1 H1) : Top G B1 H1 d a := by
  cases d with
  | lst ds =>
    obtain ⟨vs, e, k⟩ := h
    exact ⟨vs, g.keep _ _ n e, HasL.mono g.base _ _ k⟩
  | dct ds =>
    obtain ⟨vs, e, k⟩ := h
    exact ⟨vs, g.keep _ _ n e, HasK.mono g.base _ _ k⟩
  | _ => exact h.elim
theorem Top.there {d : D} {a : Addr} (h : Top G B H d a) : H a ≠ none := by
  cases d with
  | lst ds =>
    obtain ⟨vs, e, k⟩ := h
    rw [e]; simp
  | dct ds =>
    obtain ⟨vs, e, k⟩ := h
    rw [e]; simp
  | _ => exact h.elim
theorem PenOk.there (k : PenOk G p B H) {a : Addr} (e : p = some a) : H a ≠ none := by
  obtain ⟨_, c, ns, _, _, _, _, h, _⟩ := k a e
  rw [h]; simp
theorem PenOk.off (k : PenOk G p B H) {a : Addr} (e : H a = none) : p ≠ some a := fun q => k.there q e
/-- a borrowed list is not the pen -/
theorem Top.off {d : D} {a : Addr} (h : Top G B H d a) (k : PenOk G p B H) (nl : ∀ ks, d ≠ .dct ks) : p ≠ some a := fun q => by
  obtain ⟨_, c, ns, _, _, _, _, e, _⟩ := k a q
  cases d with
  | lst ds =>
    obtain ⟨vs, e', _⟩ := h
    rw [e] at e'; cases e'
  | dct ks => exact nl ks rfl
  | _ => exact h.elim
end
end Dl
namespace Dl
open PySem L2

section
variable {G : Gx} {p : Option Addr} {B H B1 H1 B2 H2 H0 H0' : Hp}
theorem WR.mono {w : W} {v : V} (h : WR G p B H0 H w v) (g : Grow G p B H B1 H1) : WR G p B1 H0 H1 w v := by
  cases w with
  | sh d => exact Has.mono g.base d v h
  | fr d =>
    obtain ⟨a, e, h0, hb, n, t⟩ := h
    refine ⟨a, e, h0, ?_, n, t.mono n g⟩
    cases q : B1 a with
    | none => rfl
    | some o =>
      rcases g.new a (by rw [q]; simp) with z | z
      · exact absurd hb z
      · exact absurd z t.there
  | bo d =>
    obtain ⟨a, e, n, t⟩ := h
    exact ⟨a, e, n, t.mono n g⟩
  | pen => exact h
/-- seen from an earlier heap -/
theorem WR.back {w : W} {v : V} (h : WR G p B H0 H w v) (k : ∀ a, H0 a = none → H0' a = none) : WR G p B H0' H w v := by
  cases w with
  | fr d =>
    obtain ⟨a, e, h0, hb, n, t⟩ := h
    exact ⟨a, e, k a h0, hb, n, t⟩
  | sh d => exact h
  | bo d => exact h
  | pen => exact h

/-- what is seen of a result, whatever its kind -/
theorem WR.non {w : W} {v : V} (h : WR G p B H0 H w v) (e : w.d = .non) : v = .non := by
  cases w with
  | sh d => cases (show d = D.non from e); exact h
  | fr d => cases (show d = D.non from e); obtain ⟨a, _, _, _, _, t⟩ := h; exact t.elim
  | bo d => cases (show d = D.non from e); obtain ⟨a, _, _, t⟩ := h; exact t.elim
  | pen => cases e
theorem WR.bl {w : W} {v : V} {b : Bool} (h : WR G p B H0 H w v) (e : w.d = .bl b) : v = .bl b := by
  cases w with
  | sh d => cases (show d = D.bl b from e); exact h
  | fr d => cases (show d = D.bl b from e); obtain ⟨a, _, _, _, _, t⟩ := h; exact t.elim
  | bo d => cases (show d = D.bl b from e); obtain ⟨a, _, _, t⟩ := h; exact t.elim
  | pen => cases e
theorem WR.int {w : W} {v : V} {b : Int} (h : WR G p B H0 H w v) (e : w.d = .int b) : v = .int b := by
  cases w with
  | sh d => cases (show d = D.int b from e); exact h
  | fr d => cases (show d = D.int b from e); obtain ⟨a, _, _, _, _, t⟩ := h; exact t.elim
  | bo d => cases (show d = D.int b from e); obtain ⟨a, _, _, t⟩ := h; exact t.elim
  | pen => cases e
theorem WR.str {w : W} {v : V} {b : Str} (h : WR G p B H0 H w v) (e : w.d = .str b) : v = .str b := by
  cases w with
  | sh d => cases (show d = D.str b from e); exact h
  | fr d => cases (show d = D.str b from e); obtain ⟨a, _, _, _, _, t⟩ := h; exact t.elim
  | bo d => cases (show d = D.str b from e); obtain ⟨a, _, _, t⟩ := h; exact t.elim
  | pen => cases e
theorem WR.tup {w : W} {v : V} {ds : List D} (h : WR G p B H0 H w v) (e : w.d = .tup ds) : ∃ a vs, v = .ref a ∧ SqT G.K B a vs ∧ HasL G B ds vs := by
  cases w with
  | sh d => cases (show d = D.tup ds from e); exact h
  | fr d => cases (show d = D.tup ds from e); obtain ⟨a, _, _, _, _, t⟩ := h; exact t.elim
  | bo d => cases (show d = D.tup ds from e); obtain ⟨a, _, _, t⟩ := h; exact t.elim
  | pen => cases e
theorem WR.lst {w : W} {v : V} {ds : List D} (h : WR G p B H0 H w v) (s : Ex B H) (e : w.d = .lst ds) : ∃ a vs, v = .ref a ∧ H a = some (.lst vs) ∧ HasL G B ds vs := by
  cases w with
  | sh d =>
    cases (show d = D.lst ds from e)
    obtain ⟨a, vs, e1, h1, h2⟩ := h
    exact ⟨a, vs, e1, s _ _ h1, h2⟩
  | fr d =>
    cases (show d = D.lst ds from e)
    obtain ⟨a, e1, _, _, _, vs, e2, h2⟩ := h
    exact ⟨a, vs, e1, e2, h2⟩
  | bo d =>
    cases (show d = D.lst ds from e)
    obtain ⟨a, e1, _, vs, e2, h2⟩ := h
    exact ⟨a, vs, e1, e2, h2⟩
  | pen => cases e
theorem WR.dct {w : W} {v : V} {ds : List (Key × D)} (h : WR G p B H0 H w v) (s : Ex B H) (e : w.d = .dct ds) : ∃ a ws, v = .ref a ∧ H a = some (.dK ws) ∧ HasK G B ds ws := by
  cases w with
  | sh d =>
    cases (show d = D.dct ds from e)
    obtain ⟨a, vs, e1, h1, h2⟩ := h
    exact ⟨a, vs, e1, s _ _ h1, h2⟩
  | fr d =>
    cases (show d = D.dct ds from e)
    obtain ⟨a, e1, _, _, _, vs, e2, h2⟩ := h
    exact ⟨a, vs, e1, e2, h2⟩
  | bo d =>
    cases (show d = D.dct ds from e)
    obtain ⟨a, e1, _, vs, e2, h2⟩ := h
    exact ⟨a, vs, e1, e2, h2⟩
  | pen => cases e
theorem WR.ins {w : W} {v : V} {c : Str} {fs : List (Str × D)} (h : WR G p B H0 H w v) (e : w.d = .ins c fs) : ∃ a dx ws, v = .ref a ∧ B a = some (.ins (G.cl c) dx ws) ∧ HasF G B fs ws := by
  cases w with
  | sh d => cases (show d = D.ins c fs from e); exact h
  | fr d => cases (show d = D.ins c fs from e); obtain ⟨a, _, _, _, _, t⟩ := h; exact t.elim
  | bo d => cases (show d = D.ins c fs from e); obtain ⟨a, _, _, t⟩ := h; exact t.elim
  | pen => cases e
end

/-- slots: what each name holds -/
abbrev DSt := List (Option W)
/-- the state: from the entry (B0, H0) on, B is what is shared, H what stands, σd what the slots σ hold -/
structure Rl (G : Gx) (p : Option Addr) (B0 H0 B H : Hp) (σd : DSt) (σ : St) : Prop where
  ok0 : Ex B0 H0 ∧ PenOk G p B0 H0
  gr : Grow G p B0 H0 B H
  len : σd.length = σ.length
  slot : ∀ (i : Nat) (w : W), σd[i]? = some (some w) → ∃ v, σ[i]? = some (some v) ∧ WR G p B H0 H w v
  nob : ∀ (i : Nat) (d : D), σd[i]? ≠ some (some (.bo d))
  dist : ∀ (i j : Nat) (d e : D) (v : V), i ≠ j → σd[i]? = some (some (.fr d)) → σd[j]? = some (some (.fr e)) → σ[i]? = some (some v) → σ[j]? ≠ some (some v)

section
variable {G : Gx} {p : Option Addr} {B0 H0 B H B1 H1 : Hp} {σd : DSt} {σ : St}
theorem Rl.grow (r : Rl G p B0 H0 B H σd σ) (g : Grow G p B H B1 H1) : Rl G p B0 H0 B1 H1 σd σ :=
  ⟨r.ok0, r.gr.trans g, r.len, fun i w e => let ⟨v, a, b⟩ := r.slot i w e; ⟨v, a, b.mono g⟩, r.nob, r.dist⟩
theorem Rl.pen (r : Rl G p B0 H0 B H σd σ) : PenOk G p B H := r.gr.pen
theorem Rl.sub (r : Rl G p B0 H0 B H σd σ) : Ex B H := r.gr.sub
theorem Rl.same (r : Rl G p B0 H0 B H σd σ) : Grow G p B H B H := Grow.refl r.sub r.pen

/-- a result is stored -/
theorem Rl.set {w : W} {v : V} (r : Rl G p B0 H0 B H σd σ) (i : Nat) (g : Grow G p B H B1 H1) (hw : WR G p B1 H H1 w v) (nb : ∀ d, w ≠ .bo d) : Rl G p B0 H0 B1 H1 (σd.set i (some w)) (σ.set i (some v)) := by
  have r1 := r.grow g
  have hw0 : WR G p B1 H0 H1 w v := hw.back fun a e => r.gr.there a e
  -- a new one is none that a slot owns
  have new : ∀ d, w = .fr d → ∀ (j : Nat) (e : D), σd[j]? = some (some (.fr e)) → σ[j]? ≠ some (some v) := fun d hd j e hj hv => by
    subst hd
    obtain ⟨a, e1, h0, _⟩ := hw
    obtain ⟨v', e2, b, e3, _, _, _, t⟩ := r.slot j _ hj
    rw [hv] at e2; cases e2
    rw [e1] at e3; cases e3
    exact t.there h0
  refine ⟨r.ok0, r1.gr, by simp [r.len], fun j u e => ?_, fun j d e => ?_, fun j k d e v' n ej ek hv hk => ?_⟩
  · by_cases hj : i = j
    · subst hj
      rw [List.getElem?_set] at e
      simp only [if_true] at e
      split at e
      · rename_i hl
        cases e
        exact ⟨v, by rw [List.getElem?_set]; simp [← r.len, hl], hw0⟩
      · cases e
    · rw [List.getElem?_set_ne hj] at e ⊢
      exact r1.slot j u e
  · by_cases hj : i = j
    · subst hj
      rw [List.getElem?_set] at e
      simp only [if_true] at e
      split at e
      · cases e; exact nb d rfl
      · cases e
    · rw [List.getElem?_set_ne hj] at e
      exact r.nob j d e
  · by_cases hj : i = j
    · subst hj
      rw [List.getElem?_set_ne n] at ek hk
      rw [List.getElem?_set] at ej hv
      simp only [if_true] at ej hv
      split at ej
      · rename_i hl
        cases ej
        rw [if_pos (by rw [← r.len]; exact hl)] at hv
        cases hv
        exact new d rfl k e ek hk
      · cases ej
    · by_cases hk' : i = k
      · subst hk'
        rw [List.getElem?_set_ne hj] at ej hv
        rw [List.getElem?_set] at ek hk
        simp only [if_true] at ek hk
        split at ek
        · rename_i hl
          cases ek
          rw [if_pos (by rw [← r.len]; exact hl)] at hk
          cases hk
          exact new e rfl j d ej hv
        · cases ek
      · rw [List.getElem?_set_ne hj] at ej hv
        rw [List.getElem?_set_ne hk'] at ek hk
        exact r.dist j k d e v' n ej ek hv hk
end

/-! ### judgements -/
abbrev DE := DSt → (W → Prop) → Prop
abbrev DT := DSt → (Bool → Prop) → Prop
abbrev DA := DSt → (List W → Prop) → Prop

def WRs (G : Gx) (p : Option Addr) (B H0 H : Hp) : List W → List V → Prop
  | [], vs => vs = []
  | w :: ws, vs => ∃ v r, vs = v :: r ∧ WR G p B H0 H w v ∧ (w.isFr = true → ∀ (j : Nat) (u : W), ws[j]? = some u → u.isFr = true → r[j]? ≠ some v) ∧ WRs G p B H0 H ws r

section
variable (G : Gx) (p : Option Addr) (B0 H0 : Hp)
def tD (d : DE) : TE := fun σ H Q => ∃ B σd Qd, Rl G p B0 H0 B H σd σ ∧ d σd Qd ∧ ∀ w v B' H', Grow G p B H B' H' → WR G p B' H H' w v → Qd w → Q v H'
def tDT (d : DT) : TT := fun σ H Q => ∃ B σd Qd, Rl G p B0 H0 B H σd σ ∧ d σd Qd ∧ ∀ b B' H', Grow G p B H B' H' → Qd b → Q b H'
def tDA (d : DA) : TA := fun σ H Q => ∃ B σd Qd, Rl G p B0 H0 B H σd σ ∧ d σd Qd ∧ ∀ ws vs B' H', Grow G p B H B' H' → WRs G p B' H H' ws vs → Qd ws → Q vs H'
abbrev DEj (X : Cx) (e : Expr) (d : DE) : Prop := PE X e (tD G p B0 H0 d)
abbrev DTj (X : Cx) (e : Expr) (d : DT) : Prop := PT X e (tDT G p B0 H0 d)
abbrev DWj (X : Cx) (e : Expr) (d : DT) : Prop := PW X e (tDT G p B0 H0 d)
abbrev DAj (X : Cx) (es : List Expr) (d : DA) : Prop := PA X es (tDA G p B0 H0 d)
end

theorem pe_wk {X : Cx} {e : Expr} {t t' : TE} (h : PE X e t) (w : ∀ σ H Q, t' σ H Q → t σ H Q) : PE X e t' := ⟨fun pins s σ H Q I q => h.run pins s σ H Q I (w _ _ _ q)⟩
theorem pt_wk {X : Cx} {e : Expr} {t t' : TT} (h : PT X e t) (w : ∀ σ H Q, t' σ H Q → t σ H Q) : PT X e t' := ⟨fun pins s σ H Q I q => h.run pins s σ H Q I (w _ _ _ q)⟩
theorem pw_wk {X : Cx} {e : Expr} {t t' : TT} (h : PW X e t) (w : ∀ σ H Q, t' σ H Q → t σ H Q) : PW X e t' := ⟨fun wh pins s σ H Q I q => h.run wh pins s σ H Q I (w _ _ _ q)⟩
theorem pa_wk {X : Cx} {e : List Expr} {t t' : TA} (h : PA X e t) (w : ∀ σ H Q, t' σ H Q → t σ H Q) : PA X e t' := ⟨fun pos pins s σ H Q I q => h.run pos pins s σ H Q I (w _ _ _ q)⟩

section
variable {G : Gx} {p : Option Addr} {B0 H0 : Hp} {X : Cx} {a b c e : Expr} {es : List Expr} {da db dc : DE} {ds : DA} {pos : Pos}

/-- a name -/
def dV (i : Nat) : DE := fun σ Q => match σ[i]? with
  | some (some (.fr d)) => Q (.bo d)
  | some (some w) => Q w
  | _ => False
theorem de_v {i : Nat} {x : Str} (hN : X.N[i]? = some x) (hv : Vis X.env.scope x) (hd : (x == ("__debug__" : Str)) = false := by decide) (hcd : (x == ("__classdict__" : Str)) = false := by decide) : DEj G p B0 H0 X (.Name x pos) (dV i) := by
  refine pe_wk (pe_var hN hv hd hcd) fun σ H Q h => ?_
  obtain ⟨B, σd, Qd, r, hq, k⟩ := h
  unfold dV at hq
  split at hq
  · rename_i d e
    obtain ⟨v, e1, a, e2, _, _, n, t⟩ := r.slot _ _ e
    exact ⟨v, e1, k (.bo d) v B H r.same ⟨a, e2, n, t⟩ hq⟩
  · rename_i w nf e
    obtain ⟨v, e1, hw⟩ := r.slot _ _ e
    refine ⟨v, e1, k w v B H r.same ?_ hq⟩
    cases w with
    | sh d => exact hw
    | pen => exact hw
    | bo d => exact absurd e (r.nob _ d)
    | fr d => exact (nf d rfl).elim
  · exact hq.elim
/-- a written constant -/
def dC (d : D) : DE := fun _ Q => Q (.sh d)
theorem de_c {v : V} {d : D} (h : PE X e (tC v)) (hd : ∀ B, Has G B d v) : DEj G p B0 H0 X e (dC d) := by
  refine pe_wk h fun σ H Q h => ?_
  obtain ⟨B, σd, Qd, r, hq, k⟩ := h
  exact k (.sh d) v B H r.same (hd B) hq
theorem de_int {i : Int} {j} : DEj G p B0 H0 X (.Constant (.int i) j pos) (dC (.int i)) := de_c pe_int fun _ => by unfold Has; rfl
theorem de_bl {i : Bool} {j} : DEj G p B0 H0 X (.Constant (.bool i) j pos) (dC (.bl i)) := de_c pe_bl fun _ => by unfold Has; rfl
theorem de_non {j} : DEj G p B0 H0 X (.Constant .none j pos) (dC .non) := de_c pe_non fun _ => by unfold Has; rfl
theorem de_str {i : Str} {j} : DEj G p B0 H0 X (.Constant (.str i) j pos) (dC (.str i)) := de_c pe_str fun _ => by unfold Has; rfl
/-- a module's constant -/
theorem de_glob {x : Str} {v : V} {u : Value} {d : D} (hg : Gl X x) (hm : X.mg x = some u) (r : RelV v u) (hd : ∀ B, Has G B d v) (hdb : (x == ("__debug__" : Str)) = false := by decide) : DEj G p B0 H0 X (.Name x pos) (dC d) := de_c (pe_glob hg hm r hdb) hd

/-- two-place operations -/
abbrev WOp := W → W → (W → Prop) → Prop
def SimR (G : Gx) (p : Option Addr) (r : R2) (f : WOp) : Prop := ∀ (B H0 H : Hp) (w u : W) (x y : V) (Qd : W → Prop) (Q : VK), Ex B H → PenOk G p B H → WR G p B H0 H w x → WR G p B H0 H u y → f w u Qd →
  (∀ z v B' H', Grow G p B H B' H' → WR G p B' H H' z v → Qd z → Q v H') → r x y H Q
def OpD (G : Gx) (p : Option Addr) (X : Cx) (g : Value → Value → Sem Value) (f : WOp) : Prop := ∃ r, OpR X g r ∧ SimR G p r f
def dOp (f : WOp) (da db : DE) : DE := fun σ Q => da σ fun w => db σ fun u => f w u Q
theorem sim_op {r : R2} {f : WOp} (h : SimR G p r f) {σ : St} {H : Hp} {Q : VK} (q : tD G p B0 H0 (dOp f da db) σ H Q) : tOp r (tD G p B0 H0 da) (tD G p B0 H0 db) σ H Q := by
  obtain ⟨B, σd, Qd, rl, hq, k⟩ := q
  refine ⟨B, σd, _, rl, hq, fun w x B1 H1 g1 hw hq1 => ?_⟩
  refine ⟨B1, σd, _, rl.grow g1, hq1, fun u y B2 H2 g2 hu hq2 => ?_⟩
  refine h B2 H H2 w u x y Qd Q g2.sub g2.pen (hw.mono g2) (hu.back fun a e => g1.there a e) hq2 fun z v B3 H3 g3 hz hq3 => ?_
  exact k z v B3 H3 ((g1.trans g2).trans g3) (hz.back fun a e => g1.there a (g2.there a e)) hq3
theorem de_op {op : Operator} {f : WOp} (h : OpD G p X (binaryOp op) f) (ha : DEj G p B0 H0 X a da) (hb : DEj G p B0 H0 X b db) : DEj G p B0 H0 X (.BinOp a op b pos) (dOp f da db) := by
  obtain ⟨r, h1, h2⟩ := h
  exact pe_wk (pe_op h1 ha hb) fun σ H Q q => sim_op h2 q
theorem de_cmp {op : CmpOp} {f : WOp} (h : OpD G p X (compareOp op) f) (ha : DEj G p B0 H0 X a da) (hb : DEj G p B0 H0 X b db) (hm : behindInMarks op b = false) : DEj G p B0 H0 X (.Compare a [op] [b] pos) (dOp f da db) := by
  obtain ⟨r, h1, h2⟩ := h
  exact pe_wk (pe_cmpR h1 ha hb hm) fun σ H Q q => sim_op h2 q
/-- .. as a test -/
def dTst (d : DE) : DT := fun σ Q => d σ fun w => match w with
  | .sh (.bl b) => Q b
  | _ => False
theorem sim_tst {t : TE} {d : DE} (h : ∀ σ H Q, tD G p B0 H0 d σ H Q → t σ H Q) {σ : St} {H : Hp} {Q : Bool → Hp → Prop} (q : tDT G p B0 H0 (dTst d) σ H Q) : tTest t σ H Q := by
  obtain ⟨B, σd, Qd, rl, hq, k⟩ := q
  refine h σ H _ ⟨B, σd, _, rl, hq, fun w v B1 H1 g hw hq1 => ?_⟩
  split at hq1
  · rename_i b
    exact ⟨b, by simpa [WR, Has] using hw, k b B1 H1 g hq1⟩
  · exact hq1.elim
theorem dt_cmp {op : CmpOp} {f : WOp} (h : OpD G p X (compareOp op) f) (ha : DEj G p B0 H0 X a da) (hb : DEj G p B0 H0 X b db) (hm : behindInMarks op b = false) : DTj G p B0 H0 X (.Compare a [op] [b] pos) (dTst (dOp f da db)) := by
  obtain ⟨r, h1, h2⟩ := h
  exact pt_wk (pt_cmpR h1 ha hb hm) fun σ H Q q => sim_tst (fun _ _ _ => sim_op h2) q
/-- a chain of two -/
def dChain (f f' : WOp) (da db dc : DE) : DE := fun σ Q => da σ fun w => db σ fun u => f w u fun z => match z with
  | .sh (.bl true) => dc σ fun t => f' u t Q
  | .sh (.bl false) => Q (.sh (.bl false))
  | _ => False
theorem sim_chain {r r' : R2} {f f' : WOp} (h : SimR G p r f) (h' : SimR G p r' f') {σ : St} {H : Hp} {Q : VK} (q : tD G p B0 H0 (dChain f f' da db dc) σ H Q) : tChain r r' (tD G p B0 H0 da) (tD G p B0 H0 db) (tD G p B0 H0 dc) σ H Q := by
  obtain ⟨B, σd, Qd, rl, hq, k⟩ := q
  refine ⟨B, σd, _, rl, hq, fun w x B1 H1 g1 hw hq1 => ?_⟩
  refine ⟨B1, σd, _, rl.grow g1, hq1, fun u y B2 H2 g2 hu hq2 => ?_⟩
  refine h B2 H H2 w u x y _ _ g2.sub g2.pen (hw.mono g2) (hu.back fun a e => g1.there a e) hq2 fun z v B3 H3 g3 hz hq3 => ?_
  split at hq3
  · refine ⟨true, by simpa [WR, Has] using hz, ?_⟩
    rw [if_pos rfl]
    refine ⟨B3, σd, _, rl.grow ((g1.trans g2).trans g3), hq3, fun t y' B4 H4 g4 ht hq4 => ?_⟩
    refine h' B4 H H4 u t y y' Qd Q g4.sub g4.pen (((hu.back fun a e => g1.there a e).mono g3).mono g4) (ht.back fun a e => g1.there a (g2.there a (g3.there a e))) hq4 fun z' v' B5 H5 g5 hz' hq5 => ?_
    exact k z' v' B5 H5 ((((g1.trans g2).trans g3).trans g4).trans g5) (hz'.back fun a e => g1.there a (g2.there a (g3.there a (g4.there a e)))) hq5
  · refine ⟨false, by simpa [WR, Has] using hz, ?_⟩
    rw [if_neg Bool.false_ne_true]
    exact k _ _ B3 H3 ((g1.trans g2).trans g3) (by show Has G B3 (.bl false) (.bl false); unfold Has; rfl) hq3
  · exact hq3.elim
theorem de_chain {op op' : CmpOp} {f f' : WOp} (h : OpD G p X (compareOp op) f) (h' : OpD G p X (compareOp op') f') (ha : DEj G p B0 H0 X a da) (hb : DEj G p B0 H0 X b db) (hc : DEj G p B0 H0 X c dc) (hm : lastMarks [op, op'] [b, c] = false := by with_unfolding_all rfl) :
    DEj G p B0 H0 X (.Compare a [op, op'] [b, c] pos) (dChain f f' da db dc) := by
  obtain ⟨r, h1, h2⟩ := h
  obtain ⟨r', h1', h2'⟩ := h'
  exact pe_wk (pe_chain h1 h1' ha hb hc hm) fun σ H Q q => sim_chain h2 h2' q
theorem dt_chain {op op' : CmpOp} {f f' : WOp} (h : OpD G p X (compareOp op) f) (h' : OpD G p X (compareOp op') f') (ha : DEj G p B0 H0 X a da) (hb : DEj G p B0 H0 X b db) (hc : DEj G p B0 H0 X c dc) (hm : lastMarks [op, op'] [b, c] = false := by with_unfolding_all rfl) :
    DTj G p B0 H0 X (.Compare a [op, op'] [b, c] pos) (dTst (dChain f f' da db dc)) := by
  obtain ⟨r, h1, h2⟩ := h
  obtain ⟨r', h1', h2'⟩ := h'
  exact pt_wk (pt_chain h1 h1' ha hb hc hm) fun σ H Q q => sim_tst (fun _ _ _ => sim_chain h2 h2') q
end
end Dl
namespace Dl
open PySem L2

section
variable {G : Gx} {p : Option Addr} {B0 H0 : Hp} {X : Cx} {a b c e : Expr} {es rest : List Expr} {da db dc d : DE} {ds : DA} {t u : DT} {pos : Pos}

/-! ### tests -/
def dAnd (t u : DT) : DT := fun σ Q => t σ fun b => if b = true then u σ Q else Q false
def dOr (t u : DT) : DT := fun σ Q => t σ fun b => if b = true then Q true else u σ Q
def dNot (t : DT) : DT := fun σ Q => t σ fun b => Q (!b)
theorem dw_and1 (h : DTj G p B0 H0 X a t) : DWj G p B0 H0 X (.BoolOp .And [a] pos) t := pw_and1 h
theorem dw_or1 (h : DTj G p B0 H0 X a t) : DWj G p B0 H0 X (.BoolOp .Or [a] pos) t := pw_or1 h
theorem dw_and (h1 : DTj G p B0 H0 X a t) (h2 : DWj G p B0 H0 X (.BoolOp .And (b :: rest) pos) u) : DWj G p B0 H0 X (.BoolOp .And (a :: b :: rest) pos) (dAnd t u) := by
  refine pw_wk (pw_and h1 h2) fun σ H Q q => ?_
  obtain ⟨B, σd, Qd, rl, hq, k⟩ := q
  refine ⟨B, σd, _, rl, hq, fun b B1 H1 g1 hq1 => ?_⟩
  cases b with
  | true =>
    rw [if_pos rfl] at hq1 ⊢
    exact ⟨B1, σd, Qd, rl.grow g1, hq1, fun b' B2 H2 g2 hq2 => k b' B2 H2 (g1.trans g2) hq2⟩
  | false =>
    rw [if_neg Bool.false_ne_true] at hq1 ⊢
    exact k _ B1 H1 g1 hq1
theorem dw_or (h1 : DTj G p B0 H0 X a t) (h2 : DWj G p B0 H0 X (.BoolOp .Or (b :: rest) pos) u) : DWj G p B0 H0 X (.BoolOp .Or (a :: b :: rest) pos) (dOr t u) := by
  refine pw_wk (pw_or h1 h2) fun σ H Q q => ?_
  obtain ⟨B, σd, Qd, rl, hq, k⟩ := q
  refine ⟨B, σd, _, rl, hq, fun b B1 H1 g1 hq1 => ?_⟩
  cases b with
  | true =>
    rw [if_pos rfl] at hq1 ⊢
    exact k _ B1 H1 g1 hq1
  | false =>
    rw [if_neg Bool.false_ne_true] at hq1 ⊢
    exact ⟨B1, σd, Qd, rl.grow g1, hq1, fun b' B2 H2 g2 hq2 => k b' B2 H2 (g1.trans g2) hq2⟩
theorem dt_w (h : DWj G p B0 H0 X a t) : DTj G p B0 H0 X a t := h.pt
theorem dt_not (h : DTj G p B0 H0 X a t) : DTj G p B0 H0 X (.UnaryOp .Not a pos) (dNot t) := by
  refine pt_wk (pt_not h) fun σ H Q q => ?_
  obtain ⟨B, σd, Qd, rl, hq, k⟩ := q
  exact ⟨B, σd, _, rl, hq, fun b B1 H1 g1 hq1 => k _ B1 H1 g1 hq1⟩
/-- a value's truth -/
def dTru (d : DE) : DT := fun σ Q => d σ fun w => match w.d with
  | .non => Q false
  | .bl b => Q b
  | .int i => Q (i != 0)
  | .str y => y.length ≤ sizeLine ∧ Q ((y.length : Int) != 0)
  | .tup ds => Q (!ds.isEmpty)
  | .lst ds => Q (!ds.isEmpty)
  | .dct ks => Q (!ks.isEmpty)
  | _ => False
theorem HasL.emp {G : Gx} {B : Hp} {ds : List D} {vs : List V} (h : HasL G B ds vs) : (!vs.isEmpty) = !ds.isEmpty := by
  cases ds with
  | nil => unfold HasL at h; subst h; rfl
  | cons d r => unfold HasL at h; obtain ⟨v, r', rfl, _⟩ := h; rfl
theorem HasK.emp {G : Gx} {B : Hp} {ds : List (Key × D)} {vs : List (Key × V)} (h : HasK G B ds vs) : (!vs.isEmpty) = !ds.isEmpty := by
  cases ds with
  | nil => unfold HasK at h; subst h; rfl
  | cons d r => obtain ⟨k, d⟩ := d; unfold HasK at h; obtain ⟨v, r', rfl, _⟩ := h; rfl
theorem dt_tru (hK : X.K = G.K) (ha : DEj G p B0 H0 X a da) (he : ∀ whole, isTrue a X.env whole = (do let v ← whole; standAt a.pos; holding [v] (truthy v)) := by intro _; rfl) : DTj G p B0 H0 X a (dTru da) := by
  refine pt_wk (pt_truth ha he) fun σ H Q q => ?_
  obtain ⟨B, σd, Qd, rl, hq, k⟩ := q
  refine ⟨B, σd, _, rl, hq, fun w v B1 H1 g1 hw hq1 => ?_⟩
  split at hq1
  · rename_i e; rw [hw.non e]; exact ⟨_, rfl, k _ B1 H1 g1 hq1⟩
  · rename_i b e; rw [hw.bl e]; exact ⟨_, rfl, k _ B1 H1 g1 hq1⟩
  · rename_i b e; rw [hw.int e]; exact ⟨_, rfl, k _ B1 H1 g1 hq1⟩
  · rename_i b e; rw [hw.str e]; exact ⟨_, ⟨hq1.1, rfl⟩, k _ B1 H1 g1 hq1.2⟩
  · rename_i b e
    obtain ⟨a, vs, rfl, h1, h2⟩ := hw.tup e
    exact ⟨_, .inr (.inl ⟨vs, by rw [hK]; exact Evl.ex_t g1.sub h1, rfl⟩), by rw [h2.emp]; exact k _ B1 H1 g1 hq1⟩
  · rename_i b e
    obtain ⟨a, vs, rfl, h1, h2⟩ := hw.lst g1.sub e
    exact ⟨_, .inl ⟨vs, SqL.of h1, rfl⟩, by rw [h2.emp]; exact k _ B1 H1 g1 hq1⟩
  · rename_i b e
    obtain ⟨a, vs, rfl, h1, h2⟩ := hw.dct g1.sub e
    exact ⟨_, .inr (.inr ⟨vs, h1, rfl⟩), by rw [h2.emp]; exact k _ B1 H1 g1 hq1⟩
  · exact hq1.elim

/-! ### and, or, not as values; the conditional expression -/
def dAndV (da db : DE) : DE := fun σ Q => da σ fun w => match w with
  | .sh (.bl true) => db σ Q
  | .sh (.bl false) => Q (.sh (.bl false))
  | _ => False
def dOrV (da db : DE) : DE := fun σ Q => da σ fun w => match w with
  | .sh (.bl true) => Q (.sh (.bl true))
  | .sh (.bl false) => db σ Q
  | _ => False
def dNotV (da : DE) : DE := fun σ Q => da σ fun w => match w with
  | .sh (.bl b) => Q (.sh (.bl (!b)))
  | _ => False
theorem has_bl (B : Hp) (b : Bool) (H : Hp) : WR G p B H0 H (.sh (.bl b)) (.bl b) := by show Has G B (.bl b) (.bl b); unfold Has; rfl
theorem has_int (B : Hp) (b : Int) (H : Hp) : WR G p B H0 H (.sh (.int b)) (.int b) := by show Has G B (.int b) (.int b); unfold Has; rfl
theorem has_str (B : Hp) (b : Str) (H : Hp) : WR G p B H0 H (.sh (.str b)) (.str b) := by show Has G B (.str b) (.str b); unfold Has; rfl
theorem has_non (B : Hp) (H : Hp) : WR G p B H0 H (.sh .non) .non := by show Has G B .non .non; unfold Has; rfl
theorem de_one {op} (h : DEj G p B0 H0 X a d) : DEj G p B0 H0 X (.BoolOp op [a] pos) d := pe_one h
theorem de_and (h1 : DEj G p B0 H0 X a da) (h2 : DEj G p B0 H0 X (.BoolOp .And (b :: rest) pos) db) : DEj G p B0 H0 X (.BoolOp .And (a :: b :: rest) pos) (dAndV da db) := by
  refine pe_wk (pe_and h1 h2) fun σ H Q q => ?_
  obtain ⟨B, σd, Qd, rl, hq, k⟩ := q
  refine ⟨B, σd, _, rl, hq, fun w v B1 H1 g1 hw hq1 => ?_⟩
  split at hq1
  · refine ⟨true, hw.bl rfl, ?_⟩
    rw [if_pos rfl]
    exact ⟨B1, σd, Qd, rl.grow g1, hq1, fun w' v' B2 H2 g2 hw' hq2 => k w' v' B2 H2 (g1.trans g2) (hw'.back g1.there) hq2⟩
  · refine ⟨false, hw.bl rfl, ?_⟩
    rw [if_neg Bool.false_ne_true]
    exact k _ _ B1 H1 g1 (has_bl _ _ _) hq1
  · exact hq1.elim
theorem de_or (h1 : DEj G p B0 H0 X a da) (h2 : DEj G p B0 H0 X (.BoolOp .Or (b :: rest) pos) db) : DEj G p B0 H0 X (.BoolOp .Or (a :: b :: rest) pos) (dOrV da db) := by
  refine pe_wk (pe_or h1 h2) fun σ H Q q => ?_
  obtain ⟨B, σd, Qd, rl, hq, k⟩ := q
  refine ⟨B, σd, _, rl, hq, fun w v B1 H1 g1 hw hq1 => ?_⟩
  split at hq1
  · refine ⟨true, hw.bl rfl, ?_⟩
    rw [if_pos rfl]
    exact k _ _ B1 H1 g1 (has_bl _ _ _) hq1
  · refine ⟨false, hw.bl rfl, ?_⟩
    rw [if_neg Bool.false_ne_true]
    exact ⟨B1, σd, Qd, rl.grow g1, hq1, fun w' v' B2 H2 g2 hw' hq2 => k w' v' B2 H2 (g1.trans g2) (hw'.back g1.there) hq2⟩
  · exact hq1.elim
theorem de_not (h1 : DEj G p B0 H0 X a da) : DEj G p B0 H0 X (.UnaryOp .Not a pos) (dNotV da) := by
  refine pe_wk (pe_not h1) fun σ H Q q => ?_
  obtain ⟨B, σd, Qd, rl, hq, k⟩ := q
  refine ⟨B, σd, _, rl, hq, fun w v B1 H1 g1 hw hq1 => ?_⟩
  split at hq1
  · exact ⟨_, hw.bl rfl, k _ _ B1 H1 g1 (has_bl _ _ _) hq1⟩
  · exact hq1.elim
def dIfE (t : DT) (da db : DE) : DE := fun σ Q => t σ fun b => if b = true then da σ Q else db σ Q
theorem de_if (h : DTj G p B0 H0 X c t) (h1 : DEj G p B0 H0 X a da) (h2 : DEj G p B0 H0 X b db) : DEj G p B0 H0 X (.IfExp c a b pos) (dIfE t da db) := by
  refine pe_wk (pe_ifExp h h1 h2) fun σ H Q q => ?_
  obtain ⟨B, σd, Qd, rl, hq, k⟩ := q
  refine ⟨B, σd, _, rl, hq, fun b B1 H1 g1 hq1 => ?_⟩
  cases b with
  | true =>
    rw [if_pos rfl] at hq1 ⊢
    exact ⟨B1, σd, Qd, rl.grow g1, hq1, fun w' v' B2 H2 g2 hw' hq2 => k w' v' B2 H2 (g1.trans g2) (hw'.back g1.there) hq2⟩
  | false =>
    rw [if_neg Bool.false_ne_true] at hq1 ⊢
    exact ⟨B1, σd, Qd, rl.grow g1, hq1, fun w' v' B2 H2 g2 hw' hq2 => k w' v' B2 H2 (g1.trans g2) (hw'.back g1.there) hq2⟩

/-! ### argument lists -/
def dNil : DA := fun _ Q => Q []
def dCons (d : DE) (r : DA) : DA := fun σ Q => d σ fun w => r σ fun ws => Q (w :: ws)
theorem da_nil : DAj G p B0 H0 X [] dNil := by
  refine pa_wk pa_nil fun σ H Q q => ?_
  obtain ⟨B, σd, Qd, rl, hq, k⟩ := q
  exact k [] [] B H rl.same rfl hq
theorem WRs.mono {B H B1 H1 Hs : Hp} : ∀ {ws : List W} {vs : List V}, WRs G p B Hs H ws vs → Grow G p B H B1 H1 → WRs G p B1 Hs H1 ws vs
  | [], vs, h, _ => h
  | w :: ws, vs, h, g => by
    obtain ⟨v, r, e, h1, h2, h3⟩ := h
    exact ⟨v, r, e, h1.mono g, h2, h3.mono g⟩
theorem WRs.back {B H Hs Ht : Hp} : ∀ {ws : List W} {vs : List V}, WRs G p B Hs H ws vs → (∀ a, Hs a = none → Ht a = none) → WRs G p B Ht H ws vs
  | [], vs, h, _ => h
  | w :: ws, vs, h, g => by
    obtain ⟨v, r, e, h1, h2, h3⟩ := h
    exact ⟨v, r, e, h1.back g, h2, h3.back g⟩
theorem WRs.at {B H Hs : Hp} : ∀ {ws : List W} {vs : List V} {j : Nat} {u : W}, WRs G p B Hs H ws vs → ws[j]? = some u → ∃ v, vs[j]? = some v ∧ WR G p B Hs H u v
  | [], _, j, u, _, e => by simp at e
  | w :: ws, _, 0, u, h, e => by
    obtain ⟨v, r, rfl, h1, h2, h3⟩ := h
    simp at e; subst e
    exact ⟨v, rfl, h1⟩
  | w :: ws, _, j + 1, u, h, e => by
    obtain ⟨v, r, rfl, h1, h2, h3⟩ := h
    obtain ⟨v', a, b⟩ := WRs.at h3 (j := j) (by simpa using e)
    exact ⟨v', by simpa using a, b⟩
theorem da_cons (h : DEj G p B0 H0 X e d) (hr : DAj G p B0 H0 X es ds) (hs : starEach (e :: es) X.env = (false, eval e X.env) :: starEach es X.env := by rfl) : DAj G p B0 H0 X (e :: es) (dCons d ds) := by
  refine pa_wk (pa_cons h hr hs) fun σ H Q q => ?_
  obtain ⟨B, σd, Qd, rl, hq, k⟩ := q
  refine ⟨B, σd, _, rl, hq, fun w v B1 H1 g1 hw hq1 => ?_⟩
  refine ⟨B1, σd, _, rl.grow g1, hq1, fun ws vs B2 H2 g2 hws hq2 => ?_⟩
  refine k (w :: ws) (v :: vs) B2 H2 (g1.trans g2) ⟨v, vs, rfl, hw.mono g2, fun hf j u hj hu hv => ?_, hws.back g1.there⟩ hq2
  obtain ⟨v', e1, h1⟩ := hws.at hj
  rw [hv] at e1; cases e1
  cases w with
  | fr d =>
    obtain ⟨a, e2, _, _, _, t⟩ := hw
    cases u with
    | fr d' =>
      obtain ⟨a', e3, h0, _⟩ := h1
      rw [e2] at e3; cases e3
      exact t.there h0
    | _ => cases hu
  | _ => cases hf

/-! ### new data becomes shared -/
def W.cl? : W → Option D
  | .sh d => some d
  | .fr d => some d
  | _ => none
def cls? : List W → Option (List D)
  | [] => some []
  | w :: ws => match w.cl?, cls? ws with
    | some d, some ds => some (d :: ds)
    | _, _ => none
section
variable {Bs Hs B H : Hp}
/-- a new object, shared at once -/
theorem Grow.newS {a : Addr} {o : HO} (g : Grow G p Bs Hs B H) (h : H a = none) : Grow G p Bs Hs (upd B a o) (upd H a o) ∧ Ex B (upd B a o) := by
  have hb : B a = none := by
    cases q : B a with
    | none => rfl
    | some u => rw [g.sub _ _ q] at h; cases h
  have eb : Ex B (upd B a o) := Evl.Ex.new hb
  have na : p ≠ some a := g.pen.off h
  refine ⟨⟨fun b u n e => ?_, fun b e => ?_, g.base.trans eb, fun b u e => ?_, fun b e => ?_, fun b e => ?_⟩, eb⟩
  · rw [upd_ne (ne_of_none (g.keep b u n e) h)]; exact g.keep b u n e
  · refine g.there b ?_
    by_cases hb : b = a
    · subst hb; rw [upd_same] at e; cases e
    · rw [upd_ne hb] at e; exact e
  · by_cases hb : b = a
    · subst hb; rw [upd_same] at e ⊢; exact e
    · rw [upd_ne hb] at e ⊢; exact g.sub b u e
  · by_cases hb : b = a
    · subst hb; exact .inr (g.there b h)
    · rw [upd_ne hb] at e; exact g.new b e
  · have nb : b ≠ a := fun q => na (by rw [← q]; exact e)
    obtain ⟨h1, c, ns, x1, x2, x3, x4, h2, h3, h4⟩ := g.pen b e
    exact ⟨by rw [upd_ne nb]; exact h1, c, ns, x1, x2, x3, x4, by rw [upd_ne nb]; exact h2, Evl.ex_l eb h3, h4⟩
/-- a new object, owned -/
theorem Grow.newF {a : Addr} {o : HO} (g : Grow G p Bs Hs B H) (h : H a = none) : Grow G p Bs Hs B (upd H a o) := by
  have na : p ≠ some a := g.pen.off h
  refine ⟨fun b u n e => ?_, fun b e => ?_, g.base, fun b u e => ?_, g.new, fun b e => ?_⟩
  · rw [upd_ne (ne_of_none (g.keep b u n e) h)]; exact g.keep b u n e
  · refine g.there b ?_
    by_cases hb : b = a
    · subst hb; rw [upd_same] at e; cases e
    · rw [upd_ne hb] at e; exact e
  · rw [upd_ne (ne_of_none (g.sub b u e) h)]; exact g.sub b u e
  · have nb : b ≠ a := fun q => na (by rw [← q]; exact e)
    obtain ⟨h1, c, ns, x1, x2, x3, x4, h2, h3, h4⟩ := g.pen b e
    exact ⟨h1, c, ns, x1, x2, x3, x4, by rw [upd_ne nb]; exact h2, h3, h4⟩
/-- an owned object is handed over to what is shared -/
theorem Grow.give {a : Addr} {o : HO} (g : Grow G p Bs Hs B H) (hs : Hs a = none) (hb : B a = none) (na : p ≠ some a) (h : H a = some o) : Grow G p Bs Hs (upd B a o) H ∧ Ex B (upd B a o) := by
  have eb : Ex B (upd B a o) := Evl.Ex.new hb
  refine ⟨⟨g.keep, g.there, g.base.trans eb, fun b u e => ?_, fun b e => ?_, fun b e => ?_⟩, eb⟩
  · by_cases hb : b = a
    · subst hb; rw [upd_same] at e; rw [h]; exact e
    · rw [upd_ne hb] at e; exact g.sub b u e
  · by_cases hb : b = a
    · subst hb; exact .inr hs
    · rw [upd_ne hb] at e; exact g.new b e
  · have nb : b ≠ a := fun q => na (by rw [← q]; exact e)
    obtain ⟨h1, c, ns, x1, x2, x3, x4, h2, h3, h4⟩ := g.pen b e
    exact ⟨by rw [upd_ne nb]; exact h1, c, ns, x1, x2, x3, x4, h2, Evl.ex_l eb h3, h4⟩
theorem Top.obj {d : D} {a : Addr} (t : Top G B H d a) : ∃ o, H a = some o ∧ ∀ B', Ex B B' → B' a = some o → Has G B' d (.ref a) := by
  cases d with
  | lst ds =>
    obtain ⟨vs, e, k⟩ := t
    exact ⟨_, e, fun B' x h => by unfold Has; exact ⟨a, vs, rfl, h, k.mono x⟩⟩
  | dct ds =>
    obtain ⟨vs, e, k⟩ := t
    exact ⟨_, e, fun B' x h => by unfold Has; exact ⟨a, vs, rfl, h, k.mono x⟩⟩
  | _ => exact t.elim
/-- a result becomes shared -/
theorem WR.share {w : W} {v : V} {d : D} (g : Grow G p Bs Hs B H) (h : WR G p B Hs H w v) (e : w.cl? = some d) : ∃ B', Grow G p Bs Hs B' H ∧ Ex B B' ∧ Has G B' d v ∧ ∀ a, B' a ≠ none → B a ≠ none ∨ (w.isFr = true ∧ v = .ref a) := by
  cases w with
  | sh d' => cases e; exact ⟨B, g, Evl.Ex.refl _, h, fun _ e => .inl e⟩
  | fr d' =>
    cases e
    obtain ⟨a, rfl, hs, hb, na, t⟩ := h
    obtain ⟨o, ho, k⟩ := t.obj
    obtain ⟨g', x⟩ := g.give (o := o) hs hb na ho
    refine ⟨_, g', x, k _ x upd_same, fun b e => ?_⟩
    by_cases hb : b = a
    · exact .inr ⟨rfl, by rw [hb]⟩
    · rw [upd_ne hb] at e; exact .inl e
  | bo d' => cases e
  | pen => cases e
theorem WRs.upB {B' : Hp} (x : Ex B B') (hx : ∀ a, B' a ≠ none → B a ≠ none ∨ p ≠ some a) : ∀ {ws : List W} {vs : List V}, WRs G p B Hs H ws vs → (∀ (j : Nat) (u : W) (a : Addr), ws[j]? = some u → u.isFr = true → vs[j]? = some (.ref a) → B' a = none) → WRs G p B' Hs H ws vs
  | [], vs, h, _ => h
  | w :: ws, vs, h, n => by
    obtain ⟨v, r, rfl, h1, h2, h3⟩ := h
    refine ⟨v, r, rfl, ?_, h2, h3.upB x hx fun j u a hj hu hv => n (j + 1) u a (by simpa using hj) hu (by simpa using hv)⟩
    have top : ∀ d a, Top G B H d a → Top G B' H d a := fun d a t => by
      cases d with
      | lst ds => obtain ⟨vs, e, k⟩ := t; exact ⟨vs, e, k.mono x⟩
      | dct ds => obtain ⟨vs, e, k⟩ := t; exact ⟨vs, e, k.mono x⟩
      | _ => exact t.elim
    cases w with
    | sh d => exact Has.mono x d v h1
    | fr d =>
      obtain ⟨a, rfl, hs, hb, na, t⟩ := h1
      exact ⟨a, rfl, hs, n 0 _ a rfl rfl rfl, na, top d a t⟩
    | bo d =>
      obtain ⟨a, rfl, na, t⟩ := h1
      exact ⟨a, rfl, na, top d a t⟩
    | pen => exact h1
theorem WRs.share : ∀ {ws : List W} {vs : List V} {es : List D} {B : Hp}, Grow G p Bs Hs B H → WRs G p B Hs H ws vs → cls? ws = some es → ∃ B', Grow G p Bs Hs B' H ∧ Ex B B' ∧ HasL G B' es vs
  | [], vs, es, B, g, h, e => by
    cases e
    exact ⟨B, g, Evl.Ex.refl _, by unfold HasL; exact h⟩
  | w :: ws, vs, es, B, g, h, e => by
    obtain ⟨v, r, rfl, h1, h2, h3⟩ := h
    unfold cls? at e
    split at e
    · rename_i d ds e1 e2
      cases e
      obtain ⟨B1, g1, x1, k1, n1⟩ := h1.share g e1
      have h3' : WRs G p B1 Hs H ws r := h3.upB x1 (fun a q => by
        rcases n1 a q with z | z
        · exact .inl z
        · refine .inr fun hp => ?_
          have := (g1.pen a hp).1
          exact q this) fun j u a hj hu hv => by
        cases q : B1 a with
        | none => rfl
        | some o =>
          rcases n1 a (by rw [q]; simp) with z | z
          · obtain ⟨v', e3, h4⟩ := h3.at hj
            rw [hv] at e3; cases e3
            cases u with
            | fr d' => obtain ⟨a', e4, _, hb, _⟩ := h4; cases e4; exact absurd hb z
            | _ => cases hu
          · exact absurd (by rw [hv, z.2]) (h2 z.1 j u hj hu)
      obtain ⟨B2, g2, x2, k2⟩ := WRs.share g1 h3' e2
      exact ⟨B2, g2, x1.trans x2, .cons (Has.mono x2 _ _ k1) k2⟩
    · cases e
end

/-! ### displays -/
def dTup (ds : DA) : DE := fun σ Q => ds σ fun ws => ws.length ≤ sizeLine ∧ match cls? ws with
  | some es => Q (.sh (.tup es))
  | none => False
def dLst (ds : DA) : DE := fun σ Q => ds σ fun ws => ws.length ≤ sizeLine ∧ match cls? ws with
  | some es => Q (.fr (.lst es))
  | none => False
theorem WRs.len {B H Hs : Hp} : ∀ {ws : List W} {vs : List V}, WRs G p B Hs H ws vs → vs.length = ws.length
  | [], _, h => by cases h; rfl
  | w :: ws, _, h => by
    obtain ⟨v, r, rfl, h1, h2, h3⟩ := h
    simp [WRs.len h3]
theorem de_tup {x1} (h : DAj G p B0 H0 X es ds) : DEj G p B0 H0 X (.Tuple es x1 pos) (dTup ds) := by
  refine pe_wk (pe_tup h) fun σ H Q q => ?_
  obtain ⟨B, σd, Qd, rl, hq, k⟩ := q
  refine ⟨B, σd, _, rl, hq, fun ws vs B1 H1 g1 hws hq1 => ⟨by rw [hws.len]; exact hq1.1, fun a ha => ?_⟩⟩
  obtain ⟨_, hq1⟩ := hq1
  split at hq1
  · rename_i ds e
    obtain ⟨B2, g2, x2, k2⟩ := hws.share g1 e
    obtain ⟨g3, x3⟩ := g2.newS (o := .tup vs) ha
    exact k _ _ _ _ g3 (by show Has _ _ (.tup ds) _; unfold Has; exact ⟨a, vs, rfl, SqT.of upd_same, k2.mono x3⟩) hq1
  · exact hq1.elim
theorem de_lst (h : DAj G p B0 H0 X es ds) : DEj G p B0 H0 X (.List es pos) (dLst ds) := by
  refine pe_wk (pe_lst h) fun σ H Q q => ?_
  obtain ⟨B, σd, Qd, rl, hq, k⟩ := q
  refine ⟨B, σd, _, rl, hq, fun ws vs B1 H1 g1 hws hq1 => ⟨by rw [hws.len]; exact hq1.1, fun a ha => ?_⟩⟩
  obtain ⟨_, hq1⟩ := hq1
  split at hq1
  · rename_i ds e
    obtain ⟨B2, g2, x2, k2⟩ := hws.share g1 e
    refine k (.fr (.lst ds)) _ _ _ (g2.newF (o := .lst vs) ha) ⟨a, rfl, g1.there a ha, ?_, g2.pen.off ha, vs, upd_same, k2⟩ hq1
    cases q : B2 a with
    | none => rfl
    | some o => rw [g2.sub _ _ q] at ha; cases ha
  · exact hq1.elim
end
end Dl
namespace Dl
open PySem L2

/-! ### statements -/
structure DEnds where
  nx : DSt → Prop
  rt : W → Prop
  bk : DSt → Prop := fun _ => False
  ct : DSt → Prop := fun _ => False
abbrev DS := DEnds → DSt → Prop
section
variable (G : Gx) (p : Option Addr) (B0 H0 : Hp)
def Okn (B : Hp) (q : DSt → Prop) (r : St → Hp → Prop) : Prop := ∀ B' H' σd' σ', Ex B B' → Rl G p B0 H0 B' H' σd' σ' → q σd' → r σ' H'
structure OkE (B : Hp) (Dd : DEnds) (De : Ends) : Prop where
  nx : Okn G p B0 H0 B Dd.nx De.nx
  bk : Okn G p B0 H0 B Dd.bk De.bk
  ct : Okn G p B0 H0 B Dd.ct De.ct
  rt : ∀ w v B' H', Grow G p B0 H0 B' H' → WR G p B' H0 H' w v → (∀ d, w ≠ .bo d) → Dd.rt w → De.rt v H'
def tS (d : DS) : TS := fun De σ H => ∃ B σd Dd, Rl G p B0 H0 B H σd σ ∧ d Dd σd ∧ OkE G p B0 H0 B Dd De
abbrev DSj (X : Cx) (st : Stmt) (d : DS) : Prop := PS X st (tS G p B0 H0 d)
abbrev DSsj (X : Cx) (sts : List Stmt) (d : DS) : Prop := PSs X sts (tS G p B0 H0 d)
end
theorem ps_wk {X : Cx} {e : Stmt} {t t' : TS} (h : PS X e t) (w : ∀ D σ H, t' D σ H → t D σ H) : PS X e t' := ⟨fun pins s σ H D I q => h.run pins s σ H D I (w _ _ _ q)⟩
theorem pss_wk {X : Cx} {e : List Stmt} {t t' : TS} (h : PSs X e t) (w : ∀ D σ H, t' D σ H → t D σ H) : PSs X e t' := ⟨fun pins s σ H D I q => h.run pins s σ H D I (w _ _ _ q)⟩

theorem set_id {α : Type} : ∀ {l : List α} {i : Nat} {a : α}, l[i]? = some a → l.set i a = l
  | [], _, _, h => by simp at h
  | x :: r, 0, a, h => by simp at h; simp [h]
  | x :: r, i + 1, a, h => by simp at h; simp [set_id (l := r) (i := i) h]
section
variable {G : Gx} {p : Option Addr} {B0 H0 : Hp}
theorem Okn.up {B B' : Hp} {q : DSt → Prop} {r : St → Hp → Prop} (h : Okn G p B0 H0 B q r) (x : Ex B B') : Okn G p B0 H0 B' q r := fun _ _ _ _ y => h _ _ _ _ (x.trans y)
theorem OkE.up {B B' : Hp} {Dd : DEnds} {De : Ends} (h : OkE G p B0 H0 B Dd De) (x : Ex B B') : OkE G p B0 H0 B' Dd De := ⟨h.nx.up x, h.bk.up x, h.ct.up x, h.rt⟩
variable {X : Cx} {a b c e : Expr} {st : Stmt} {rest sts sts' : List Stmt} {da db d : DE} {ds : DA} {t : DT} {u v w : DS} {pos pos' : Pos}
def dNx : DS := fun D σ => D.nx σ
def dSeq (u v : DS) : DS := fun D σ => u { D with nx := v D } σ
theorem dss_nil : DSsj G p B0 H0 X [] dNx := pss_wk pss_nil fun D σ H ⟨B, σd, Dd, rl, h, k⟩ => k.nx B H σd σ (Evl.Ex.refl _) rl h
theorem dss_one (h : DSj G p B0 H0 X st u) : DSsj G p B0 H0 X [st] u := pss_one h
theorem dss_cons (h : DSj G p B0 H0 X st u) (h' : DSsj G p B0 H0 X rest v) : DSsj G p B0 H0 X (st :: rest) (dSeq u v) := by
  refine pss_wk (pss_cons h h') fun D σ H ⟨B, σd, Dd, rl, q, k⟩ => ?_
  exact ⟨B, σd, _, rl, q, fun B' H' σd' σ' x rl' q' => ⟨B', σd', Dd, rl', q', k.up x⟩, k.bk, k.ct, k.rt⟩
def dNever : DS := fun _ _ => False
theorem ds_never : DSj G p B0 H0 X st dNever := ps_wk ps_never fun D σ H ⟨B, σd, Dd, rl, h, k⟩ => h
theorem dss_never : DSsj G p B0 H0 X sts dNever := pss_wk pss_never fun D σ H ⟨B, σd, Dd, rl, h, k⟩ => h
theorem ds_pass : DSj G p B0 H0 X (.Pass pos) dNx := ps_wk ps_pass fun D σ H ⟨B, σd, Dd, rl, h, k⟩ => k.nx B H σd σ (Evl.Ex.refl _) rl h
def dBrk : DS := fun D σ => D.bk σ
theorem ds_break : DSj G p B0 H0 X (.Break pos) dBrk := ps_wk ps_break fun D σ H ⟨B, σd, Dd, rl, h, k⟩ => k.bk B H σd σ (Evl.Ex.refl _) rl h
def dCnt : DS := fun D σ => D.ct σ
theorem ds_continue : DSj G p B0 H0 X (.Continue pos) dCnt := ps_wk ps_continue fun D σ H ⟨B, σd, Dd, rl, h, k⟩ => k.ct B H σd σ (Evl.Ex.refl _) rl h
/-- an owned list or dict becomes shared: a word of the proof's, no statement -/
def W.fz : W → W
  | .fr d => .sh d
  | w => w
def fzAt (i : Nat) (σ : DSt) : DSt := match σ[i]? with
  | some (some w) => σ.set i (some w.fz)
  | _ => σ
theorem Rl.fz {B H : Hp} {σd : DSt} {σ : St} (r : Rl G p B0 H0 B H σd σ) (i : Nat) : ∃ B', Ex B B' ∧ Rl G p B0 H0 B' H (fzAt i σd) σ := by
  unfold fzAt
  split
  · rename_i w e
    cases w with
    | fr d =>
      obtain ⟨v, e1, a, e2, h0, hb, n, t⟩ := r.slot i _ e
      obtain ⟨o, ho, k⟩ := t.obj
      obtain ⟨g, x⟩ := r.gr.give (o := o) h0 hb n ho
      have hil : i < σd.length := (List.getElem?_eq_some_iff.mp e).1
      refine ⟨_, x, r.ok0, g, by simp [r.len], fun j u ej => ?_, fun j d' ej => ?_, fun j l d' e' v' njl ej el hv hl => ?_⟩
      · by_cases hj : i = j
        · subst hj
          rw [List.getElem?_set_self hil] at ej
          cases ej
          exact ⟨v, e1, by subst e2; exact k _ x upd_same⟩
        · rw [List.getElem?_set_ne hj] at ej
          obtain ⟨v2, q1, q2⟩ := r.slot j u ej
          refine ⟨v2, q1, ?_⟩
          have top : ∀ d a', Top G B H d a' → Top G (upd B a o) H d a' := fun d a' t => by
            cases d with
            | lst ds => obtain ⟨vs, e, k⟩ := t; exact ⟨vs, e, k.mono x⟩
            | dct ds => obtain ⟨vs, e, k⟩ := t; exact ⟨vs, e, k.mono x⟩
            | _ => exact t.elim
          cases u with
          | sh d' => exact Has.mono x _ _ q2
          | fr d' =>
            obtain ⟨a', e3, h0', hb', n', t'⟩ := q2
            refine ⟨a', e3, h0', ?_, n', top _ _ t'⟩
            rw [upd_ne]
            · exact hb'
            · intro q
              exact r.dist i j d d' v hj e ej e1 (by rw [q1, e3, e2, q])
          | bo d' => exact absurd ej (r.nob j d')
          | pen => exact q2
      · by_cases hj : i = j
        · subst hj
          rw [List.getElem?_set_self hil] at ej
          cases ej
        · rw [List.getElem?_set_ne hj] at ej
          exact r.nob j d' ej
      · have nj : i ≠ j := fun z => by
          subst z
          rw [List.getElem?_set_self hil] at ej
          cases ej
        have nl : i ≠ l := fun z => by
          subst z
          rw [List.getElem?_set_self hil] at el
          cases el
        rw [List.getElem?_set_ne nj] at ej
        rw [List.getElem?_set_ne nl] at el
        exact r.dist j l d' e' v' njl ej el hv hl
    | sh d => exact ⟨B, Evl.Ex.refl _, by rw [show σd.set i (some (W.sh d).fz) = σd from set_id e]; exact r⟩
    | bo d => exact absurd e (r.nob i d)
    | pen => exact ⟨B, Evl.Ex.refl _, by rw [show σd.set i (some (W.pen).fz) = σd from set_id e]; exact r⟩
  · exact ⟨B, Evl.Ex.refl _, r⟩
def dFz (i : Nat) (u : DS) : DS := fun D σ => u D (fzAt i σ)
theorem dss_fz (i : Nat) (h : DSsj G p B0 H0 X sts u) : DSsj G p B0 H0 X sts (dFz i u) := by
  refine pss_wk h fun D σ H ⟨B, σd, Dd, rl, q, k⟩ => ?_
  obtain ⟨B', x, rl'⟩ := rl.fz i
  exact ⟨B', _, Dd, rl', q, k.up x⟩

/-! ### small statements -/
def dDrop (d : DE) : DS := fun D σ => d σ fun _ => D.nx σ
theorem ds_expr (h : DEj G p B0 H0 X e d) (hs : swapsWith e none pos.line X.env = pure false := by rfl) : DSj G p B0 H0 X (.Expr e pos) (dDrop d) := by
  refine ps_wk (ps_expr h hs) fun D σ H ⟨B, σd, Dd, rl, q, k⟩ => ?_
  exact ⟨B, σd, _, rl, q, fun w v B' H' g hw q' => k.nx B' H' σd σ g.base (rl.grow g) q'⟩
def dRet (d : DE) : DS := fun D σ => d σ fun w => match w with
  | .bo _ => False
  | w => D.rt w
theorem ds_ret (h : DEj G p B0 H0 X e d) : DSj G p B0 H0 X (.Return (some e) pos) (dRet d) := by
  refine ps_wk (ps_ret h) fun D σ H ⟨B, σd, Dd, rl, q, k⟩ => ?_
  refine ⟨B, σd, _, rl, q, fun w v B' H' g hw q' => ?_⟩
  split at q'
  · exact q'.elim
  · rename_i nb
    exact k.rt w v B' H' (rl.gr.trans g) (hw.back rl.gr.there) (fun d e => nb d e) q'
def dRetV (i : Nat) : DS := fun D σ => match σ[i]? with
  | some (some w) => D.rt w
  | _ => False
theorem ds_retv {i : Nat} {x : Str} {py : Pos} (hN : X.N[i]? = some x) (hv : Vis X.env.scope x) (hd : (x == ("__debug__" : Str)) = false := by decide) (hcd : (x == ("__classdict__" : Str)) = false := by decide) : DSj G p B0 H0 X (.Return (some (.Name x py)) pos) (dRetV i) := by
  refine ps_wk (ps_ret (pe_var hN hv hd hcd)) fun D σ H ⟨B, σd, Dd, rl, q, k⟩ => ?_
  unfold dRetV at q
  split at q
  · rename_i w e
    obtain ⟨v, e1, hw⟩ := rl.slot _ _ e
    exact ⟨v, e1, k.rt w v B H rl.gr hw (fun d z => rl.nob i d (by rw [← z]; exact e)) q⟩
  · exact q.elim
def dRetN : DS := fun D _ => D.rt (.sh .non)
theorem ds_retn : DSj G p B0 H0 X (.Return none pos) dRetN := by
  refine ps_wk ps_retN fun D σ H ⟨B, σd, Dd, rl, q, k⟩ => ?_
  exact k.rt _ _ B H rl.gr (has_non B H) (fun d z => by cases z) q
def dIf (t : DT) (u v : DS) : DS := fun D σ => t σ fun b => if b = true then u D σ else v D σ
theorem ds_if (h : DTj G p B0 H0 X c t) (h1 : DSsj G p B0 H0 X sts u) (h2 : DSsj G p B0 H0 X sts' v) : DSj G p B0 H0 X (.If c sts sts' pos) (dIf t u v) := by
  refine ps_wk (ps_if h h1 h2) fun D σ H ⟨B, σd, Dd, rl, q, k⟩ => ?_
  refine ⟨B, σd, _, rl, q, fun b B' H' g q' => ?_⟩
  cases b with
  | true => exact ⟨B', σd, Dd, rl.grow g, q', k.up g.base⟩
  | false => exact ⟨B', σd, Dd, rl.grow g, q', k.up g.base⟩
def dAsg (d : DE) (i : Nat) : DS := fun D σ => d σ fun w => match w with
  | .bo _ => False
  | w => D.nx (σ.set i (some w))
theorem ds_set {i : Nat} {x : Str} {py : Pos} (hN : X.N.Nodup) (hi : X.N[i]? = some x) (hx : Loc X.env.scope x) (he : DEj G p B0 H0 X e d) (hs : swapsWith e (some (.Name x py)) pos.line X.env = pure false := by rfl)
    (hf : X.fn x = true ∨ X.env.scope.names.lookup x = some .local := by first | exact .inl rfl | exact .inr rfl | assumption) : DSj G p B0 H0 X (.Assign [.Name x py] e pos) (dAsg d i) := by
  refine ps_wk (ps_set hN hi hx he hs hf) fun D σ H ⟨B, σd, Dd, rl, q, k⟩ => ?_
  refine ⟨B, σd, _, rl, q, fun w v B' H' g hw q' => ?_⟩
  split at q'
  · exact q'.elim
  · rename_i nb
    exact k.nx B' H' _ _ g.base (rl.set i g hw fun d e => nb d e) q'
/-- a, b = x, y -/
def dPar (i j : Nat) (ds : DA) : DS := fun D σ => ds σ fun ws => match ws with
  | [w, u] => (∀ d, w ≠ .bo d) ∧ (∀ d, u ≠ .bo d) ∧ D.nx ((σ.set i (some w)).set j (some u))
  | _ => False
/-- a second result, new beside the first -/
theorem Rl.set2 {B H B1 H1 : Hp} {σd : DSt} {σ : St} {w u : W} {v v' : V} {i j : Nat} (rl : Rl G p B0 H0 B H σd σ) (g : Grow G p B H B1 H1) (hw : WR G p B1 H H1 w v) (hu : WR G p B1 H H1 u v') (nw : ∀ d, w ≠ .bo d) (nu : ∀ d, u ≠ .bo d)
    (n : w.isFr = true → u.isFr = true → v' ≠ v) : Rl G p B0 H0 B1 H1 ((σd.set i (some w)).set j (some u)) ((σ.set i (some v)).set j (some v')) := by
  have r1 := rl.set i g hw nw
  have hu0 : WR G p B1 H0 H1 u v' := hu.back rl.gr.there
  have fresh : ∀ d, u = .fr d → ∀ (k : Nat) (e : D), (σd.set i (some w))[k]? = some (some (.fr e)) → (σ.set i (some v))[k]? ≠ some (some v') := fun d hd k e hk hv => by
    subst hd
    by_cases hik : i = k
    · subst hik
      rw [List.getElem?_set] at hk hv
      simp only [if_true] at hk hv
      split at hk
      · rename_i hl
        cases hk
        rw [if_pos (by rw [← rl.len]; exact hl)] at hv
        cases hv
        exact n rfl rfl rfl
      · cases hk
    · rw [List.getElem?_set_ne hik] at hk hv
      obtain ⟨a, e1, h0, _⟩ := hu
      obtain ⟨v2, e2, b, e3, _, _, _, t⟩ := rl.slot k _ hk
      rw [hv] at e2; cases e2
      rw [e1] at e3; cases e3
      exact t.there h0
  refine ⟨r1.ok0, r1.gr, by simp [rl.len], fun k z e => ?_, fun k d e => ?_, fun k l d e z nkl ek el hk hl => ?_⟩
  · by_cases hj : j = k
    · subst hj
      rw [List.getElem?_set] at e
      simp only [if_true] at e
      split at e
      · rename_i hl
        cases e
        exact ⟨v', by rw [List.getElem?_set]; simp [← rl.len] at hl ⊢; exact hl, hu0⟩
      · cases e
    · rw [List.getElem?_set_ne hj] at e ⊢
      exact r1.slot k z e
  · by_cases hj : j = k
    · subst hj
      rw [List.getElem?_set] at e
      simp only [if_true] at e
      split at e
      · cases e; exact nu d rfl
      · cases e
    · rw [List.getElem?_set_ne hj] at e
      exact r1.nob k d e
  · by_cases hj : j = k
    · subst hj
      rw [List.getElem?_set_ne nkl] at el hl
      rw [List.getElem?_set] at ek hk
      simp only [if_true] at ek hk
      split at ek
      · rename_i hh
        cases ek
        rw [if_pos (by simpa [← rl.len] using hh)] at hk
        cases hk
        exact fresh d rfl l e el hl
      · cases ek
    · by_cases hj' : j = l
      · subst hj'
        rw [List.getElem?_set_ne hj] at ek hk
        rw [List.getElem?_set] at el hl
        simp only [if_true] at el hl
        split at el
        · rename_i hh
          cases el
          rw [if_pos (by simpa [← rl.len] using hh)] at hl
          cases hl
          exact fresh e rfl k d ek hk
        · cases el
      · rw [List.getElem?_set_ne hj] at ek hk
        rw [List.getElem?_set_ne hj'] at el hl
        exact r1.dist k l d e z nkl ek el hk hl
theorem ds_par {i j : Nat} {x y : Str} {px py pt : Pos} {kt k2 pt2} (hc : X.calm = true) (hN : X.N.Nodup) (hi : X.N[i]? = some x) (hj : X.N[j]? = some y) (hij : i ≠ j)
    (hx : X.env.scope.names.lookup x = some .local) (hy : X.env.scope.names.lookup y = some .local) (ha : DAj G p B0 H0 X [a, b] ds)
    (hw : swappedStores [.Tuple [.Name x px, .Name y py] kt pt] (.Tuple [a, b] k2 pt2) X.env = pure (some [x, y]))
    (hs : swapsWithSole [.Tuple [.Name x px, .Name y py] kt pt] (.Tuple [a, b] k2 pt2) pos.line X.env = pure false := by rfl) :
    DSj G p B0 H0 X (.Assign [.Tuple [.Name x px, .Name y py] kt pt] (.Tuple [a, b] k2 pt2) pos) (dPar i j ds) := by
  refine ps_wk (ps_par hc hN hi hj hij hx hy ha hw hs) fun D σ H ⟨B, σd, Dd, rl, q, k⟩ => ?_
  refine ⟨B, σd, _, rl, q, fun ws vs B' H' g hws q' => ?_⟩
  split at q'
  · rename_i w u
    obtain ⟨v, r, rfl, h1, h2, v', r', rfl, h3, _, h4⟩ := hws
    cases h4
    obtain ⟨q1, q2, q3⟩ := q'
    refine ⟨v, v', rfl, k.nx B' H' _ _ g.base (rl.set2 g h1 h3 q1 q2 fun e1 e2 e3 => h2 e1 0 u rfl e2 (by rw [e3]; rfl)) q3⟩
  · exact q'.elim
end
end Dl
namespace Dl
open PySem PySem.Spec PyProof.Rows L2

section
variable {G : Gx} {p : Option Addr} {B0 H0 Bs Hs B H : Hp}
/-- an object of one's own is changed -/
theorem Grow.mut {a : Addr} {o : HO} (g : Grow G p Bs Hs B H) (hs : Hs a = none) (hb : B a = none) (na : p ≠ some a) : Grow G p Bs Hs B (upd H a o) := by
  refine ⟨fun b u n e => ?_, fun b e => ?_, g.base, fun b u e => ?_, g.new, fun b e => ?_⟩
  · rw [upd_ne (ne_of_none e hs)]; exact g.keep b u n e
  · by_cases hb : b = a
    · subst hb; exact hs
    · rw [upd_ne hb] at e; exact g.there b e
  · rw [upd_ne (ne_of_none e hb)]; exact g.sub b u e
  · have nb : b ≠ a := fun q => na (by rw [← q]; exact e)
    obtain ⟨h1, c, ns, x1, x2, x3, x4, h2, h3, h4⟩ := g.pen b e
    exact ⟨h1, c, ns, x1, x2, x3, x4, by rw [upd_ne nb]; exact h2, h3, h4⟩

/-! ### calls of defs -/
def W.arg? : W → Option W
  | .sh d => some (.sh d)
  | .fr d => some (.sh d)
  | .pen => some .pen
  | .bo _ => none
def args? : List W → Option (List W)
  | [] => some []
  | w :: ws => match w.arg?, args? ws with
    | some d, some ds => some (d :: ds)
    | _, _ => none
def AR1 (G : Gx) (p : Option Addr) (B : Hp) : W → V → Prop
  | .sh d, v => Has G B d v
  | .pen, v => ∃ a, v = .ref a ∧ p = some a
  | _, _ => False
def AR (G : Gx) (p : Option Addr) (B : Hp) : List W → List V → Prop
  | [], vs => vs = []
  | w :: ws, vs => ∃ v r, vs = v :: r ∧ AR1 G p B w v ∧ AR G p B ws r
theorem AR1.mono {B' : Hp} (x : Ex B B') {w : W} {v : V} (h : AR1 G p B w v) : AR1 G p B' w v := by
  cases w with
  | sh d => exact Has.mono x d v h
  | pen => exact h
  | _ => exact h.elim
theorem AR.mono {B' : Hp} (x : Ex B B') : ∀ {ws : List W} {vs : List V}, AR G p B ws vs → AR G p B' ws vs
  | [], _, h => h
  | w :: ws, _, h => by
    obtain ⟨v, r, e, h1, h2⟩ := h
    exact ⟨v, r, e, h1.mono x, h2.mono x⟩
theorem AR.len : ∀ {ws : List W} {vs : List V}, AR G p B ws vs → vs.length = ws.length
  | [], _, h => by cases h; rfl
  | w :: ws, _, h => by
    obtain ⟨v, r, rfl, h1, h2⟩ := h
    simp [AR.len h2]
theorem AR.at : ∀ {ws : List W} {vs : List V} {i : Nat} {w : W}, AR G p B ws vs → ws[i]? = some w → ∃ v, vs[i]? = some v ∧ AR1 G p B w v
  | [], _, i, _, h, e => by simp at e
  | w :: ws, _, 0, _, h, e => by
    obtain ⟨v, r, rfl, h1, h2⟩ := h
    simp at e; subst e
    exact ⟨v, rfl, h1⟩
  | w :: ws, _, i + 1, _, h, e => by
    obtain ⟨v, r, rfl, h1, h2⟩ := h
    obtain ⟨v', a, b⟩ := AR.at h2 (i := i) (by simpa using e)
    exact ⟨v', by simpa using a, b⟩
theorem WRs.args : ∀ {ws us : List W} {vs : List V} {B : Hp}, Grow G p Bs Hs B H → WRs G p B Hs H ws vs → args? ws = some us → ∃ B', Grow G p Bs Hs B' H ∧ Ex B B' ∧ AR G p B' us vs
  | [], us, vs, B, g, h, e => by
    cases e
    exact ⟨B, g, Evl.Ex.refl _, h⟩
  | w :: ws, us, vs, B, g, h, e => by
    obtain ⟨v, r, rfl, h1, h2, h3⟩ := h
    unfold args? at e
    split at e
    · rename_i d ds e1 e2
      cases e
      have one : ∃ B1, Grow G p Bs Hs B1 H ∧ Ex B B1 ∧ AR1 G p B1 d v ∧ ∀ a, B1 a ≠ none → B a ≠ none ∨ (w.isFr = true ∧ v = .ref a) := by
        cases w with
        | pen => cases e1; exact ⟨B, g, Evl.Ex.refl _, h1, fun _ e => .inl e⟩
        | sh d' => cases e1; exact ⟨B, g, Evl.Ex.refl _, h1, fun _ e => .inl e⟩
        | bo d' => cases e1
        | fr d' => cases e1; exact WR.share g h1 rfl
      obtain ⟨B1, g1, x1, k1, n1⟩ := one
      have h3' : WRs G p B1 Hs H ws r := h3.upB x1 (fun a q => by
        rcases n1 a q with z | z
        · exact .inl z
        · refine .inr fun hp => ?_
          have := (g1.pen a hp).1
          exact q this) fun j u a hj hu hv => by
        cases q : B1 a with
        | none => rfl
        | some o =>
          rcases n1 a (by rw [q]; simp) with z | z
          · obtain ⟨v', e3, h4⟩ := h3.at hj
            rw [hv] at e3; cases e3
            cases u with
            | fr d' => obtain ⟨a', e4, _, hb, _⟩ := h4; cases e4; exact absurd hb z
            | _ => cases hu
          · exact absurd (by rw [hv, z.2]) (h2 z.1 j u hj hu)
      obtain ⟨B2, g2, x2, k2⟩ := WRs.args g1 h3' e2
      exact ⟨B2, g2, x1.trans x2, v, r, rfl, k1.mono x2, k2⟩
    · cases e

/-- a promise over data -/
abbrev Fd := List W → (W → Prop) → Prop
def spD (G : Gx) (F : Fd) : Sp := fun vs H Q _ => ∃ p B ws Qd, Ex B H ∧ PenOk G p B H ∧ AR G p B ws vs ∧ F ws Qd ∧ ∀ w v B' H', Grow G p B H B' H' → WR G p B' H H' w v → (∀ d, w ≠ .bo d) → Qd w → Q v H'
def startD (N : List Str) (ws : List W) : DSt := ws.map some ++ List.replicate (N.length - ws.length) none
theorem start_rl {N : List Str} {ws : List W} {vs : List V} (s : Ex B H) (k : PenOk G p B H) (h : AR G p B ws vs) : Rl G p B H B H (startD N ws) (L2.start N vs) := by
  have hl := h.len
  refine ⟨⟨s, k⟩, Grow.refl s k, by simp [startD, L2.start, hl], fun i w e => ?_, fun i d e => ?_, fun i j d e v n ei ej hv hj => ?_⟩
  · unfold startD at e
    by_cases hi : i < ws.length
    · rw [List.getElem?_append_left (by simpa using hi)] at e
      simp only [List.getElem?_map, Option.map_eq_some_iff] at e
      obtain ⟨w', e1, e2⟩ := e
      cases e2
      obtain ⟨v, e3, a⟩ := h.at e1
      refine ⟨v, ?_, ?_⟩
      · unfold L2.start
        rw [List.getElem?_append_left (by simp; omega)]
        simp [e3]
      · cases w with
        | sh d => exact a
        | pen => exact a
        | _ => exact a.elim
    · rw [List.getElem?_append_right (by simpa using hi)] at e
      simp [List.getElem?_replicate] at e
  · unfold startD at e
    by_cases hi : i < ws.length
    · rw [List.getElem?_append_left (by simpa using hi)] at e
      simp only [List.getElem?_map, Option.map_eq_some_iff] at e
      obtain ⟨w', e1, e2⟩ := e
      cases e2
      obtain ⟨v, e3, a⟩ := h.at e1
      exact a.elim
    · rw [List.getElem?_append_right (by simpa using hi)] at e
      simp [List.getElem?_replicate] at e
  · unfold startD at ei
    by_cases hi : i < ws.length
    · rw [List.getElem?_append_left (by simpa using hi)] at ei
      simp only [List.getElem?_map, Option.map_eq_some_iff] at ei
      obtain ⟨w', e1, e2⟩ := ei
      cases e2
      obtain ⟨v, e3, a⟩ := h.at e1
      exact a.elim
    · rw [List.getElem?_append_right (by simpa using hi)] at ei
      simp [List.getElem?_replicate] at ei
end

section
variable {P : Program} {w : World} {K : PySem.W.Frag} {mg : Str → Option Value} {base : Heap} {G : Gx}
/-- a def by its body, over data -/
theorem okD {x qual : Str} {st : Stmt} {f : Addr} {fd : FuncData} {N ps : List Str} {k : Nat} {F : Fd} (Fu : Fun K x qual st f fd) (S : FnScope N ps (defScope st)) (len : ∀ ws Q, F ws Q → ws.length = ps.length)
    (hbody : ∀ (p : Option Addr) (B0 : Hp) (cdv : Value) (A : Around) (outer : List Env) (s : Shared) (H : Hp) (E : XK), Room k (A.deeper (envOfC qual (defScope st) s.heap.objs.size f cdv)) →
      ∃ d, DSsj G p B0 H (cxOf CX0 P w K mg base N qual (defScope st) f cdv A outer s H E).nox (defBody st) d ∧ ∀ ws Q, F ws Q → d { nx := fun _ => Q (.sh .non), rt := Q } (startD N ws)) :
    FnOk P w K mg base CX0 (k + 1) f fd ps (spD G F) := by
  refine Fu.ok S (fun vs H Q E h => ?_) fun cdv A outer s H vs Q E hr h => ?_
  · obtain ⟨p, B, ws, Qd, _, _, ha, hf, _⟩ := h
    rw [ha.len, len ws Qd hf]
  · obtain ⟨p, B, ws, Qd, hs, hk, ha, hf, k⟩ := h
    obtain ⟨d, h1, h2⟩ := hbody p B cdv A outer s H E hr
    refine ⟨_, h1, B, startD N ws, _, start_rl hs hk ha, h2 ws Qd hf, ?_⟩
    exact ⟨fun B' H' σd' σ' x rl q => k _ _ B' H' rl.gr (has_non B' H') (fun d e => by cases e) q, fun _ _ _ _ _ _ q => q.elim, fun _ _ _ _ _ _ q => q.elim, fun w v B' H' g hw nb q => k w v B' H' g hw nb q⟩
end

section
variable {G : Gx} {p : Option Addr} {B0 H0 : Hp} {X : Cx} {a b c e : Expr} {es : List Expr} {da db d : DE} {ds : DA} {pos : Pos}
def dCall (F : Fd) (ds : DA) : DE := fun σ Q => ds σ fun ws => match args? ws with
  | some us => F us fun w => match w with
    | .bo _ => True
    | w => Q w
  | none => False
theorem de_call {CX : CXT} {k : Nat} {f : Addr} {fd : FuncData} {ps : List Str} {F : Fd} {E : XK} {x : Str} {pp : Pos} (Fo : FnOk X.prog X.w X.K X.mg X.base CX k f fd ps (spD G F)) (hr : Room k X.A) (hg : Gl X x) (hm : X.mg x = some (.ref f)) (hk : PySem.W.keepIn X.K (.ref f) = true)
    (hb : Binds X.K fd ps []) (hx : Passes CX X E) (ha : DAj G p B0 H0 X (e :: es) ds) (hdb : (x == ("__debug__" : Str)) = false := by decide) (he : starEach (e :: es) X.env = (false, eval e X.env) :: starEach es X.env := by rfl) (hpl : (backTo pos (starEach es X.env)).any (·.1) = false := by rfl) :
    DEj G p B0 H0 X (.Call (.Name x pp) (e :: es) [] pos) (dCall F ds) := by
  refine pe_wk (pe_call (dvs := []) Fo hr hg hm hk hb .nil hx ha hdb he hpl) fun σ H Q ⟨B, σd, Qd, rl, q, k⟩ => ?_
  refine ⟨B, σd, _, rl, q, fun ws vs B1 H1 g1 hws q1 => ?_⟩
  split at q1
  · rename_i us e1
    obtain ⟨B2, g2, x2, ar⟩ := hws.args g1 e1
    rw [List.append_nil]
    refine ⟨p, B2, us, _, g2.sub, g2.pen, ar, q1, fun w v B' H' g3 hw nb qw => ?_⟩
    split at qw
    · rename_i d'; exact absurd rfl (nb d')
    · exact k w v B' H' (g2.trans g3) (hw.back g2.there) qw
  · exact q1.elim

/-! ### built-ins, methods, items, slices -/
def CallD (G : Gx) (p : Option Addr) (X : Cx) (f : Value) (F : Fd) : Prop := ∃ r, CallR X f r ∧ ∀ (B Hs H : Hp) (ws : List W) (vs : List V) (Qd : W → Prop) (Q : VK), Grow G p B H B H → (∀ a, H a = none → Hs a = none) → WRs G p B Hs H ws vs → F ws Qd →
  (∀ z v B' H', Grow G p B H B' H' → WR G p B' H H' z v → Qd z → Q v H') → r vs H Q
def dBlt (F : Fd) (ds : DA) : DE := fun σ Q => ds σ fun ws => F ws Q
theorem de_blt {F : Fd} {x : Str} {pp : Pos} {id : String} (hc : CallD G p X (.builtin id) F) (hg : Gl X x) (hm : X.mg x = none) (hv : bootBuiltins x = some (.builtin id)) (ha : DAj G p B0 H0 X (e :: es) ds) (hn : x ≠ "__name__" := by decide) (hdb : (x == ("__debug__" : Str)) = false := by decide)
    (he : starEach (e :: es) X.env = (false, eval e X.env) :: starEach es X.env := by rfl) (hpl : (backTo pos (starEach es X.env)).any (·.1) = false := by rfl) : DEj G p B0 H0 X (.Call (.Name x pp) (e :: es) [] pos) (dBlt F ds) := by
  obtain ⟨r, h1, h2⟩ := hc
  refine pe_wk (pe_callB h1 hg hm hv ha hn hdb he hpl) fun σ H Q ⟨B, σd, Qd, rl, q, k⟩ => ?_
  refine ⟨B, σd, _, rl, q, fun ws vs B1 H1 g1 hws q1 => ?_⟩
  exact h2 B1 H H1 ws vs Qd Q (Grow.refl g1.sub g1.pen) g1.there hws q1 fun z v B' H' g hz qz => k z v B' H' (g1.trans g) (hz.back g1.there) qz
theorem de_ty {F : Fd} {x : Str} {pp : Pos} {T : String} (hc : CallD G p X (.type T) F) (hg : Gl X x) (hm : X.mg x = none) (hv : bootBuiltins x = some (.type T)) (ha : DAj G p B0 H0 X (e :: es) ds) (hn : x ≠ "__name__" := by decide) (hdb : (x == ("__debug__" : Str)) = false := by decide)
    (he : starEach (e :: es) X.env = (false, eval e X.env) :: starEach es X.env := by rfl) (hpl : (backTo pos (starEach es X.env)).any (·.1) = false := by rfl) : DEj G p B0 H0 X (.Call (.Name x pp) (e :: es) [] pos) (dBlt F ds) := by
  obtain ⟨r, h1, h2⟩ := hc
  refine pe_wk (pe_callTy h1 hg hm hv ha hn hdb he hpl) fun σ H Q ⟨B, σd, Qd, rl, q, k⟩ => ?_
  refine ⟨B, σd, _, rl, q, fun ws vs B1 H1 g1 hws q1 => ?_⟩
  exact h2 B1 H H1 ws vs Qd Q (Grow.refl g1.sub g1.pen) g1.there hws q1 fun z v B' H' g hz qz => k z v B' H' (g1.trans g) (hz.back g1.there) qz
/-- o.m(e, ..), o of the built-in type T -/
def MtD (G : Gx) (p : Option Addr) (X : Cx) (T id : String) (F : W → Fd) : Prop := ∃ r, MtR X id r ∧ (∀ (B Hs H : Hp) (w : W) (v : V) (ws : List W) (Qd : W → Prop), Ex B H → WR G p B Hs H w v → F w ws Qd → tyV X.K T v H) ∧
  ∀ (B Hs H : Hp) (w : W) (v : V) (ws : List W) (vs : List V) (Qd : W → Prop) (Q : VK), Grow G p B H B H → (∀ a, H a = none → Hs a = none) → WR G p B Hs H w v → WRs G p B Hs H ws vs → F w ws Qd → (∀ z v B' H', Grow G p B H B' H' → WR G p B' H H' z v → Qd z → Q v H') → r v vs H Q
/-- the receiver's type, told before the arguments are asked -/
def W.isT (T : String) (w : W) : Prop := (T = "str" ∧ ∃ z, w.d = .str z) ∨ (T = "list" ∧ ∃ ds, w.d = .lst ds) ∨ (T = "dict" ∧ ∃ ks, w.d = .dct ks)
theorem W.isT.ty (hK : X.K = G.K) {T : String} {w : W} {v : V} {B Hs H : Hp} (t : w.isT T) (s : Ex B H) (h : WR G p B Hs H w v) : tyV X.K T v H := by
  rcases t with ⟨rfl, z, e⟩ | ⟨rfl, z, e⟩ | ⟨rfl, z, e⟩
  · rw [h.str e]; rfl
  · obtain ⟨a, vs, rfl, h1, h2⟩ := h.lst s e
    exact .inl ⟨rfl, vs, SqL.of h1⟩
  · obtain ⟨a, vs, rfl, h1, h2⟩ := h.dct s e
    exact .inr (.inr (.inl ⟨rfl, .inl ⟨vs, h1⟩⟩))
def dMt (T : String) (F : W → Fd) (d : DE) (ds : DA) : DE := fun σ Q => d σ fun w => w.isT T ∧ ds σ fun ws => F w ws Q
def MtSim (G : Gx) (p : Option Addr) (X : Cx) (id : String) (F : W → Fd) : Prop := ∃ r, MtR X id r ∧
  ∀ (B Hs H : Hp) (w : W) (v : V) (ws : List W) (vs : List V) (Qd : W → Prop) (Q : VK), Grow G p B H B H → (∀ a, H a = none → Hs a = none) → WR G p B Hs H w v → WRs G p B Hs H ws vs → F w ws Qd → (∀ z v B' H', Grow G p B H B' H' → WR G p B' H H' z v → Qd z → Q v H') → r v vs H Q
variable {o : Expr} {name : Str} {apos cpos : Pos} {T id : String} {F : W → Fd}
theorem de_mt (hK : X.K = G.K) (pa : PlainAttrs T) (slot : Slot T name id) (hty : typeOf (.builtin id) = pure (.type "method_descriptor")) (hm : MtSim G p X id F) (ho : DEj G p B0 H0 X o d) (ha : DAj G p B0 H0 X (e :: es) ds)
    (hbase : attributeBase o name X.env (eval o X.env) = eval o X.env := by rfl)
    (hfew : ((backTo cpos (starEach (e :: es) X.env)).all (fun x => !x.1) && (backToKw cpos (keywordEach [] X.env)).all (fun x => x.1.isSome)
      && decide ((e :: es).length + ([] : List Keyword).length + (if ([] : List Keyword).isEmpty then 0 else 1) < 30)) = true := by rfl)
    (hline : (apos.endLine == cpos.line) = true := by rfl) (hs : starEach (e :: es) X.env = (false, eval e X.env) :: starEach es X.env := by rfl) (hplain : (backTo cpos (starEach es X.env)).any (·.1) = false := by rfl) :
    DEj G p B0 H0 X (.Call (.Attribute o name apos) (e :: es) [] cpos) (dMt T F d ds) := by
  obtain ⟨r, h1, h2⟩ := hm
  refine pe_wk (pe_bm pa slot hty h1 ho ha hbase hfew hline hs hplain) fun σ H Q ⟨B, σd, Qd, rl, q, k⟩ => ?_
  refine ⟨B, σd, _, rl, q, fun w v B1 H1 g1 hw q1 => ⟨q1.1.ty hK g1.sub hw, ?_⟩⟩
  refine ⟨B1, σd, _, rl.grow g1, q1.2, fun ws vs B2 H2 g2 hws q2 => ?_⟩
  exact h2 B2 H H2 w v ws vs Qd Q (Grow.refl g2.sub g2.pen) (fun a e => g1.there a (g2.there a e)) (hw.mono g2) (hws.back g1.there) q2 fun z v B' H' g hz qz => k z v B' H' ((g1.trans g2).trans g) (hz.back fun a e => g1.there a (g2.there a e)) qz
/-- a[b] -/
theorem de_ix {f : WOp} (h : ∃ r, IxR X r ∧ SimR G p r f) (ha : DEj G p B0 H0 X a da) (hb : DEj G p B0 H0 X b db) (hs : PlainIx b) : DEj G p B0 H0 X (.Subscript a b pos) (dOp f da db) := by
  obtain ⟨r, h1, h2⟩ := h
  exact pe_wk (pe_ix h1 ha hb hs) fun σ H Q q => sim_op h2 q
abbrev DO := DSt → (Option Int → Prop) → Prop
section
variable (G : Gx) (p : Option Addr) (B0 H0 : Hp)
def tDO (d : DO) : TO := fun σ H Q => ∃ B σd Qd, Rl G p B0 H0 B H σd σ ∧ d σd Qd ∧ ∀ o B' H', Grow G p B H B' H' → Qd o → Q o H'
abbrev DOj (X : Cx) (e : Option Expr) (d : DO) : Prop := PO X e (tDO G p B0 H0 d)
end
theorem po_wk {X : Cx} {e : Option Expr} {t t' : TO} (h : PO X e t) (w : ∀ σ H Q, t' σ H Q → t σ H Q) : PO X e t' := ⟨fun pins s σ H Q I q => h.run pins s σ H Q I (w _ _ _ q)⟩
def dNoP : DO := fun _ Q => Q none
def dP (d : DE) : DO := fun σ Q => d σ fun w => match w with
  | .sh (.int i) => Q (some i)
  | _ => False
theorem do_none : DOj G p B0 H0 X none dNoP := po_wk po_none fun σ H Q ⟨B, σd, Qd, rl, q, k⟩ => k none B H rl.same q
theorem do_some (h : DEj G p B0 H0 X e d) : DOj G p B0 H0 X (some e) (dP d) := by
  refine po_wk (po_some h) fun σ H Q ⟨B, σd, Qd, rl, q, k⟩ => ?_
  refine ⟨B, σd, _, rl, q, fun w v B1 H1 g1 hw q1 => ?_⟩
  split at q1
  · exact ⟨_, hw.int rfl, k _ B1 H1 g1 q1⟩
  · exact q1.elim
abbrev WSl := W → Option Int → Option Int → (W → Prop) → Prop
def SimSl (G : Gx) (p : Option Addr) (r : V → Option Int → Option Int → Hp → VK → Prop) (f : WSl) : Prop := ∀ (B Hs H : Hp) (w : W) (x : V) (lo hi : Option Int) (Qd : W → Prop) (Q : VK), Grow G p B H B H → (∀ a, H a = none → Hs a = none) → WR G p B Hs H w x → f w lo hi Qd →
  (∀ z v B' H', Grow G p B H B' H' → WR G p B' H H' z v → Qd z → Q v H') → r x lo hi H Q
def dSl (f : WSl) (d : DE) (dl dh : DO) : DE := fun σ Q => d σ fun w => dl σ fun lo => dh σ fun hi => f w lo hi Q
theorem de_sl {f : WSl} {lo hi : Option Expr} {dl dh : DO} {p2 : Pos} (h : ∃ r, SlR X r ∧ SimSl G p r f) (he : DEj G p B0 H0 X e d) (hl : DOj G p B0 H0 X lo dl) (hh : DOj G p B0 H0 X hi dh) : DEj G p B0 H0 X (.Subscript e (.Slice lo hi none p2) pos) (dSl f d dl dh) := by
  obtain ⟨r, h1, h2⟩ := h
  refine pe_wk (pe_slice h1 he hl hh) fun σ H Q ⟨B, σd, Qd, rl, q, k⟩ => ?_
  refine ⟨B, σd, _, rl, q, fun w v B1 H1 g1 hw q1 => ?_⟩
  refine ⟨B1, σd, _, rl.grow g1, q1, fun lo' B2 H2 g2 q2 => ?_⟩
  refine ⟨B2, σd, _, rl.grow (g1.trans g2), q2, fun hi' B3 H3 g3 q3 => ?_⟩
  have g : Grow G p B H B3 H3 := (g1.trans g2).trans g3
  exact h2 B3 H H3 w v lo' hi' Qd Q (Grow.refl g.sub g.pen) g.there ((hw.mono g2).mono g3) q3 fun z v B' H' g4 hz qz => k z v B' H' (g.trans g4) (hz.back g.there) qz
end
end Dl
namespace Dl
open PySem PySem.Spec PyProof.Rows L2

/-! ### what is walked -/
def ItD (G : Gx) (p : Option Addr) (B : Hp) (J : It) (ds : List D) : Prop := ∀ (i : Nat) (B2 H2 : Hp), Ex B B2 → Grow G p B2 H2 B2 H2 →
  (∀ d, ds[i]? = some d → J.go i H2 ∧ ∀ x H', J.yld i H2 x H' → ∃ B3, Grow G p B2 H2 B3 H' ∧ Has G B3 d x) ∧ (ds.length ≤ i → J.stop i H2)
abbrev DI := DSt → (List D → Prop) → Prop
section
variable (G : Gx) (p : Option Addr) (B0 H0 : Hp)
def tDI (d : DI) : TI := fun σ H R => ∃ B σd Qd, Rl G p B0 H0 B H σd σ ∧ d σd Qd ∧ ∀ J ds B' H', Grow G p B H B' H' → ItD G p B' J ds → Qd ds → R J H'
abbrev DIj (X : Cx) (tg e : Expr) (d : DI) : Prop := PI X tg e (tDI G p B0 H0 d)
end
theorem pi_wk {X : Cx} {tg e : Expr} {t t' : TI} (h : PI X tg e t) (w : ∀ σ H Q, t' σ H Q → t σ H Q) : PI X tg e t' := ⟨fun pins s σ H Q I q => h.run pins s σ H Q I (w _ _ _ q)⟩
section
variable {G : Gx} {p : Option Addr} {B0 H0 B H : Hp} {X : Cx} {tg a b c e : Expr} {es : List Expr} {da db d : DE} {ds : DA} {pos : Pos}
/-- a list, a tuple or a text, as it comes -/
def iAny (K : PySem.W.Frag) (tl : TE) : TI := fun σ H R => tl σ H fun x H1 => (∃ a, x = .ref a ∧ (∃ xs, SqL K H1 a xs) ∧ R (Itl K a) H1) ∨ (∃ a, x = .ref a ∧ (∃ xs, SqT K H1 a xs) ∧ R (Itt K a) H1) ∨ ∃ z, x = .str z ∧ R (Its z) H1
theorem pi_any {l : Expr} {tl : TE} (hl : PE X l tl) : PI X tg l (iAny X.K tl) := by
  refine ⟨fun pins s σ H R I h => thn (hl.run pins s σ H _ I h) fun v s1 ⟨x, H1, I1, r1, q1⟩ => ?_⟩
  rcases q1 with ⟨a, rfl, ⟨xs, hq⟩, q⟩ | ⟨a, rfl, ⟨xs, hq⟩, q⟩ | ⟨z, rfl, q⟩
  · cases r1
    obtain ⟨its, rv, pl, _⟩ := I1.list hq
    exact wpAny_pyIter_list pl.isList (pi_one (tk := s1.toks) I1 _ (turn_list a _) ⟨_, Heap.get?_push_size _ rfl, rfl, rfl⟩ q)
  · cases r1
    obtain ⟨its, rv, pl, _⟩ := I1.tuple hq
    exact wpAny_pyIter_tuple (show s1.heap.IsTuple a its.toArray from pl) (pi_one (tk := s1.toks) I1 _ (turn_tuple a _) ⟨_, Heap.get?_push_size _ rfl, rfl, rfl⟩ q)
  · obtain ⟨t, rfl⟩ := r1
    cases ha : z.cps.all (· < 128)
    · exact wpAny_pyIter_wide ha (pi_one (tk := s1.toks) I1 _ (turn_str _ z t "str_iterator" (.inr rfl)) ⟨_, Heap.get?_push_size _ rfl, rfl, rfl⟩ q)
    · exact wpAny_pyIter_ascii ha (pi_one (tk := s1.toks) I1 _ (turn_str _ z t "str_ascii_iterator" (.inl rfl)) ⟨_, Heap.get?_push_size _ rfl, rfl, rfl⟩ q)
def one (c : Nat) : Str := ⟨#[c]⟩
def signsOf (z : Str) : List D := z.cps.toList.map fun c => .str (one c)
def dIt (d : DE) : DI := fun σ Q => d σ fun w => match w with
  | .sh (.lst ds) => Q ds
  | .fr (.lst ds) => Q ds
  | .sh (.tup ds) => Q ds
  | .sh (.str z) => Q (signsOf z)
  | _ => False
theorem itd_list {a : Addr} {vs : List V} {ds : List D} (h : B a = some (.lst vs)) (k : HasL G B ds vs) : ItD G p B (Itl G.K a) ds := by
  intro i B2 H2 x g
  have hq : SqL G.K H2 a vs := SqL.of ((x.trans g.sub) _ _ h)
  refine ⟨fun d hd => ?_, fun hl => ⟨vs, hq, by rw [k.len]; exact hl⟩⟩
  obtain ⟨v, e1, hv⟩ := k.at hd
  refine ⟨⟨vs, v, hq, e1⟩, fun y H' hy => ?_⟩
  obtain ⟨rfl, hx⟩ := hy
  have e2 := hx vs hq
  rw [e1] at e2; cases e2
  exact ⟨B2, g, hv.mono x⟩
theorem itd_tup {a : Addr} {vs : List V} {ds : List D} (h : SqT G.K B a vs) (k : HasL G B ds vs) : ItD G p B (Itt G.K a) ds := by
  intro i B2 H2 x g
  have hq : SqT G.K H2 a vs := Evl.ex_t (x.trans g.sub) h
  refine ⟨fun d hd => ?_, fun hl => ⟨vs, hq, by rw [k.len]; exact hl⟩⟩
  obtain ⟨v, e1, hv⟩ := k.at hd
  refine ⟨⟨vs, v, hq, e1⟩, fun y H' hy => ?_⟩
  obtain ⟨rfl, hx⟩ := hy
  have e2 := hx vs hq
  rw [e1] at e2; cases e2
  exact ⟨B2, g, hv.mono x⟩
theorem itd_str {z : Str} : ItD G p B (Its z) (signsOf z) := by
  intro i B2 H2 x g
  refine ⟨fun d hd => ?_, fun hl => ?_⟩
  · unfold signsOf at hd
    rw [List.getElem?_map, Option.map_eq_some_iff] at hd
    obtain ⟨c, hc, rfl⟩ := hd
    rw [Array.getElem?_toList] at hc
    obtain ⟨hi, _⟩ := Array.getElem?_eq_some_iff.mp hc
    refine ⟨hi, fun y H' hy => ?_⟩
    obtain ⟨rfl, c', h1, rfl⟩ := hy
    rw [hc] at h1; cases h1
    exact ⟨B2, g, by unfold Has; rfl⟩
  · unfold signsOf at hl
    show z.cps.size ≤ i
    simpa using hl
theorem itd_rng {lo : Int} {n : Nat} : ItD G p B (Itr lo n) ((List.range n).map fun (i : Nat) => .int (lo + (i : Int))) := by
  intro i B2 H2 x g
  refine ⟨fun d hd => ?_, fun hl => show n ≤ i by simpa using hl⟩
  rw [List.getElem?_map, Option.map_eq_some_iff] at hd
  obtain ⟨j, hj, rfl⟩ := hd
  have hi : i < n := by
    have := (List.getElem?_eq_some_iff.mp hj).1
    simpa using this
  rw [List.getElem?_range hi] at hj
  cases hj
  refine ⟨hi, fun y H' hy => ?_⟩
  obtain ⟨rfl, rfl⟩ := hy
  exact ⟨B2, g, by unfold Has; rfl⟩
def enumD : Nat → List D → List D
  | _, [] => []
  | k, d :: r => .tup [.int (k : Int), d] :: enumD (k + 1) r
theorem enumD_get : ∀ {ds : List D} {k i : Nat}, (enumD k ds)[i]? = ds[i]?.map fun d => .tup [.int ((k + i : Nat) : Int), d]
  | [], _, _ => by simp [enumD]
  | d :: r, k, 0 => by simp [enumD]
  | d :: r, k, i + 1 => by
    simp only [enumD, List.getElem?_cons_succ]
    rw [enumD_get (ds := r) (k := k + 1) (i := i)]
    rw [show k + 1 + i = k + (i + 1) by omega]
theorem enumD_len : ∀ {ds : List D} {k : Nat}, (enumD k ds).length = ds.length
  | [], _ => rfl
  | d :: r, k => by simp [enumD, enumD_len (ds := r)]
theorem pairNew {T : Addr} {x y : V} {d e : D} {B2 H2 : Hp} (g : Grow G p B2 H2 B2 H2) (hT : H2 T = none) (hx : Has G B2 d x) (hy : Has G B2 e y) : ∃ B3, Grow G p B2 H2 B3 (upd H2 T (.tup [x, y])) ∧ Has G B3 (.tup [d, e]) (.ref T) := by
  obtain ⟨g', x'⟩ := g.newS (o := .tup [x, y]) hT
  exact ⟨_, g', by unfold Has; exact ⟨T, _, rfl, SqT.of upd_same, .cons (hx.mono x') (.cons (hy.mono x') .nil)⟩⟩
theorem itd_enum {a : Addr} {vs : List V} {ds : List D} (h : B a = some (.lst vs)) (k : HasL G B ds vs) : ItD G p B (Ite G.K a) (enumD 0 ds) := by
  intro i B2 H2 x g
  have hq : SqL G.K H2 a vs := SqL.of ((x.trans g.sub) _ _ h)
  refine ⟨fun d hd => ?_, fun hl => ⟨vs, hq, by rw [k.len]; rw [enumD_len] at hl; exact hl⟩⟩
  rw [enumD_get, Option.map_eq_some_iff] at hd
  obtain ⟨d', hd', rfl⟩ := hd
  obtain ⟨v, e1, hv⟩ := k.at hd'
  refine ⟨⟨vs, v, hq, e1⟩, fun y H' hy => ?_⟩
  obtain ⟨T, y', rfl, hT, rfl, hx⟩ := hy
  have e2 := hx vs hq
  rw [e1] at e2; cases e2
  rw [Nat.zero_add]
  exact pairNew g hT (by unfold Has; rfl) (hv.mono x)
def zipD : List D → List D → List D
  | d :: r, e :: t => .tup [d, e] :: zipD r t
  | _, _ => []
theorem zipD_get : ∀ {ds es : List D} {i : Nat} {x : D}, (zipD ds es)[i]? = some x → ∃ d e, ds[i]? = some d ∧ es[i]? = some e ∧ x = .tup [d, e]
  | [], es, i, x, h => by simp [zipD] at h
  | d :: r, [], i, x, h => by simp [zipD] at h
  | d :: r, e :: t, 0, x, h => by
    simp [zipD] at h
    exact ⟨d, e, rfl, rfl, h.symm⟩
  | d :: r, e :: t, i + 1, x, h => by
    simp only [zipD, List.getElem?_cons_succ] at h
    obtain ⟨d', e', h1, h2, h3⟩ := zipD_get h
    exact ⟨d', e', by simpa using h1, by simpa using h2, h3⟩
theorem zipD_len : ∀ {ds es : List D} {i : Nat}, (zipD ds es).length ≤ i → ds.length ≤ i ∨ es.length ≤ i
  | [], es, i, _ => .inl (Nat.zero_le _)
  | d :: r, [], i, _ => .inr (Nat.zero_le _)
  | d :: r, e :: t, 0, h => by simp [zipD] at h
  | d :: r, e :: t, i + 1, h => by
    simp only [zipD, List.length_cons] at h
    rcases zipD_len (ds := r) (es := t) (i := i) (by omega) with z | z
    · exact .inl (by simp; omega)
    · exact .inr (by simp; omega)
theorem itd_zipL {a b : Addr} {vs us : List V} {ds es : List D} (h : B a = some (.lst vs)) (k : HasL G B ds vs) (h' : B b = some (.lst us)) (k' : HasL G B es us) : ItD G p B (Itz G.K a b) (zipD ds es) := by
  intro i B2 H2 x g
  have hq : SqL G.K H2 a vs := SqL.of ((x.trans g.sub) _ _ h)
  have hq' : SqL G.K H2 b us := SqL.of ((x.trans g.sub) _ _ h')
  refine ⟨fun d hd => ?_, fun hl => ⟨vs, us, hq, hq', by rw [k.len, k'.len]; exact zipD_len hl⟩⟩
  obtain ⟨d1, d2, e1, e2, rfl⟩ := zipD_get hd
  obtain ⟨v, f1, hv⟩ := k.at e1
  obtain ⟨u, f2, hu⟩ := k'.at e2
  refine ⟨⟨vs, us, v, u, hq, hq', f1, f2⟩, fun y H' hy => ?_⟩
  obtain ⟨T, y1, y2, rfl, hT, rfl, hx, hx'⟩ := hy
  have q1 := hx vs hq
  have q2 := hx' us hq'
  rw [f1] at q1; cases q1
  rw [f2] at q2; cases q2
  exact pairNew g hT (hv.mono x) (hu.mono x)
theorem itd_zipT {a b : Addr} {vs us : List V} {ds es : List D} (h : SqT G.K B a vs) (k : HasL G B ds vs) (h' : SqT G.K B b us) (k' : HasL G B es us) : ItD G p B (RZ.ItzT G.K a b) (zipD ds es) := by
  intro i B2 H2 x g
  have hq : SqT G.K H2 a vs := Evl.ex_t (x.trans g.sub) h
  have hq' : SqT G.K H2 b us := Evl.ex_t (x.trans g.sub) h'
  refine ⟨fun d hd => ?_, fun hl => ⟨vs, us, hq, hq', by rw [k.len, k'.len]; exact zipD_len hl⟩⟩
  obtain ⟨d1, d2, e1, e2, rfl⟩ := zipD_get hd
  obtain ⟨v, f1, hv⟩ := k.at e1
  obtain ⟨u, f2, hu⟩ := k'.at e2
  refine ⟨⟨vs, us, v, u, hq, hq', f1, f2⟩, fun y H' hy => ?_⟩
  obtain ⟨T, y1, y2, rfl, hT, rfl, hx, hx'⟩ := hy
  have q1 := hx vs hq
  have q2 := hx' us hq'
  rw [f1] at q1; cases q1
  rw [f2] at q2; cases q2
  exact pairNew g hT (hv.mono x) (hu.mono x)
/-- a list result that is walked: shared -/
theorem WR.lstS {Bs Hs : Hp} {w : W} {v : V} {ds : List D} (g : Grow G p Bs Hs B H) (h : WR G p B Hs H w v) (e : w.cl? = some (.lst ds)) : ∃ B' a vs, Grow G p Bs Hs B' H ∧ Ex B B' ∧ v = .ref a ∧ B' a = some (.lst vs) ∧ HasL G B' ds vs := by
  obtain ⟨B', g', x, k, _⟩ := h.share g e
  unfold Has at k
  obtain ⟨a, vs, rfl, h1, h2⟩ := k
  exact ⟨B', a, vs, g', x, rfl, h1, h2⟩
theorem di_it (hK : X.K = G.K) (h : DEj G p B0 H0 X e d) : DIj G p B0 H0 X tg e (dIt d) := by
  refine pi_wk (pi_any h) fun σ H R ⟨B, σd, Qd, rl, q, k⟩ => ?_
  refine ⟨B, σd, _, rl, q, fun w v B1 H1 g hw q1 => ?_⟩
  split at q1
  · obtain ⟨B', a, vs, g', x, rfl, h1, h2⟩ := hw.lstS g rfl
    exact .inl ⟨a, rfl, ⟨vs, SqL.of (g'.sub _ _ h1)⟩, by rw [hK]; exact k _ _ B' H1 g' (itd_list h1 h2) q1⟩
  · obtain ⟨B', a, vs, g', x, rfl, h1, h2⟩ := hw.lstS g rfl
    exact .inl ⟨a, rfl, ⟨vs, SqL.of (g'.sub _ _ h1)⟩, by rw [hK]; exact k _ _ B' H1 g' (itd_list h1 h2) q1⟩
  · obtain ⟨a, vs, rfl, h1, h2⟩ := hw.tup rfl
    exact .inr (.inl ⟨a, rfl, ⟨vs, by rw [hK]; exact Evl.ex_t g.sub h1⟩, by rw [hK]; exact k _ _ B1 H1 g (itd_tup h1 h2) q1⟩)
  · exact .inr (.inr ⟨_, hw.str rfl, k _ _ B1 H1 g itd_str q1⟩)
  · exact q1.elim
def dRng1 (d : DE) : DI := fun σ Q => d σ fun w => match w with
  | .sh (.int n) => -(2 ^ 62) ≤ n ∧ n < 2 ^ 62 ∧ Q ((List.range n.toNat).map fun (i : Nat) => .int (0 + (i : Int)))
  | _ => False
theorem di_rng1 {pp : Pos} (hg : Gl X "range") (hm : X.mg "range" = none) (h : DEj G p B0 H0 X a d) (hs : starEach [a] X.env = [(false, eval a X.env)] := by rfl) : DIj G p B0 H0 X tg (.Call (.Name "range" pp) [a] [] pos) (dRng1 d) := by
  refine pi_wk (pi_range1 hg hm (pa_cons h pa_nil hs) hs) fun σ H R ⟨B, σd, Qd, rl, q, k⟩ => ?_
  refine ⟨B, σd, _, rl, q, fun w v B1 H1 g hw q1 => ?_⟩
  split at q1
  · rename_i n
    refine ⟨n, by rw [hw.int rfl], q1.1, q1.2.1, k _ _ B1 H1 g itd_rng q1.2.2⟩
  · exact q1.elim
def dRng2 (da db : DE) : DI := fun σ Q => da σ fun w => db σ fun u => match w, u with
  | .sh (.int i), .sh (.int j) => (-(2 ^ 62) ≤ i ∧ i < 2 ^ 62 ∧ -(2 ^ 62) ≤ j ∧ j < 2 ^ 62) ∧ Q ((List.range (j - i).toNat).map fun (k : Nat) => .int (i + (k : Int)))
  | _, _ => False
theorem di_rng2 {pp : Pos} (hg : Gl X "range") (hm : X.mg "range" = none) (h : DEj G p B0 H0 X a da) (h' : DEj G p B0 H0 X b db) (hs : starEach [a, b] X.env = [(false, eval a X.env), (false, eval b X.env)] := by rfl) (hs2 : starEach [b] X.env = [(false, eval b X.env)] := by rfl) :
    DIj G p B0 H0 X tg (.Call (.Name "range" pp) [a, b] [] pos) (dRng2 da db) := by
  refine pi_wk (pi_range2 hg hm (pa_cons h (pa_cons h' pa_nil hs2) (by rw [hs, hs2])) hs hs2) fun σ H R ⟨B, σd, Qd, rl, q, k⟩ => ?_
  refine ⟨B, σd, _, rl, q, fun w v B1 H1 g hw q1 => ?_⟩
  refine ⟨B1, σd, _, rl.grow g, q1, fun u v' B2 H2 g2 hu q2 => ?_⟩
  split at q2
  · rename_i i j
    refine ⟨i, j, by rw [hw.int rfl, hu.int rfl], q2.1, k _ _ B2 H2 (g.trans g2) itd_rng q2.2⟩
  · exact q2.elim
def dEnum (d : DE) : DI := fun σ Q => d σ fun w => match w with
  | .sh (.lst ds) => Q (enumD 0 ds)
  | .fr (.lst ds) => Q (enumD 0 ds)
  | _ => False
theorem di_enum (hK : X.K = G.K) {pp tpos : Pos} {elts : List Expr} {kk : Nat} (hg : Gl X "enumerate") (hm : X.mg "enumerate" = none) (h : DEj G p B0 H0 X e d) (hs : starEach [e] X.env = [(false, eval e X.env)] := by rfl) :
    DIj G p B0 H0 X (.Tuple elts kk tpos) (.Call (.Name "enumerate" pp) [e] [] pos) (dEnum d) := by
  refine pi_wk (pi_enum hg hm (pa_cons h pa_nil hs) hs) fun σ H R ⟨B, σd, Qd, rl, q, k⟩ => ?_
  refine ⟨B, σd, _, rl, q, fun w v B1 H1 g hw q1 => ?_⟩
  split at q1
  · obtain ⟨B', a, vs, g', x, rfl, h1, h2⟩ := hw.lstS g rfl
    exact ⟨a, vs, rfl, SqL.of (g'.sub _ _ h1), by rw [hK]; exact k _ _ B' H1 g' (itd_enum h1 h2) q1⟩
  · obtain ⟨B', a, vs, g', x, rfl, h1, h2⟩ := hw.lstS g rfl
    exact ⟨a, vs, rfl, SqL.of (g'.sub _ _ h1), by rw [hK]; exact k _ _ B' H1 g' (itd_enum h1 h2) q1⟩
  · exact q1.elim
def dZip (da db : DE) : DI := fun σ Q => da σ fun w => db σ fun u => match w.cl?, u.cl? with
  | some (.lst ds), some (.lst es) => Q (zipD ds es)
  | some (.tup ds), some (.tup es) => Q (zipD ds es)
  | _, _ => False
theorem di_zip (hK : X.K = G.K) {pp tpos : Pos} {elts : List Expr} {kk : Nat} (hg : Gl X "zip") (hm : X.mg "zip" = none) (h : DEj G p B0 H0 X a da) (h' : DEj G p B0 H0 X b db)
    (hs : starEach [a, b] X.env = (false, eval a X.env) :: starEach [b] X.env := by rfl) (hpl : (backTo pos (starEach [b] X.env)).any (·.1) = false := by rfl) (hs2 : starEach [b] X.env = [(false, eval b X.env)] := by rfl) :
    DIj G p B0 H0 X (.Tuple elts kk tpos) (.Call (.Name "zip" pp) [a, b] [] pos) (dZip da db) := by
  refine pi_wk (RZ.pi_zipA hg hm (pa_cons h (pa_cons h' pa_nil hs2) hs) hs hpl) fun σ H R ⟨B, σd, Qd, rl, q, k⟩ => ?_
  refine ⟨B, σd, _, rl, q, fun w v B1 H1 g hw q1 => ?_⟩
  refine ⟨B1, σd, _, rl.grow g, q1, fun u v' B2 H2 g2 hu q2 => ?_⟩
  have two : ∀ {x y : D}, w.cl? = some x → u.cl? = some y → ∃ B3, Grow G p B H B3 H2 ∧ Has G B3 x v ∧ Has G B3 y v' := fun {x y} hx hy => by
    have e : cls? [w, u] = some [x, y] := by simp [cls?, hx, hy]
    have hws : WRs G p B2 H H2 [w, u] [v, v'] := by
      refine ⟨v, _, rfl, hw.mono g2, fun hf j z hj hz hv => ?_, v', [], rfl, hu.back g.there, fun _ j z hj => by simp at hj, rfl⟩
      cases j with
      | succ j => simp at hj
      | zero =>
        simp at hj hv
        subst hj
        cases w with
        | fr d1 =>
          cases u with
          | fr d2 =>
            obtain ⟨a1, e1, _, _, _, t⟩ := hw
            obtain ⟨a2, e2, h0, _⟩ := hu
            rw [e1] at hv
            rw [hv] at e2
            cases e2
            exact t.there h0
          | _ => cases hz
        | _ => cases hf
    obtain ⟨B3, g3, x3, k3⟩ := hws.share (g.trans g2) e
    unfold HasL at k3
    obtain ⟨v1, r1, e1, p1, k4⟩ := k3
    unfold HasL at k4
    obtain ⟨v2, r2, e2, p2, k5⟩ := k4
    cases e1; cases e2
    exact ⟨B3, g3, p1, p2⟩
  split at q2
  · rename_i ds es e1 e2
    obtain ⟨B3, g3, p1, p2⟩ := two e1 e2
    unfold Has at p1 p2
    obtain ⟨a1, vs, rfl, s1, k1⟩ := p1
    obtain ⟨a2, us, rfl, s2, k2⟩ := p2
    refine ⟨a1, a2, vs, us, rfl, .inl ⟨SqL.of (g3.sub _ _ s1), SqL.of (g3.sub _ _ s2), by rw [hK]; exact k _ _ B3 H2 g3 (itd_zipL s1 k1 s2 k2) q2⟩⟩
  · rename_i ds es e1 e2
    obtain ⟨B3, g3, p1, p2⟩ := two e1 e2
    unfold Has at p1 p2
    obtain ⟨a1, vs, rfl, s1, k1⟩ := p1
    obtain ⟨a2, us, rfl, s2, k2⟩ := p2
    refine ⟨a1, a2, vs, us, rfl, .inr ⟨by rw [hK]; exact Evl.ex_t g3.sub s1, by rw [hK]; exact Evl.ex_t g3.sub s2, by rw [hK]; exact k _ _ B3 H2 g3 (itd_zipT s1 k1 s2 k2) q2⟩⟩
  · exact q2.elim
end
end Dl
namespace Dl
open PySem PySem.Spec PyProof.Rows L2

/-! ### targets: a name; a tuple of names -/
inductive Tg where
  | nm (i : Nat) | tp (is : List Nat)
def gsOf : List Nat → TGs
  | [] => gNil
  | i :: is => gCons (gName i) (gsOf is)
def Tg.g (K : PySem.W.Frag) : Tg → TG
  | .nm i => gName i
  | .tp is => gTup K is.length (gsOf is)
def Tg.ix : Tg → List Nat
  | .nm i => [i]
  | .tp is => is
def sets : List Nat → List D → DSt → DSt
  | i :: is, d :: ds, σ => sets is ds (σ.set i (some (.sh d)))
  | _, _, σ => σ
def Tg.bind : Tg → D → DSt → (DSt → Prop) → Prop
  | .nm i, d, σ, Q => Q (σ.set i (some (.sh d)))
  | .tp is, .tup ds, σ, Q => ds.length = is.length ∧ Q (sets is ds σ)
  | _, _, _, _ => False
section
variable {G : Gx} {p : Option Addr} {B0 H0 B H : Hp} {X : Cx} {σd : DSt} {σ : St}
theorem Rl.setS (r : Rl G p B0 H0 B H σd σ) (i : Nat) {d : D} {v : V} (h : Has G B d v) : Rl G p B0 H0 B H (σd.set i (some (.sh d))) (σ.set i (some v)) :=
  r.set i r.same h fun d e => by cases e
theorem wipe_set {i : Nat} {x : Option V} : ∀ {vs : List Nat} {σ : St}, i ∈ vs → wipe (σ.set i x) vs = wipe σ vs
  | [], σ, h => by simp at h
  | v :: vs, σ, h => by
    unfold wipe
    by_cases e : i ∈ vs
    · rw [wipe_set e]
    · have hv : i = v := by
        rcases List.mem_cons.mp h with z | z
        · exact z
        · exact absurd z e
      subst hv
      have w : ∀ {us : List Nat} {σ : St}, i ∉ us → wipe (σ.set i x) us = (wipe σ us).set i x := by
        intro us
        induction us with
        | nil => intro σ _; rfl
        | cons u us ih =>
          intro σ hn
          unfold wipe
          rw [ih (fun z => hn (List.mem_cons_of_mem _ z)), List.set_comm _ _ (fun z => hn (by rw [z]; exact List.mem_cons_self))]
      rw [w e, List.set_set]
theorem gs_sets : ∀ {is : List Nat} {ds : List D} {vs : List V} {σd : DSt} {σ : St} {us : List Nat} {Q : St → Hp → Prop}, Rl G p B0 H0 B H σd σ → HasL G B ds vs → ds.length = is.length → (∀ i ∈ is, i ∈ us) →
    (∀ σ', Rl G p B0 H0 B H (sets is ds σd) σ' → wipe σ' us = wipe σ us → Q σ' H) → gsOf is vs σ H Q
  | [], [], vs, σd, σ, us, Q, r, h, hl, hu, k => by
    unfold HasL at h
    exact ⟨h, k σ r rfl⟩
  | [], d :: ds, _, _, _, _, _, _, _, hl, _, _ => by simp at hl
  | i :: is, [], _, _, _, _, _, _, _, hl, _, _ => by simp at hl
  | i :: is, d :: ds, vs, σd, σ, us, Q, r, h, hl, hu, k => by
    unfold HasL at h
    obtain ⟨v, t, rfl, h1, h2⟩ := h
    refine ⟨v, t, rfl, ?_⟩
    show gsOf is t (σ.set i (some v)) H Q
    refine gs_sets (r.setS i h1) h2 (by simpa using hl) (fun j hj => hu j (List.mem_cons_of_mem _ hj)) fun σ' r' hw => k σ' r' ?_
    rw [hw, wipe_set (hu i List.mem_cons_self)]
theorem tg_bind {tg : Tg} {d : D} {v : V} {us : List Nat} {Q : St → Hp → Prop} {Qd : DSt → Prop} (r : Rl G p B0 H0 B H σd σ) (h : Has G B d v) (hu : ∀ i ∈ tg.ix, i ∈ us) (q : tg.bind d σd Qd)
    (k : ∀ σd' σ', Rl G p B0 H0 B H σd' σ' → wipe σ' us = wipe σ us → Qd σd' → Q σ' H) : tg.g G.K v σ H Q := by
  cases tg with
  | nm i => exact k _ _ (r.setS i h) (wipe_set (hu i (by simp [Tg.ix]))) q
  | tp is =>
    cases d with
    | tup ds =>
      obtain ⟨hl, q⟩ := q
      unfold Has at h
      obtain ⟨a, vs, rfl, h1, h2⟩ := h
      refine ⟨a, vs, rfl, Evl.ex_t r.sub h1, by rw [h2.len, hl], ?_⟩
      exact gs_sets r h2 hl hu fun σ' r' hw => k _ σ' r' hw q
    | _ => exact q.elim
end

/-! ### loops -/
section
variable {G : Gx} {p : Option Addr} {B0 H0 : Hp} {X : Cx} {c e iter tg : Expr} {body : List Stmt} {di : DI} {t : DT} {u : DS} {pos : Pos}
def dForL (g : Tg) (u : DS) (D : DEnds) : List Dl.D → DSt → Prop
  | [], σ => D.nx σ
  | d :: r, σ => g.bind d σ fun σ1 => u { nx := dForL g u D r, ct := dForL g u D r, bk := D.nx, rt := D.rt } σ1
def dFor (di : DI) (g : Tg) (u : DS) : DS := fun D σ => di σ fun ds => dForL g u D ds σ
theorem dForL_drop {g : Tg} {u : DS} {D : DEnds} {ds : List Dl.D} {i : Nat} {d : Dl.D} (h : ds[i]? = some d) {σ : DSt} (q : dForL g u D (ds.drop i) σ) :
    g.bind d σ fun σ1 => u { nx := dForL g u D (ds.drop (i + 1)), ct := dForL g u D (ds.drop (i + 1)), bk := D.nx, rt := D.rt } σ1 := by
  obtain ⟨hi, e⟩ := List.getElem?_eq_some_iff.mp h
  rw [List.drop_eq_getElem_cons hi, e] at q
  exact q
theorem ds_for {g : Tg} {gt : TG} (hp : PassesOwn (model X.prog X.w) X.A X.env X.xe) (hc : X.calm = true) (hi : DIj G p B0 H0 X tg iter di) (hg : PG X tg gt) (hgt : gt = g.g G.K) (hb : DSsj G p B0 H0 X body u)
    (hs : ∀ x, foldedSetIterable iter X.env x = pure x := by intro _; rfl) : DSj G p B0 H0 X (.For tg iter body [] pos) (dFor di g u) := by
  subst hgt
  refine ps_wk (ps_for hp hc hi hg hb hs) fun D σ H ⟨B, σd, Dd, rl, q, k⟩ => ?_
  refine ⟨B, σd, _, rl, q, fun J ds B1 H1 g1 it q1 => ?_⟩
  refine ⟨fun i m σ' H' => m = ds.length - i ∧ i ≤ ds.length ∧ ∃ B' σd', Rl G p B0 H0 B' H' σd' σ' ∧ Ex B1 B' ∧ dForL g u Dd (ds.drop i) σd', ⟨ds.length, by simp, Nat.zero_le _, B1, σd, rl.grow g1, Evl.Ex.refl _, q1⟩, ?_⟩
  rintro i m σ' H' ⟨rfl, hi', B', σd', rl', x', q'⟩
  have hI := it i B' H' x' rl'.same
  by_cases hlt : i < ds.length
  · obtain ⟨hgo, hy⟩ := hI.1 _ (List.getElem?_eq_getElem hlt)
    refine .inr ⟨hgo, fun σ2 H2 => ∃ B2 σd2, Rl G p B0 H0 B2 H2 σd2 σ2 ∧ Ex B1 B2 ∧ dForL g u Dd (ds.drop (i + 1)) σd2, fun σ2 H2 h2 => ⟨_, ?_, rfl, hlt, h2⟩, fun x H2 yx => ?_⟩
    · omega
    · obtain ⟨B3, g3, h3⟩ := hy x H2 yx
      refine tg_bind (us := g.ix) (rl'.grow g3) h3 (fun _ h => h) (dForL_drop (List.getElem?_eq_getElem hlt) q') fun σd2 σ2 r2 _ q2 => ?_
      refine ⟨B3, σd2, _, r2, q2, ⟨fun B4 H4 σd4 σ4 x4 r4 q4 => ⟨B4, σd4, r4, (x'.trans g3.base).trans x4, q4⟩, fun B4 H4 σd4 σ4 x4 r4 q4 => k.nx B4 H4 σd4 σ4 ((g1.base.trans (x'.trans g3.base)).trans x4) r4 q4, fun B4 H4 σd4 σ4 x4 r4 q4 => ⟨B4, σd4, r4, (x'.trans g3.base).trans x4, q4⟩, k.rt⟩⟩
  · refine .inl ⟨hI.2 (by omega), ?_⟩
    rw [List.drop_eq_nil_of_le (by omega)] at q'
    exact k.nx B' H' σd' σ' (g1.base.trans x') rl' q'
def dWhile (t : DT) (u : DS) : DS := fun D σ => ∃ W : Nat → DSt → Prop, (∃ m, W m σ) ∧ ∀ m σ, W m σ → t σ fun b =>
  if b = true then u { nx := fun σ' => ∃ m', m' < m ∧ W m' σ', ct := fun σ' => ∃ m', m' < m ∧ W m' σ', bk := D.nx, rt := D.rt } σ else D.nx σ
theorem ds_while (hp : PassesOwn (model X.prog X.w) X.A X.env X.xe) (hc : DTj G p B0 H0 X c t) (hb : DSsj G p B0 H0 X body u) : DSj G p B0 H0 X (.While c body [] pos) (dWhile t u) := by
  refine ps_wk (ps_while hp hc hb) fun D σ H ⟨B, σd, Dd, rl, q, k⟩ => ?_
  obtain ⟨W, ⟨m0, w0⟩, turn⟩ := q
  refine ⟨fun m σ' H' => ∃ B' σd', Rl G p B0 H0 B' H' σd' σ' ∧ Ex B B' ∧ W m σd', ⟨m0, B, σd, rl, Evl.Ex.refl _, w0⟩, ?_⟩
  rintro m σ' H' ⟨B', σd', rl', x', w'⟩
  refine ⟨B', σd', _, rl', turn m σd' w', fun b B2 H2 g2 q2 => ?_⟩
  cases b with
  | true =>
    rw [if_pos rfl] at q2 ⊢
    refine ⟨fun σ2 H2 => ∃ m', m' < m ∧ ∃ B2 σd2, Rl G p B0 H0 B2 H2 σd2 σ2 ∧ Ex B B2 ∧ W m' σd2, fun σ2 H2 h => ?_, B2, σd', _, rl'.grow g2, q2, ?_⟩
    · obtain ⟨m', hm, h⟩ := h
      exact ⟨m', hm, h⟩
    · exact ⟨fun B4 H4 σd4 σ4 x4 r4 ⟨m', hm, w4⟩ => ⟨m', hm, B4, σd4, r4, (x'.trans g2.base).trans x4, w4⟩, fun B4 H4 σd4 σ4 x4 r4 q4 => k.nx B4 H4 σd4 σ4 ((x'.trans g2.base).trans x4) r4 q4, fun B4 H4 σd4 σ4 x4 r4 ⟨m', hm, w4⟩ => ⟨m', hm, B4, σd4, r4, (x'.trans g2.base).trans x4, w4⟩, k.rt⟩
  | false =>
    rw [if_neg Bool.false_ne_true] at q2 ⊢
    exact k.nx B2 H2 σd' σ' (x'.trans g2.base) (rl'.grow g2) q2
end

/-! ### comprehensions -/
def wipeD (σ : DSt) : List Nat → DSt
  | [] => σ
  | v :: vs => (wipeD σ vs).set v none
section
variable {G : Gx} {p : Option Addr} {B0 H0 B H : Hp} {σd : DSt} {σ : St}
theorem Rl.unset (r : Rl G p B0 H0 B H σd σ) (i : Nat) : Rl G p B0 H0 B H (σd.set i none) (σ.set i none) := by
  have ne : ∀ (j : Nat) (w : W), (σd.set i none)[j]? = some (some w) → i ≠ j ∧ σd[j]? = some (some w) := fun j w e => by
    by_cases hj : i = j
    · subst hj
      rw [List.getElem?_set] at e
      simp only [if_true] at e
      split at e <;> cases e
    · rw [List.getElem?_set_ne hj] at e
      exact ⟨hj, e⟩
  refine ⟨r.ok0, r.gr, by simp [r.len], fun j w e => ?_, fun j d e => r.nob j d (ne j _ e).2, fun j l d d' v n ej el hj hl => ?_⟩
  · obtain ⟨h1, h2⟩ := ne j w e
    rw [List.getElem?_set_ne h1]
    exact r.slot j w h2
  · obtain ⟨h1, h2⟩ := ne j _ ej
    obtain ⟨h3, h4⟩ := ne l _ el
    rw [List.getElem?_set_ne h1] at hj
    rw [List.getElem?_set_ne h3] at hl
    exact r.dist j l d d' v n h2 h4 hj hl
theorem Rl.wipe (r : Rl G p B0 H0 B H σd σ) : ∀ vs : List Nat, Rl G p B0 H0 B H (wipeD σd vs) (L2.wipe σ vs)
  | [] => r
  | v :: vs => (r.wipe vs).unset v
end
section
variable {G : Gx} {p : Option Addr} {B0 H0 : Hp} {X : Cx} {elt iter tg kx vx : Expr} {ifs : List Expr} {di : DI} {t : DT} {d dk dv : DE} {pos : Pos} {scope : Scope} {own : List (Str × Nat)}
def dLcL (g : Tg) (t : DT) (e : DE) (σ : DSt) : List D → List D → (W → Prop) → Prop
  | [], acc, Q => Q (.fr (.lst acc))
  | d :: r, acc, Q => g.bind d σ fun σ1 => t σ1 fun b => if b = true then e σ1 fun w => match w.cl? with
    | some x => dLcL g t e σ r (acc ++ [x]) Q
    | none => False
    else dLcL g t e σ r acc Q
def dLc (di : DI) (g : Tg) (t : DT) (e : DE) (vs : List Nat) : DE := fun σ Q => di σ fun ds => ds.length ≤ sizeLine ∧ dLcL g t e (wipeD σ vs) ds [] Q
abbrev DTsj (G : Gx) (p : Option Addr) (B0 H0 : Hp) (X : Cx) (ifs : List Expr) (t : DT) : Prop := PTs X ifs (tDT G p B0 H0 t)
def dYes : DT := fun _ Q => Q true
theorem dts_nil : DTsj G p B0 H0 X [] dYes := ⟨fun pins s σ H Q I ⟨B, σd, Qd, rl, q, k⟩ => pts_nil.run pins s σ H Q I (k true B H rl.same q)⟩
theorem dts_one {c : Expr} (h : DTj G p B0 H0 X c t) : DTsj G p B0 H0 X [c] t := pts_one h
theorem sim_lc {g : Tg} {vs : List Nat} (hu : ∀ i ∈ g.ix, i ∈ vs) {σ : St} {H : Hp} {Q : VK} (q : tD G p B0 H0 (dLc di g t d vs) σ H Q) :
    tLc (tDI G p B0 H0 di) (g.g G.K) (tDT G p B0 H0 t) (tD G p B0 H0 d) vs σ H Q := by
  obtain ⟨B, σd, Qd, rl, hq, k⟩ := q
  refine ⟨B, σd, _, rl, hq, fun J ds B1 H1 g1 it ⟨hz, q1⟩ => fun L hL => ?_⟩
  have hBL : B1 L = none := by
    cases z : B1 L with
    | none => rfl
    | some o => rw [g1.sub _ _ z] at hL; cases hL
  have nL : p ≠ some L := g1.pen.off hL
  have hH : H L = none := g1.there L hL
  refine ⟨fun i m H' => m = ds.length - i ∧ i ≤ ds.length ∧ ∃ B' acc avs, Grow G p B H B' H' ∧ Ex B1 B' ∧ B' L = none ∧ H' L = some (.lst avs) ∧ HasL G B' acc avs ∧ acc.length ≤ i ∧ dLcL g t d (wipeD σd vs) (ds.drop i) acc Qd,
    ⟨ds.length, by simp, Nat.zero_le _, B1, [], [], g1.newF hL, Evl.Ex.refl _, hBL, upd_same, .nil, Nat.le_refl _, q1⟩, ?_⟩
  rintro i m H' ⟨rfl, hi, B', acc, avs, g2, x2, hb2, hl2, ha2, hn2, q2⟩
  have hI := it i B' H' x2 (Grow.refl g2.sub g2.pen)
  by_cases hlt : i < ds.length
  · obtain ⟨hgo, hy⟩ := hI.1 _ (List.getElem?_eq_getElem hlt)
    refine .inr ⟨hgo, fun H3 => ∃ B' acc avs, Grow G p B H B' H3 ∧ Ex B1 B' ∧ B' L = none ∧ H3 L = some (.lst avs) ∧ HasL G B' acc avs ∧ acc.length ≤ i + 1 ∧ dLcL g t d (wipeD σd vs) (ds.drop (i + 1)) acc Qd, fun H3 h3 => ⟨_, ?_, rfl, hlt, h3⟩, fun x H3 yx => ?_⟩
    · omega
    · obtain ⟨B3, g3, h3⟩ := hy x H3 yx
      have gL : ∀ {B4 H4 : Hp}, Grow G p B' H' B4 H4 → B4 L = none ∧ H4 L = some (.lst avs) := fun {B4 H4} g => by
        refine ⟨?_, g.keep _ _ nL hl2⟩
        cases z : B4 L with
        | none => rfl
        | some o =>
          rcases g.new L (by rw [z]; simp) with y | y
          · exact absurd hb2 y
          · rw [hl2] at y; cases y
      have q2' : g.bind (ds[i]) (wipeD σd vs) fun σ1 => t σ1 fun b => if b = true then d σ1 fun w => match w.cl? with
        | some x => dLcL g t d (wipeD σd vs) (ds.drop (i + 1)) (acc ++ [x]) Qd
        | none => False
        else dLcL g t d (wipeD σd vs) (ds.drop (i + 1)) acc Qd := by
        rw [List.drop_eq_getElem_cons hlt] at q2
        exact q2
      refine tg_bind (us := vs) ((rl.grow (g2.trans g3)).wipe vs) h3 hu q2' fun σd2 σ2 r2 hw q3 => ⟨?_, ?_⟩
      · rw [hw]
        have ww : ∀ us : List Nat, (∀ j ∈ us, j ∈ vs) → L2.wipe (L2.wipe σ vs) us = L2.wipe σ vs := by
          have none_at : ∀ (vs : List Nat) (j : Nat), j ∈ vs → j < σ.length → (L2.wipe σ vs)[j]? = some none := by
            intro vs
            induction vs with
            | nil => intro j hj; simp at hj
            | cons v vs ih =>
              intro j hj hlen
              show ((L2.wipe σ vs).set v none)[j]? = some none
              by_cases e : v = j
              · subst e
                rw [List.getElem?_set_self (by rw [wipe_length]; exact hlen)]
              · rw [List.getElem?_set_ne e]
                exact ih j ((List.mem_cons.mp hj).resolve_left (Ne.symm e)) hlen
          intro us
          induction us with
          | nil => intro _; rfl
          | cons u us ih =>
            intro hs
            show ((L2.wipe (L2.wipe σ vs) us).set u none) = _
            rw [ih fun j hj => hs j (List.mem_cons_of_mem _ hj)]
            by_cases hlen : u < σ.length
            · exact set_id (none_at vs u (hs u List.mem_cons_self) hlen)
            · exact List.set_eq_of_length_le (by rw [wipe_length]; omega)
        exact ww vs fun _ h => h
      · refine ⟨B3, σd2, _, r2, q3, fun b B4 H4 g4 q4 => ?_⟩
        cases b with
        | false =>
          obtain ⟨b1, b2⟩ := gL (g3.trans g4)
          exact ⟨B4, acc, avs, (g2.trans g3).trans g4, x2.trans (g3.trans g4).base, b1, b2, ha2.mono (g3.trans g4).base, Nat.le_succ_of_le hn2, q4⟩
        | true =>
          rw [if_pos rfl] at q4 ⊢
          refine ⟨B4, σd2, _, r2.grow g4, q4, fun w y B5 H5 g5 hw5 q5 => ?_⟩
          split at q5
          · rename_i xd ex
            obtain ⟨B6, g6, x6, k6, _⟩ := hw5.share g5 ex
            have gg := (g3.trans g4).trans g6
            obtain ⟨b1, b2⟩ := gL gg
            refine ⟨avs, b2, Nat.lt_of_lt_of_le (by rw [ha2.len]; omega) hz, B6, acc ++ [xd], avs ++ [y], (g2.trans gg).mut hH b1 nL, x2.trans gg.base, b1, upd_same, (ha2.mono gg.base).snoc k6, by simp; omega, q5⟩
          · exact q5.elim
  · refine .inl ⟨hI.2 (by omega), ?_⟩
    rw [List.drop_eq_nil_of_le (by omega)] at q2
    exact k (.fr (.lst acc)) _ B' H' g2 ⟨L, rfl, hH, hb2, nL, avs, hl2, ha2⟩ q2
theorem de_lc {g : Tg} {gt : TG} (hc : X.calm = true) (hN : X.N.Nodup) (hi : DIj G p B0 H0 X tg iter di) (ok : BlkOk X.N X.env.scope scope own) (hgt : gt = g.g G.K) (hu : ∀ i ∈ g.ix, i ∈ own.map (·.2))
    (hg : ∀ (s : Shared) (H : Hp) (C : Addr) (cl : List (Str × Addr)) (fp : List Addr), PG (X.blk s H scope (compEnvC scope cl C X.env) fp) tg gt)
    (ht : ∀ (s : Shared) (H : Hp) (C : Addr) (cl : List (Str × Addr)) (fp : List Addr), DTsj G p B0 H0 (X.blk s H scope (compEnvC scope cl C X.env) fp) ifs t)
    (he : ∀ (s : Shared) (H : Hp) (C : Addr) (cl : List (Str × Addr)) (fp : List Addr), DEj G p B0 H0 (X.blk s H scope (compEnvC scope cl C X.env) fp) elt d) (hs : ∀ x, foldedSetIterable iter X.env x = pure x := by intro _; rfl) :
    DEj G p B0 H0 X (.ListComp elt [⟨tg, iter, ifs, 0⟩] scope pos) (dLc di g t d (own.map (·.2))) := by
  subst hgt
  exact pe_wk (pe_lc hc hN hi ok hg ht he hs) fun σ H Q q => sim_lc hu q
theorem ds_setLc {g : Tg} {gt : TG} {i : Nat} {y : Str} {py spos : Pos} (hc : X.calm = true) (hN : X.N.Nodup) (hy : X.N[i]? = some y) (hyl : X.env.scope.names.lookup y = some .local)
    (hsw : swapsWith (.ListComp elt [⟨tg, iter, ifs, 0⟩] scope pos) (some (.Name y py)) spos.line X.env = pure true) (hi : DIj G p B0 H0 X tg iter di) (ok : BlkOk X.N X.env.scope scope own) (hgt : gt = g.g G.K) (hu : ∀ i ∈ g.ix, i ∈ own.map (·.2))
    (hg : ∀ (s : Shared) (H : Hp) (C : Addr) (cl : List (Str × Addr)) (fp : List Addr), PG (X.blk s H scope (compEnvC scope cl C X.env) fp) tg gt)
    (ht : ∀ (s : Shared) (H : Hp) (C : Addr) (cl : List (Str × Addr)) (fp : List Addr), DTsj G p B0 H0 (X.blk s H scope (compEnvC scope cl C X.env) fp) ifs t)
    (he : ∀ (s : Shared) (H : Hp) (C : Addr) (cl : List (Str × Addr)) (fp : List Addr), DEj G p B0 H0 (X.blk s H scope (compEnvC scope cl C X.env) fp) elt d) (hs : ∀ x, foldedSetIterable iter X.env x = pure x := by intro _; rfl) :
    DSj G p B0 H0 X (.Assign [.Name y py] (.ListComp elt [⟨tg, iter, ifs, 0⟩] scope pos) spos) (dAsg (dLc di g t d (own.map (·.2))) i) := by
  subst hgt
  refine ps_wk (ps_setLc hc hN hy hyl hsw hi ok hg ht he hs) fun D σ H ⟨B, σd, Dd, rl, q, k⟩ => ?_
  refine sim_lc hu ⟨B, σd, _, rl, q, fun w v B' H' g' hw q' => ?_⟩
  split at q'
  · exact q'.elim
  · rename_i nb
    exact k.nx B' H' _ _ g'.base (rl.set i g' hw fun d e => nb d e) q'
end
end Dl
namespace Dl
open PySem PySem.Spec PyProof.Rows L2

section
variable {G : Gx} {p : Option Addr} {X : Cx}
theorem fin_sh {B H Hs : Hp} {d : D} {v : V} (h : Has G B d v) : WR G p B Hs H (.sh d) v := h
theorem h_bl {B : Hp} {b : Bool} : Has G B (.bl b) (.bl b) := by unfold Has; rfl
theorem h_int {B : Hp} {b : Int} : Has G B (.int b) (.int b) := by unfold Has; rfl
theorem h_str {B : Hp} {b : Str} : Has G B (.str b) (.str b) := by unfold Has; rfl
theorem h_non {B : Hp} : Has G B .non .non := by unfold Has; rfl
theorem w_bl {B Hs H : Hp} {b : Bool} : WR G p B Hs H (.sh (.bl b)) (.bl b) := h_bl (G := G) (B := B)
theorem w_int {B Hs H : Hp} {b : Int} : WR G p B Hs H (.sh (.int b)) (.int b) := h_int (G := G) (B := B)
theorem w_str {B Hs H : Hp} {b : Str} : WR G p B Hs H (.sh (.str b)) (.str b) := h_str (G := G) (B := B)
theorem w_non {B Hs H : Hp} : WR G p B Hs H (.sh .non) .non := h_non (G := G) (B := B)

/-! ### + -/
@[irreducible] def fAdd : WOp := fun w u Q => match w.d, u.d with
  | .int i, .int j => Q (.sh (.int (i + j)))
  | .str a, .str b => a.length + b.length ≤ sizeLine ∧ Q (.sh (.str (a ++ b)))
  | .lst xs, .lst ys => xs.length + ys.length ≤ sizeLine ∧ Q (.fr (.lst (xs ++ ys)))
  | .tup xs, .tup ys => xs.length + ys.length ≤ sizeLine ∧ Q (.sh (.tup (xs ++ ys)))
  | _, _ => False
theorem opd_add (hK : X.K = G.K) : OpD G p X (binaryOp .Add) fAdd := by
  refine ⟨_, OpR.or op_add (OpR.or op_add_str (OpR.or op_cat op_catA)), ?_⟩
  intro B Hs H w u x y Qd Q s k hw hu h q
  unfold fAdd at h
  split at h
  · rename_i i j e1 e2
    exact .inl ⟨i, j, hw.int e1, hu.int e2, q _ _ B H (Grow.refl s k) w_int h⟩
  · rename_i a b e1 e2
    exact .inr (.inl ⟨a, b, hw.str e1, hu.str e2, h.1, q _ _ B H (Grow.refl s k) w_str h.2⟩)
  · rename_i xs ys e1 e2
    obtain ⟨a, vs, rfl, h1, h2⟩ := hw.lst s e1
    obtain ⟨b, us, rfl, h3, h4⟩ := hu.lst s e2
    refine .inr (.inr (.inl ⟨a, b, vs, us, rfl, rfl, h1, h3, by rw [h2.len, h4.len]; exact h.1, fun l hl => ?_⟩))
    have g := Grow.newF (o := .lst (vs ++ us)) (Grow.refl s k) hl
    refine q (.fr (.lst (xs ++ ys))) _ B _ g ⟨l, rfl, hl, ?_, k.off hl, vs ++ us, upd_same, h2.app h4⟩ h.2
    cases z : B l with
    | none => rfl
    | some o => rw [s _ _ z] at hl; cases hl
  · rename_i xs ys e1 e2
    obtain ⟨a, vs, rfl, h1, h2⟩ := hw.tup e1
    obtain ⟨b, us, rfl, h3, h4⟩ := hu.tup e2
    refine .inr (.inr (.inr ⟨a, b, vs, us, rfl, rfl, by rw [hK]; exact Evl.ex_t s h1, by rw [hK]; exact Evl.ex_t s h3, by rw [h2.len, h4.len]; exact h.1, fun e => ?_, fun _ e => ?_, fun n1 n2 l hl => ?_⟩))
    · have : xs = [] := by
        have := h2.len
        rw [e] at this
        exact List.length_eq_zero_iff.mp this.symm
      subst this
      exact q (.sh (.tup ([] ++ ys))) _ B H (Grow.refl s k) (by show Has _ _ (.tup ys) _; unfold Has; exact ⟨b, us, rfl, h3, h4⟩) h.2
    · have : ys = [] := by
        have := h4.len
        rw [e] at this
        exact List.length_eq_zero_iff.mp this.symm
      subst this
      exact q (.sh (.tup (xs ++ []))) _ B H (Grow.refl s k) (by rw [List.append_nil]; show Has _ _ (.tup xs) _; unfold Has; exact ⟨a, vs, rfl, h1, h2⟩) h.2
    · obtain ⟨g, x'⟩ := Grow.newS (o := .tup (vs ++ us)) (Grow.refl s k) hl
      exact q (.sh (.tup (xs ++ ys))) _ _ _ g (by show Has _ _ (.tup (xs ++ ys)) _; unfold Has; exact ⟨l, _, rfl, SqT.of upd_same, (h2.app h4).mono x'⟩) h.2
  · exact h.elim

/-! ### arithmetic of ints -/
def fI (C : Int → Int → Prop) (g : Int → Int → Int) : WOp := fun w u Q => match w.d, u.d with
  | .int i, .int j => C i j ∧ Q (.sh (.int (g i j)))
  | _, _ => False
theorem sim_I {C : Int → Int → Prop} {g : Int → Int → Int} : SimR G p (rI C fun i j => .int (g i j)) (fI C g) := by
  intro B Hs H w u x y Qd Q s k hw hu h q
  unfold fI at h
  split at h
  · rename_i i j e1 e2
    exact ⟨i, j, hw.int e1, hu.int e2, h.1, q _ _ B H (Grow.refl s k) w_int h.2⟩
  · exact h.elim
theorem sim_I0 {g : Int → Int → Int} : SimR G p (rI0 fun i j => .int (g i j)) (fI (fun _ _ => True) g) := by
  intro B Hs H w u x y Qd Q s k hw hu h q
  unfold fI at h
  split at h
  · rename_i i j e1 e2
    exact ⟨i, j, hw.int e1, hu.int e2, q _ _ B H (Grow.refl s k) w_int h.2⟩
  · exact h.elim
theorem opd_sub : OpD G p X (binaryOp .Sub) (fI (fun _ _ => True) fun i j => i - j) := ⟨_, op_sub, sim_I0⟩
theorem opd_mod : OpD G p X (binaryOp .Mod) (fI (fun _ j => 0 < j) fun i j => i % j) := ⟨_, op_mod, sim_I⟩
theorem opd_div : OpD G p X (binaryOp .FloorDiv) (fI CDiv fun i j => i / j) := ⟨_, op_fdiv, sim_I⟩
theorem opd_pow : OpD G p X (binaryOp .Pow) (fI CPow fun i j => i ^ j.toNat) := ⟨_, op_pow, sim_I⟩
/-- * : ints; a list so often -/
def fMul : WOp := fun w u Q => match w.d, u.d with
  | .int i, .int j => CMul i j ∧ Q (.sh (.int (i * j)))
  | .lst xs, .int j => (-(2 ^ 63) ≤ j ∧ j < 2 ^ 63 ∧ xs.length * j.toNat ≤ sizeLine) ∧ Q (.fr (.lst (List.replicate j.toNat xs).flatten))
  | _, _ => False
theorem HasL.rep {B : Hp} {ds : List D} {vs : List V} (h : HasL G B ds vs) : ∀ n : Nat, HasL G B (List.replicate n ds).flatten (List.replicate n vs).flatten
  | 0 => by simp; exact .nil
  | n + 1 => by simp only [List.replicate_succ, List.flatten_cons]; exact h.app (h.rep n)
theorem opd_mul : OpD G p X (binaryOp .Mult) fMul := by
  refine ⟨_, OpR.or op_mul op_rep, ?_⟩
  intro B Hs H w u x y Qd Q s k hw hu h q
  unfold fMul at h
  split at h
  · rename_i i j e1 e2
    exact .inl ⟨i, j, hw.int e1, hu.int e2, h.1, q _ _ B H (Grow.refl s k) w_int h.2⟩
  · rename_i xs j e1 e2
    obtain ⟨a, vs, rfl, h1, h2⟩ := hw.lst s e1
    refine .inr ⟨a, j, vs, rfl, hu.int e2, h1, h.1.1, h.1.2.1, by rw [h2.len]; exact h.1.2.2, fun l hl => ?_⟩
    have g := Grow.newF (o := .lst (List.replicate j.toNat vs).flatten) (Grow.refl s k) hl
    refine q (.fr (.lst _)) _ B _ g ⟨l, rfl, hl, ?_, k.off hl, _, upd_same, h2.rep _⟩ h.2
    cases z : B l with
    | none => rfl
    | some o => rw [s _ _ z] at hl; cases hl
  · exact h.elim
def dUn (g : Int → Int) (d : DE) : DE := fun σ Q => d σ fun w => match w.d with
  | .int i => Q (.sh (.int (g i)))
  | _ => False
theorem de_neg {B0 H0 : Hp} {a : Expr} {d : DE} {pos : Pos} (h : DEj G p B0 H0 X a d) : DEj G p B0 H0 X (.UnaryOp .USub a pos) (dUn (fun i => -i) d) := by
  refine pe_wk (pe_un un_neg h) fun σ H Q ⟨B, σd, Qd, rl, q, k⟩ => ?_
  refine ⟨B, σd, _, rl, q, fun w v B1 H1 g hw q1 => ?_⟩
  split at q1
  · rename_i i e
    exact ⟨i, hw.int e, k _ _ B1 H1 g w_int q1⟩
  · exact q1.elim

/-! ### comparisons -/
@[irreducible] def fCmp (f : Int → Int → Bool) (g : Str → Str → Bool) : WOp := fun w u Q => match w.d, u.d with
  | .int i, .int j => Q (.sh (.bl (f i j)))
  | .str i, .str j => Q (.sh (.bl (g i j)))
  | _, _ => False
theorem opd_lt : OpD G p X (compareOp .Lt) (fCmp (fun i j => decide (i < j)) fun i j => decide (i.cps.toList < j.cps.toList)) := by
  refine ⟨_, OpR.or op_lt op_lt_str, ?_⟩
  intro B Hs H w u x y Qd Q s k hw hu h q
  unfold fCmp at h
  split at h
  · rename_i i j e1 e2; exact .inl ⟨i, j, hw.int e1, hu.int e2, q _ _ B H (Grow.refl s k) w_bl h⟩
  · rename_i i j e1 e2; exact .inr ⟨i, j, hw.str e1, hu.str e2, q _ _ B H (Grow.refl s k) w_bl h⟩
  · exact h.elim
theorem opd_le : OpD G p X (compareOp .LtE) (fCmp (fun i j => decide (i ≤ j)) fun i j => !decide (j.cps.toList < i.cps.toList)) := by
  refine ⟨_, OpR.or op_le op_le_str, ?_⟩
  intro B Hs H w u x y Qd Q s k hw hu h q
  unfold fCmp at h
  split at h
  · rename_i i j e1 e2; exact .inl ⟨i, j, hw.int e1, hu.int e2, q _ _ B H (Grow.refl s k) w_bl h⟩
  · rename_i i j e1 e2; exact .inr ⟨i, j, hw.str e1, hu.str e2, q _ _ B H (Grow.refl s k) w_bl h⟩
  · exact h.elim
theorem opd_gt : OpD G p X (compareOp .Gt) (fCmp (fun i j => decide (j < i)) fun i j => decide (j.cps.toList < i.cps.toList)) := by
  refine ⟨_, OpR.or op_gt op_gt_str, ?_⟩
  intro B Hs H w u x y Qd Q s k hw hu h q
  unfold fCmp at h
  split at h
  · rename_i i j e1 e2; exact .inl ⟨i, j, hw.int e1, hu.int e2, q _ _ B H (Grow.refl s k) w_bl h⟩
  · rename_i i j e1 e2; exact .inr ⟨i, j, hw.str e1, hu.str e2, q _ _ B H (Grow.refl s k) w_bl h⟩
  · exact h.elim
theorem opd_ge : OpD G p X (compareOp .GtE) (fCmp (fun i j => decide (j ≤ i)) fun i j => !decide (i.cps.toList < j.cps.toList)) := by
  refine ⟨_, OpR.or op_ge op_ge_str, ?_⟩
  intro B Hs H w u x y Qd Q s k hw hu h q
  unfold fCmp at h
  split at h
  · rename_i i j e1 e2; exact .inl ⟨i, j, hw.int e1, hu.int e2, q _ _ B H (Grow.refl s k) w_bl h⟩
  · rename_i i j e1 e2; exact .inr ⟨i, j, hw.str e1, hu.str e2, q _ _ B H (Grow.refl s k) w_bl h⟩
  · exact h.elim
mutual
def D.pd : D → PyData
  | .non => .none
  | .bl b => .bool b
  | .int i => .int i
  | .str x => .str x
  | .tup ds => .tuple (D.pds ds)
  | .lst ds => .list (D.pds ds)
  | _ => .dict []
def D.pds : List D → List PyData
  | [] => []
  | d :: ds => D.pd d :: D.pds ds
end
mutual
def D.flat : D → Bool
  | .non => true
  | .bl _ => true
  | .int _ => true
  | .str x => PyData.strOk x
  | .tup ds => D.flats ds
  | .lst ds => D.flats ds
  | _ => false
def D.flats : List D → Bool
  | [] => true
  | d :: ds => D.flat d && D.flats ds
end
mutual
theorem D.flat_lay : ∀ d : D, d.flat = true → d.pd.canLay0 = true
  | .non, _ => by simp [D.pd, PyData.canLay0]
  | .bl _, _ => by simp [D.pd, PyData.canLay0]
  | .int _, _ => by simp [D.pd, PyData.canLay0]
  | .str _, h => by simpa [D.pd, PyData.canLay0, D.flat] using h
  | .tup ds, h => by
    unfold D.flat at h
    simp [D.pd, PyData.canLay0, D.flats_lay ds h]
  | .lst ds, h => by
    unfold D.flat at h
    simp [D.pd, PyData.canLay0, D.flats_lay ds h]
  | .dct _, h => by simp [D.flat] at h
  | .ins _ _, h => by simp [D.flat] at h
  | .opq, h => by simp [D.flat] at h
theorem D.flats_lay : ∀ ds : List D, D.flats ds = true → PyData.canLayAll0 (D.pds ds) = true
  | [], _ => by simp [D.pds, PyData.canLayAll0]
  | d :: ds, h => by
    unfold D.flats at h
    rw [Bool.and_eq_true] at h
    simp [D.pds, PyData.canLayAll0, D.flat_lay d h.1, D.flats_lay ds h.2]
end
mutual
def D.dep : D → Nat
  | .tup ds => D.deps ds + 1
  | .lst ds => D.deps ds + 1
  | _ => 0
def D.deps : List D → Nat
  | [] => 0
  | d :: ds => max (D.dep d) (D.deps ds)
end
mutual
theorem D.dep_pd : ∀ d : D, d.flat = true → d.pd.depth = d.dep
  | .non, _ => by simp [D.pd, PyData.depth, D.dep]
  | .bl _, _ => by simp [D.pd, PyData.depth, D.dep]
  | .int _, _ => by simp [D.pd, PyData.depth, D.dep]
  | .str _, _ => by simp [D.pd, PyData.depth, D.dep]
  | .tup ds, h => by
    unfold D.flat at h
    simp [D.pd, PyData.depth, D.dep, D.deps_pd ds h]
  | .lst ds, h => by
    unfold D.flat at h
    simp [D.pd, PyData.depth, D.dep, D.deps_pd ds h]
  | .dct _, h => by simp [D.flat] at h
  | .ins _ _, h => by simp [D.flat] at h
  | .opq, h => by simp [D.flat] at h
theorem D.deps_pd : ∀ ds : List D, D.flats ds = true → PyData.depthAll (D.pds ds) = D.deps ds
  | [], _ => by simp [D.pds, PyData.depthAll, D.deps]
  | d :: ds, h => by
    unfold D.flats at h
    rw [Bool.and_eq_true] at h
    simp [D.pds, PyData.depthAll, D.deps, D.dep_pd d h.1, D.deps_pd ds h.2]
end
/-- == is told of it -/
def D.eqOk (d : D) : Prop := d.flat = true ∧ d.dep ≤ 64
theorem D.eqOk.shaped {d : D} (h : d.eqOk) : SeqAt.shaped d.pd = true := by
  unfold SeqAt.shaped
  rw [D.flat_lay d h.1, D.dep_pd d h.1, decide_eq_true h.2]; rfl
mutual
theorem Has.dp {H : Hp} : ∀ (d : D) (v : V), d.flat = true → Has G H d v → Dp G.K H v d.pd
  | .non, v, _, h => by unfold Has at h; subst h; exact .non
  | .bl b, v, _, h => by unfold Has at h; subst h; exact .bl b
  | .int b, v, _, h => by unfold Has at h; subst h; exact .int b
  | .str b, v, _, h => by unfold Has at h; subst h; exact .str b
  | .tup ds, v, f, h => by
    unfold Has at h
    unfold D.flat at f
    obtain ⟨a, vs, rfl, h1, h2⟩ := h
    exact .tup h1 (HasL.dp ds vs f h2)
  | .lst ds, v, f, h => by
    unfold Has at h
    unfold D.flat at f
    obtain ⟨a, vs, rfl, h1, h2⟩ := h
    exact .lst (SqL.of h1) (HasL.dp ds vs f h2)
  | .dct _, _, f, _ => by simp [D.flat] at f
  | .ins _ _, _, f, _ => by simp [D.flat] at f
  | .opq, _, f, _ => by simp [D.flat] at f
theorem HasL.dp {H : Hp} : ∀ (ds : List D) (vs : List V), D.flats ds = true → HasL G H ds vs → DpAll G.K H vs (D.pds ds)
  | [], vs, _, h => by unfold HasL at h; subst h; exact .nil
  | d :: ds, vs, f, h => by
    unfold HasL at h
    unfold D.flats at f
    rw [Bool.and_eq_true] at f
    obtain ⟨v, r, rfl, h1, h2⟩ := h
    exact .cons (Has.dp d v f.1 h1) (HasL.dp ds r f.2 h2)
end
theorem WR.dp {B H Hs : Hp} {w : W} {v : V} (s : Ex B H) (h : WR G p B Hs H w v) (f : w.d.flat = true) : Dp G.K H v w.d.pd := by
  cases w with
  | sh d => exact Has.dp d v f (Has.mono s d v h)
  | fr d =>
    obtain ⟨a, rfl, _, _, _, t⟩ := h
    cases d with
    | lst ds =>
      obtain ⟨vs, e, k⟩ := t
      simp only [W.d, D.flat] at f
      exact .lst (SqL.of e) (HasL.dp ds vs f (k.mono s))
    | dct ks => simp [W.d, D.flat] at f
    | _ => exact t.elim
  | bo d =>
    obtain ⟨a, rfl, _, t⟩ := h
    cases d with
    | lst ds =>
      obtain ⟨vs, e, k⟩ := t
      simp only [W.d, D.flat] at f
      exact .lst (SqL.of e) (HasL.dp ds vs f (k.mono s))
    | dct ks => simp [W.d, D.flat] at f
    | _ => exact t.elim
  | pen => simp [W.d, D.flat] at f
def D.eqv (d e : D) : Bool := PyData.eqv d.pd e.pd
/-- two of one plain kind -/
def D.sc2 : D → D → Bool
  | .non, .non => true
  | .bl _, .bl _ => true
  | .int _, .int _ => true
  | .str _, .str _ => true
  | _, _ => false
def D.cmpOk (d e : D) : Prop := D.sc2 d e = true ∨ (d.eqOk ∧ e.eqOk)
@[irreducible] def fEq (neg : Bool) : WOp := fun w u Q => D.cmpOk w.d u.d ∧ Q (.sh (.bl (if neg then !D.eqv w.d u.d else D.eqv w.d u.d)))
theorem sc2_ok {B H Hs : Hp} {w u : W} {x y : V} (hw : WR G p B Hs H w x) (hu : WR G p B Hs H u y) (e : D.sc2 w.d u.d = true) : scal x y = true ∧ decide (x = y) = D.eqv w.d u.d := by
  unfold D.sc2 at e
  split at e
  · rename_i e1 e2; rw [hw.non e1, hu.non e2, e1, e2]; exact ⟨rfl, by simp [D.eqv, D.pd, PyData.eqv]⟩
  · rename_i a b e1 e2; rw [hw.bl e1, hu.bl e2, e1, e2]; exact ⟨rfl, by rw [dec_bl]; simp [D.eqv, D.pd, PyData.eqv]⟩
  · rename_i a b e1 e2; rw [hw.int e1, hu.int e2, e1, e2]; exact ⟨rfl, by rw [dec_int]; simp [D.eqv, D.pd, PyData.eqv]⟩
  · rename_i a b e1 e2; rw [hw.str e1, hu.str e2, e1, e2]; exact ⟨rfl, by rw [dec_str]; simp [D.eqv, D.pd, PyData.eqv]⟩
  · cases e
theorem opd_eq (hK : X.K = G.K) (hu : X.A.units + 64 < cLine) : OpD G p X (compareOp .Eq) (fEq false) := by
  refine ⟨_, OpR.or op_eq (op_eqD hu), ?_⟩
  intro B Hs H w u x y Qd Q s k hw hu' h q
  unfold fEq at h
  obtain ⟨o, h⟩ := h
  rcases o with o | ⟨o1, o2⟩
  · obtain ⟨e1, e2⟩ := sc2_ok hw hu' o
    exact .inl ⟨e1, by rw [e2]; exact q _ _ B H (Grow.refl s k) w_bl h⟩
  · exact .inr ⟨_, _, by rw [hK]; exact hw.dp s o1.1, by rw [hK]; exact hu'.dp s o2.1, o1.shaped, o2.shaped, q _ _ B H (Grow.refl s k) w_bl h⟩
theorem opd_ne (hK : X.K = G.K) (hu : X.A.units + 64 < cLine) : OpD G p X (compareOp .NotEq) (fEq true) := by
  refine ⟨_, OpR.or op_ne (op_neD hu), ?_⟩
  intro B Hs H w u x y Qd Q s k hw hu' h q
  unfold fEq at h
  obtain ⟨o, h⟩ := h
  rcases o with o | ⟨o1, o2⟩
  · obtain ⟨e1, e2⟩ := sc2_ok hw hu' o
    exact .inl ⟨e1, by rw [e2]; exact q _ _ B H (Grow.refl s k) w_bl h⟩
  · exact .inr ⟨_, _, by rw [hK]; exact hw.dp s o1.1, by rw [hK]; exact hu'.dp s o2.1, o1.shaped, o2.shaped, q _ _ B H (Grow.refl s k) w_bl h⟩

/-! ### is None, is True, is False -/
def D.isS (d e : D) : Option Bool := match e with
  | .non => match d with
    | .non => some true
    | .opq => none
    | _ => some false
  | .bl b => match d with
    | .bl a => some (decide (a = b))
    | .opq => none
    | _ => some false
  | _ => none
@[irreducible] def fIs (neg : Bool) : WOp := fun w u Q => match D.isS w.d u.d with
  | some b => Q (.sh (.bl (if neg then !b else b)))
  | none => False
/-- what a datum's value is like -/
theorem WR.not_non {B H Hs : Hp} {w : W} {v : V} (h : WR G p B Hs H w v) (hd : w.d ≠ .non) (ho : w.d ≠ .opq) : v ≠ .non := by
  cases w with
  | sh d =>
    intro z
    subst z
    cases d <;> first
      | exact hd rfl
      | exact ho rfl
      | (simp [WR, Has] at h)
  | fr d => obtain ⟨a, rfl, _⟩ := h; intro z; cases z
  | bo d => obtain ⟨a, rfl, _⟩ := h; intro z; cases z
  | pen => exact absurd rfl ho
theorem WR.not_bl {B H Hs : Hp} {w : W} {v : V} (h : WR G p B Hs H w v) (hd : ∀ b, w.d ≠ .bl b) (ho : w.d ≠ .opq) (b : Bool) : v ≠ .bl b := by
  cases w with
  | sh d =>
    intro z
    subst z
    cases d <;> first
      | exact hd _ rfl
      | exact ho rfl
      | (simp [WR, Has] at h)
  | fr d => obtain ⟨a, rfl, _⟩ := h; intro z; cases z
  | bo d => obtain ⟨a, rfl, _⟩ := h; intro z; cases z
  | pen => exact absurd rfl ho
/-- is, with None or a bool on the right -/
def rIs (neg : Bool) : R2 := fun x y H Q => (y = .non ∨ ∃ b, y = .bl b) ∧ Q (.bl (if neg then !decide (x = y) else decide (x = y))) H
theorem RelV.beq_bl {x : V} {v : Value} {b : Bool} (r : RelV x v) : (v == Value.bool b) = decide (x = .bl b) := by
  cases x with
  | non => cases r; rfl
  | bl a => cases r; cases a <;> cases b <;> rfl
  | int _ => obtain ⟨t, rfl⟩ := r; rfl
  | str _ => obtain ⟨t, rfl⟩ := r; rfl
  | byt _ => obtain ⟨t, rfl⟩ := r; rfl
  | flt _ => obtain ⟨t, rfl⟩ := r; rfl
  | ref _ => cases r; rfl
  | ty _ => cases r; rfl
theorem plain_bl {x : V} {v : Value} {b : Bool} (r : RelV x v) : plainIs v (Value.bool b) = true := by
  cases x with
  | non => cases r; rfl
  | bl a => cases r; rfl
  | int _ => obtain ⟨t, rfl⟩ := r; rfl
  | str _ => obtain ⟨t, rfl⟩ := r; rfl
  | byt _ => obtain ⟨t, rfl⟩ := r; rfl
  | flt _ => obtain ⟨t, rfl⟩ := r; rfl
  | ref _ => cases r; rfl
  | ty _ => cases r; rfl
theorem op_is : OpR X (compareOp .Is) (rIs false) := by
  intro pins s σ H x y v u Q I rx ry h
  obtain ⟨hy, q⟩ := h
  rcases hy with rfl | ⟨b, rfl⟩
  · exact op_isN pins s σ H x .non v u Q I rx ry ⟨rfl, q⟩
  · cases (show u = Value.bool b from ry)
    exact wpAny_is_plain (plain_bl rx) ⟨.bl (decide (x = .bl b)), H, I, by rw [RelV.beq_bl rx]; rfl, q⟩
theorem op_isNot : OpR X (compareOp .IsNot) (rIs true) := by
  intro pins s σ H x y v u Q I rx ry h
  obtain ⟨hy, q⟩ := h
  rcases hy with rfl | ⟨b, rfl⟩
  · exact op_notN pins s σ H x .non v u Q I rx ry ⟨rfl, q⟩
  · cases (show u = Value.bool b from ry)
    exact wpAny_isNot_plain (plain_bl rx) ⟨.bl (!decide (x = .bl b)), H, I, by rw [RelV.beq_bl rx]; rfl, q⟩
theorem isS_ok {B H Hs : Hp} {w u : W} {x y : V} {b : Bool} (hw : WR G p B Hs H w x) (hu : WR G p B Hs H u y) (e : D.isS w.d u.d = some b) : (y = .non ∨ ∃ b, y = .bl b) ∧ decide (x = y) = b := by
  unfold D.isS at e
  split at e
  · rename_i eu
    have hy := hu.non eu
    subst hy
    refine ⟨.inl rfl, ?_⟩
    split at e
    · rename_i ew; cases e; rw [hw.non ew]; rfl
    · cases e
    · rename_i n1 n2
      cases e
      exact decide_eq_false (hw.not_non n1 n2)
  · rename_i c eu
    have hy := hu.bl eu
    subst hy
    refine ⟨.inr ⟨c, rfl⟩, ?_⟩
    split at e
    · rename_i a ew
      cases e
      rw [hw.bl ew]
      cases a <;> cases c <;> rfl
    · cases e
    · rename_i n1 n2
      cases e
      exact decide_eq_false (hw.not_bl n1 n2 c)
  · cases e
theorem opd_is : OpD G p X (compareOp .Is) (fIs false) := by
  refine ⟨_, op_is, ?_⟩
  intro B Hs H w u x y Qd Q s k hw hu h q
  unfold fIs at h
  split at h
  · rename_i b e
    obtain ⟨h1, h2⟩ := isS_ok hw hu e
    exact ⟨h1, by rw [h2]; exact q _ _ B H (Grow.refl s k) w_bl h⟩
  · exact h.elim
theorem opd_isNot : OpD G p X (compareOp .IsNot) (fIs true) := by
  refine ⟨_, op_isNot, ?_⟩
  intro B Hs H w u x y Qd Q s k hw hu h q
  unfold fIs at h
  split at h
  · rename_i b e
    obtain ⟨h1, h2⟩ := isS_ok hw hu e
    exact ⟨h1, by rw [h2]; exact q _ _ B H (Grow.refl s k) w_bl h⟩
  · exact h.elim
end
end Dl
namespace Dl
open PySem PySem.Spec PyProof.Rows L2

section
variable {G : Gx} {p : Option Addr} {B0 H0 : Hp} {X : Cx}
/-! ### in -/
/-- an item of a list or tuple of plain things, told by == -/
def D.scal : D → Bool
  | .non => true
  | .bl _ => true
  | .int _ => true
  | .str _ => true
  | _ => false
def D.eqS : D → D → Bool
  | .non, .non => true
  | .bl a, .bl b => a == b
  | .bl a, .int b => (if a then 1 else 0) == b
  | .int a, .bl b => a == (if b then 1 else 0)
  | .int a, .int b => a == b
  | .str a, .str b => a == b
  | _, _ => false
def inD (x : D) (xs : List D) : Bool := xs.any fun y => D.eqS y x
def keyOf : D → Option Key
  | .int i => some (.inl i)
  | .str s => some (.inr s)
  | _ => none
def lookD (ks : List (Key × D)) (k : Key) : Option D := (ks.find? fun kv => decide (kv.1 = k)).map (·.2)
@[irreducible] def fIn (neg : Bool) : WOp := fun w u Q => match w.d, u.d with
  | .str i, .str j => Q (.sh (.bl (if neg then !(!(Builtin.Str.occurrences j i 0 j.length 1).isEmpty) else !(Builtin.Str.occurrences j i 0 j.length 1).isEmpty)))
  | d, .lst ds => (d.scal && ds.all D.scal) = true ∧ Q (.sh (.bl (if neg then !inD d ds else inD d ds)))
  | d, .tup ds => (d.scal && ds.all D.scal) = true ∧ Q (.sh (.bl (if neg then !inD d ds else inD d ds)))
  | _, _ => False
theorem scal_v {B : Hp} {d : D} {v : V} (h : Has G B d v) (s : d.scal = true) : flatV v = true := by
  cases d <;> simp [D.scal] at s <;> (unfold Has at h; subst h; rfl)
theorem eqS_v {B : Hp} {d e : D} {v u : V} (h : Has G B d v) (h' : Has G B e u) (s : d.scal = true) (s' : e.scal = true) : eqV v u = D.eqS d e := by
  cases d <;> simp [D.scal] at s <;> cases e <;> simp [D.scal] at s' <;> (unfold Has at h h'; subst h; subst h'; rfl)
theorem all_v {B : Hp} : ∀ {ds : List D} {vs : List V}, HasL G B ds vs → ds.all D.scal = true → vs.all flatV = true
  | [], vs, h, _ => by unfold HasL at h; subst h; rfl
  | d :: ds, vs, h, s => by
    unfold HasL at h
    obtain ⟨v, r, rfl, h1, h2⟩ := h
    simp only [List.all_cons, Bool.and_eq_true] at s ⊢
    exact ⟨scal_v h1 s.1, all_v h2 s.2⟩
theorem in_v {B : Hp} {d : D} {v : V} (hd : Has G B d v) (sd : d.scal = true) : ∀ {ds : List D} {vs : List V}, HasL G B ds vs → ds.all D.scal = true → inV v vs = inD d ds
  | [], vs, h, _ => by unfold HasL at h; subst h; rfl
  | e :: ds, vs, h, s => by
    unfold HasL at h
    obtain ⟨u, r, rfl, h1, h2⟩ := h
    simp only [List.all_cons, Bool.and_eq_true] at s
    have := in_v hd sd h2 s.2
    unfold inV inD at this ⊢
    simp only [List.any_cons]
    rw [this, eqS_v h1 hd s.1 sd]
/-- a plain thing is shared -/
theorem WR.sc {B Hs H : Hp} {w : W} {v : V} (h : WR G p B Hs H w v) (s : w.d.scal = true) : Has G B w.d v := by
  cases w with
  | sh d => exact h
  | fr d =>
    obtain ⟨a, _, _, _, _, t⟩ := h
    cases d <;> simp [W.d, D.scal] at s <;> exact t.elim
  | bo d =>
    obtain ⟨a, _, _, t⟩ := h
    cases d <;> simp [W.d, D.scal] at s <;> exact t.elim
  | pen => simp [W.d, D.scal] at s
theorem opd_in (hK : X.K = G.K) : OpD G p X (compareOp .In) (fIn false) := by
  refine ⟨_, OpR.or op_in_str op_in_seq, ?_⟩
  intro B Hs H w u x y Qd Q s k hw hu h q
  unfold fIn at h
  split at h
  · rename_i i j e1 e2
    exact .inl ⟨i, j, hw.str e1, hu.str e2, q _ _ B H (Grow.refl s k) w_bl h⟩
  · rename_i ds e1
    obtain ⟨a, vs, rfl, h1, h2⟩ := hu.lst s e1
    obtain ⟨h3, h⟩ := h
    rw [Bool.and_eq_true] at h3
    have hx := hw.sc h3.1
    exact .inr ⟨a, vs, rfl, .inl (SqL.of h1), scal_v hx h3.1, all_v h2 h3.2, by rw [in_v hx h3.1 h2 h3.2]; exact q _ _ B H (Grow.refl s k) w_bl h⟩
  · rename_i ds e1
    obtain ⟨a, vs, rfl, h1, h2⟩ := hu.tup e1
    obtain ⟨h3, h⟩ := h
    rw [Bool.and_eq_true] at h3
    have hx := hw.sc h3.1
    exact .inr ⟨a, vs, rfl, .inr (by rw [hK]; exact Evl.ex_t s h1), scal_v hx h3.1, all_v h2 h3.2, by rw [in_v hx h3.1 h2 h3.2]; exact q _ _ B H (Grow.refl s k) w_bl h⟩
  · exact h.elim
theorem opd_notIn (hK : X.K = G.K) : OpD G p X (compareOp .NotIn) (fIn true) := by
  refine ⟨_, OpR.or op_notin_str op_notIn_seq, ?_⟩
  intro B Hs H w u x y Qd Q s k hw hu h q
  unfold fIn at h
  split at h
  · rename_i i j e1 e2
    exact .inl ⟨i, j, hw.str e1, hu.str e2, q _ _ B H (Grow.refl s k) w_bl h⟩
  · rename_i ds e1
    obtain ⟨a, vs, rfl, h1, h2⟩ := hu.lst s e1
    obtain ⟨h3, h⟩ := h
    rw [Bool.and_eq_true] at h3
    have hx := hw.sc h3.1
    exact .inr ⟨a, vs, rfl, .inl (SqL.of h1), scal_v hx h3.1, all_v h2 h3.2, by rw [in_v hx h3.1 h2 h3.2]; exact q _ _ B H (Grow.refl s k) w_bl h⟩
  · rename_i ds e1
    obtain ⟨a, vs, rfl, h1, h2⟩ := hu.tup e1
    obtain ⟨h3, h⟩ := h
    rw [Bool.and_eq_true] at h3
    have hx := hw.sc h3.1
    exact .inr ⟨a, vs, rfl, .inr (by rw [hK]; exact Evl.ex_t s h1), scal_v hx h3.1, all_v h2 h3.2, by rw [in_v hx h3.1 h2 h3.2]; exact q _ _ B H (Grow.refl s k) w_bl h⟩
  · exact h.elim

/-! ### items -/
@[irreducible] def fIx : WOp := fun w u Q => match w.d, u.d with
  | .lst ds, .int i => match atI ds i with
    | some d => Q (.sh d)
    | none => False
  | .tup ds, .int i => match atI ds i with
    | some d => Q (.sh d)
    | none => False
  | .str z, .int i => z.length ≤ sizeLine ∧ match atI z.cps.toList i with
    | some c => Q (.sh (.str (one c)))
    | none => False
  | _, _ => False
theorem atI_has {B : Hp} {ds : List D} {vs : List V} {i : Int} {d : D} (h : HasL G B ds vs) (e : atI ds i = some d) : ∃ v, atI vs i = some v ∧ Has G B d v := by
  unfold atI at e ⊢
  rw [h.len]
  cases q : ixN ds.length i with
  | none => rw [q] at e; cases e
  | some j =>
    rw [q] at e
    exact h.at (show ds[j]? = some d from e)
theorem ixd (hK : X.K = G.K) : ∃ r, IxR X r ∧ SimR G p r fIx := by
  refine ⟨_, ix_seq, ?_⟩
  intro B Hs H w u x y Qd Q s k hw hu h q
  unfold fIx at h
  split at h
  · rename_i ds i e1 e2
    split at h
    · rename_i d e
      obtain ⟨a, vs, rfl, h1, h2⟩ := hw.lst s e1
      obtain ⟨v, e3, hv⟩ := atI_has h2 e
      exact .inl ⟨a, vs, i, v, rfl, hu.int e2, SqL.of h1, e3, q _ _ B H (Grow.refl s k) (fin_sh hv) h⟩
    · exact h.elim
  · rename_i ds i e1 e2
    split at h
    · rename_i d e
      obtain ⟨a, vs, rfl, h1, h2⟩ := hw.tup e1
      obtain ⟨v, e3, hv⟩ := atI_has h2 e
      exact .inr (.inl ⟨a, vs, i, v, rfl, hu.int e2, by rw [hK]; exact Evl.ex_t s h1, e3, q _ _ B H (Grow.refl s k) (fin_sh hv) h⟩)
    · exact h.elim
  · rename_i z i e1 e2
    obtain ⟨hz, h⟩ := h
    split at h
    · rename_i c e
      exact .inr (.inr ⟨z, i, c, hw.str e1, hu.int e2, hz, e, q _ _ B H (Grow.refl s k) w_str h⟩)
    · exact h.elim
  · exact h.elim

/-! ### slices -/
def cutD (xs : List D) (lo hi : Option Int) : List D := (xs.drop (HT.sIx xs.length 0 lo)).take (HT.sIx xs.length xs.length hi - HT.sIx xs.length 0 lo)
@[irreducible] def fSl : WSl := fun w lo hi Q => match w.d with
  | .lst ds => Q (.fr (.lst (cutD ds lo hi)))
  | .tup ds => Q (.sh (.tup (cutD ds lo hi)))
  | .str z => z.length ≤ sizeLine ∧ Q (.sh (.str (cutS z lo hi)))
  | _ => False
theorem cut_has {B : Hp} {ds : List D} {vs : List V} {lo hi : Option Int} (h : HasL G B ds vs) : HasL G B (cutD ds lo hi) (cutV vs lo hi) := by
  unfold cutD cutV
  rw [h.len]
  exact (h.drop _).take _
theorem sld (hK : X.K = G.K) : ∃ r, SlR X r ∧ SimSl G p r fSl := by
  refine ⟨_, SlR.or sl_list (SlR.or sl_tupA sl_str), ?_⟩
  intro B Hs H w x lo hi Qd Q g0 hb hw h q
  have s := g0.sub
  unfold fSl at h
  split at h
  · rename_i ds e
    obtain ⟨a, vs, rfl, h1, h2⟩ := hw.lst s e
    refine .inl ⟨a, vs, rfl, SqL.of h1, fun l hl => ?_⟩
    refine q (.fr (.lst _)) _ B _ (g0.newF (o := .lst (cutV vs lo hi)) hl) ⟨l, rfl, hl, ?_, g0.pen.off hl, _, upd_same, cut_has h2⟩ h
    cases z : B l with
    | none => rfl
    | some o => rw [s _ _ z] at hl; cases hl
  · rename_i ds e
    obtain ⟨a, vs, rfl, h1, h2⟩ := hw.tup e
    refine .inr (.inl ⟨a, vs, rfl, by rw [hK]; exact Evl.ex_t s h1, fun c => ?_, fun c l hl => ?_⟩)
    · refine q (.sh (.tup (cutD ds lo hi))) _ B H g0 ?_ h
      have : cutD ds lo hi = ds := by
        unfold cutD
        rw [h2.len] at c
        rw [c.1, c.2]
        simp
      rw [this]
      show Has G B (.tup ds) _
      unfold Has
      exact ⟨a, vs, rfl, h1, h2⟩
    · obtain ⟨g, x'⟩ := g0.newS (o := .tup (cutV vs lo hi)) hl
      exact q (.sh (.tup (cutD ds lo hi))) _ _ _ g (by show Has _ _ (.tup _) _; unfold Has; exact ⟨l, _, rfl, SqT.of upd_same, (cut_has h2).mono x'⟩) h
  · rename_i z e
    exact .inr (.inr ⟨z, hw.str e, h.1, q _ _ B H g0 w_str h.2⟩)
  · exact h.elim

/-! ### built-ins -/
/-- the common frame of a call's simulation -/
theorem WRs.one {B Hs H : Hp} {w : W} {vs : List V} (h : WRs G p B Hs H [w] vs) : ∃ v, vs = [v] ∧ WR G p B Hs H w v := by
  obtain ⟨v, r, rfl, h1, _, h2⟩ := h
  cases h2
  exact ⟨v, rfl, h1⟩
theorem WRs.two {B Hs H : Hp} {w u : W} {vs : List V} (h : WRs G p B Hs H [w, u] vs) : ∃ v v', vs = [v, v'] ∧ WR G p B Hs H w v ∧ WR G p B Hs H u v' := by
  obtain ⟨v, r, rfl, h1, _, v', r', rfl, h2, _, h3⟩ := h
  cases h3
  exact ⟨v, v', rfl, h1, h2⟩
@[irreducible] def fLen : Fd := fun ws Q => match ws with
  | [w] => match w.d with
    | .lst ds => Q (.sh (.int (ds.length : Int)))
    | .tup ds => Q (.sh (.int (ds.length : Int)))
    | .str z => z.length ≤ sizeLine ∧ Q (.sh (.int (z.length : Int)))
    | .dct ks => Q (.sh (.int (ks.length : Int)))
    | _ => False
  | _ => False
theorem HasK.len {B : Hp} : ∀ {ds : List (Key × D)} {vs : List (Key × V)}, HasK G B ds vs → vs.length = ds.length
  | [], _, h => by unfold HasK at h; subst h; rfl
  | (k, d) :: ds, _, h => by
    unfold HasK at h
    obtain ⟨v, r, rfl, _, h2⟩ := h
    simp [HasK.len h2]
theorem callR_or {f : Value} {r r' : List V → Hp → VK → Prop} (h : CallR X f r) (h' : CallR X f r') : CallR X f (fun xs H Q => r xs H Q ∨ r' xs H Q) := fun pins s σ H xs us Q I rv q => by
  rcases q with q | q
  · exact h pins s σ H xs us Q I rv q
  · exact h' pins s σ H xs us Q I rv q
theorem bd_len (hK : X.K = G.K) : CallD G p X (.builtin "len") fLen := by
  refine ⟨_, callR_or call_len call_lenD, ?_⟩
  intro B Hs H ws vs Qd Q g0 hb hws h q
  unfold fLen at h
  split at h
  · rename_i w
    obtain ⟨v, rfl, hw⟩ := hws.one
    split at h
    · rename_i ds e
      obtain ⟨a, us, rfl, h1, h2⟩ := hw.lst g0.sub e
      exact .inl ⟨_, _, rfl, .inl ⟨us, SqL.of h1, h2.len.symm⟩, q _ _ B H g0 w_int h⟩
    · rename_i ds e
      obtain ⟨a, us, rfl, h1, h2⟩ := hw.tup e
      exact .inl ⟨_, _, rfl, .inr ⟨us, by rw [hK]; exact Evl.ex_t g0.sub h1, h2.len.symm⟩, q _ _ B H g0 w_int h⟩
    · rename_i z e
      rw [hw.str e]
      exact .inl ⟨_, _, rfl, ⟨h.1, rfl⟩, q _ _ B H g0 w_int h.2⟩
    · rename_i ks e
      obtain ⟨a, us, rfl, h1, h2⟩ := hw.dct g0.sub e
      exact .inr ⟨a, us, rfl, h1, by rw [h2.len]; exact q _ _ B H g0 w_int h⟩
    · exact h.elim
  · exact h.elim
def fInt : Fd := fun ws Q => match ws with
  | [.sh (.int i)] => Q (.sh (.int i))
  | [.sh (.bl b)] => Q (.sh (.int (if b then 1 else 0)))
  | _ => False
theorem bd_int : CallD G p X (.type "int") fInt := by
  refine ⟨_, call_int1, ?_⟩
  intro B Hs H ws vs Qd Q g0 hb hws h q
  unfold fInt at h
  split at h
  · obtain ⟨v, rfl, hw⟩ := hws.one
    exact .inl ⟨_, by rw [hw.int rfl], q _ _ B H g0 w_int h⟩
  · obtain ⟨v, rfl, hw⟩ := hws.one
    exact .inr ⟨_, by rw [hw.bl rfl], q _ _ B H g0 w_int h⟩
  · exact h.elim
def fTuple : Fd := fun ws Q => match ws with
  | [w] => match w.d with
    | .lst ds => Q (.sh (.tup ds))
    | .tup ds => Q (.sh (.tup ds))
    | _ => False
  | _ => False
theorem bd_tuple (hK : X.K = G.K) : CallD G p X (.type "tuple") fTuple := by
  refine ⟨_, call_tuple_of, ?_⟩
  intro B Hs H ws vs Qd Q g0 hb hws h q
  unfold fTuple at h
  split at h
  · rename_i w
    obtain ⟨v, rfl, hw⟩ := hws.one
    split at h
    · rename_i ds e
      obtain ⟨a, us, rfl, h1, h2⟩ := hw.lst g0.sub e
      refine ⟨a, us, rfl, .inl ⟨SqL.of h1, fun l hl => ?_⟩⟩
      obtain ⟨g, x'⟩ := g0.newS (o := .tup us) hl
      exact q (.sh (.tup ds)) _ _ _ g (by show Has _ _ (.tup _) _; unfold Has; exact ⟨l, _, rfl, SqT.of upd_same, h2.mono x'⟩) h
    · rename_i ds e
      obtain ⟨a, us, rfl, h1, h2⟩ := hw.tup e
      exact ⟨a, us, rfl, .inr ⟨by rw [hK]; exact Evl.ex_t g0.sub h1, q (.sh (.tup ds)) _ B H g0 (by show Has _ _ (.tup _) _; unfold Has; exact ⟨a, us, rfl, h1, h2⟩) h⟩⟩
    · exact h.elim
  · exact h.elim
/-- the signs of a text, as the model lays them -/
theorem signs_vals {z : Str} {acc : Array Value} (h : ItemsOf (SignAt z) acc z.cps.size) : Vals (z.cps.toList.map fun c => V.str (one c)) acc.toList := by
  have key : ∀ (cs : List Nat) (us : List Value), us.length = cs.length → (∀ (j : Nat) (v : Value), us[j]? = some v → ∃ c u, cs[j]? = some c ∧ v = .str ⟨#[c]⟩ u) → Vals (cs.map fun c => V.str (one c)) us := by
    intro cs
    induction cs with
    | nil => intro us hl _; rw [List.length_eq_zero_iff.mp hl]; exact .nil
    | cons c cs ih =>
      intro us hl hv
      cases us with
      | nil => simp at hl
      | cons u us =>
        obtain ⟨c', t, h1, h2⟩ := hv 0 u rfl
        simp at h1
        subst h1
        exact .cons ⟨t, h2⟩ (ih us (by simpa using hl) fun j v hj => by simpa using hv (j + 1) v (by simpa using hj))
  refine key z.cps.toList acc.toList (by simp [h.1]) fun j v hj => ?_
  obtain ⟨c, u, h1, h2⟩ := h.2 j v (by simpa using hj)
  exact ⟨c, u, by simpa using h1, h2⟩
/-- list(text) -/
theorem call_list_text (hc : X.calm = true) : CallR X (.type "list") (fun xs H Q => ∃ z : Str, xs = [.str z] ∧ z.length ≤ sizeLine ∧ ∀ l, H l = none → Q (.ref l) (upd H l (.lst (z.cps.toList.map fun c => V.str (one c))))) := by
  intro pins s σ H xs us Q I r h
  obtain ⟨z, rfl, hz, q⟩ := h
  obtain ⟨u, rfl, rx⟩ := vals1 r
  obtain ⟨t, rfl⟩ := rx
  refine call_list_str (I.ok.hd hc) z t (fun h' tk acc' c' hk ho hi => ?_) hz
  exact ⟨.ref s.heap.objs.size, _, I.laid (t' := tk) hk (Nat.le_refl _) (show ObjOk X.prog X.w _ h' _ (.lst _) from ⟨by rw [List.length_map]; simpa [Str.length] using hz, acc'.toList, c', signs_vals hi, by simpa using ho⟩), rfl, q _ (I.hok.fresh (Nat.le_refl _))⟩
theorem signs_has {B : Hp} (z : Str) : HasL G B (signsOf z) (z.cps.toList.map fun c => V.str (one c)) := by
  unfold signsOf
  induction z.cps.toList with
  | nil => exact .nil
  | cons c cs ih => exact .cons h_str ih
@[irreducible] def fList : Fd := fun ws Q => match ws with
  | [w] => match w.d with
    | .lst ds => Q (.fr (.lst ds))
    | .tup ds => Q (.fr (.lst ds))
    | .str z => z.length ≤ sizeLine ∧ Q (.fr (.lst (signsOf z)))
    | _ => False
  | _ => False
theorem off_base {B H : Hp} (s : Ex B H) {l : Addr} (hl : H l = none) : B l = none := by
  cases z : B l with
  | none => rfl
  | some o => rw [s _ _ z] at hl; cases hl
/-- a new list of told items -/
theorem w_new {B H : Hp} (g0 : Grow G p B H B H) {l : Addr} (hl : H l = none) {ds : List D} {vs : List V} (h : HasL G B ds vs) : Grow G p B H B (upd H l (.lst vs)) ∧ WR G p B H (upd H l (.lst vs)) (.fr (.lst ds)) (.ref l) :=
  ⟨g0.newF hl, l, rfl, hl, off_base g0.sub hl, g0.pen.off hl, vs, upd_same, h⟩
theorem bd_list (hK : X.K = G.K) (hc : X.calm = true) : CallD G p X (.type "list") fList := by
  refine ⟨_, callR_or call_list_of (call_list_text hc), ?_⟩
  intro B Hs H ws vs Qd Q g0 hb hws h q
  unfold fList at h
  split at h
  · rename_i w
    obtain ⟨v, rfl, hw⟩ := hws.one
    split at h
    · rename_i ds e
      obtain ⟨a, us, rfl, h1, h2⟩ := hw.lst g0.sub e
      refine .inl ⟨a, us, rfl, .inl (SqL.of h1), fun l hl => ?_⟩
      exact q _ _ B _ (w_new g0 hl h2).1 (w_new g0 hl h2).2 h
    · rename_i ds e
      obtain ⟨a, us, rfl, h1, h2⟩ := hw.tup e
      refine .inl ⟨a, us, rfl, .inr (by rw [hK]; exact Evl.ex_t g0.sub h1), fun l hl => ?_⟩
      exact q _ _ B _ (w_new g0 hl h2).1 (w_new g0 hl h2).2 h
    · rename_i z e
      refine .inr ⟨z, by rw [hw.str e], h.1, fun l hl => ?_⟩
      exact q _ _ B _ (w_new g0 hl (signs_has z)).1 (w_new g0 hl (signs_has z)).2 h.2
    · exact h.elim
  · exact h.elim
/-- sums and truths of lists -/
def intsOf : List D → Option (List Int)
  | [] => some []
  | .int i :: r => (intsOf r).map (i :: ·)
  | _ => none
def blsOf : List D → Option (List Bool)
  | [] => some []
  | .bl i :: r => (blsOf r).map (i :: ·)
  | _ => none
def strsOf : List D → Option (List Str)
  | [] => some []
  | .str i :: r => (strsOf r).map (i :: ·)
  | _ => none
theorem intsOf_map (ns : List Int) : intsOf (ns.map D.int) = some ns := by
  induction ns with
  | nil => rfl
  | cons n r ih => simp [intsOf, ih]
theorem blsOf_map (ns : List Bool) : blsOf (ns.map D.bl) = some ns := by
  induction ns with
  | nil => rfl
  | cons n r ih => simp [blsOf, ih]
theorem strsOf_map (ns : List Str) : strsOf (ns.map D.str) = some ns := by
  induction ns with
  | nil => rfl
  | cons n r ih => simp [strsOf, ih]
theorem of_intsOf : ∀ {ds : List D} {ns : List Int}, intsOf ds = some ns → ds = ns.map D.int
  | [], ns, h => by cases h; rfl
  | d :: r, ns, h => by
    cases d <;> simp only [intsOf, Option.map_eq_some_iff, reduceCtorEq] at h
    obtain ⟨m, h1, rfl⟩ := h
    rw [of_intsOf h1]; rfl
theorem of_blsOf : ∀ {ds : List D} {ns : List Bool}, blsOf ds = some ns → ds = ns.map D.bl
  | [], ns, h => by cases h; rfl
  | d :: r, ns, h => by
    cases d <;> simp only [blsOf, Option.map_eq_some_iff, reduceCtorEq] at h
    obtain ⟨m, h1, rfl⟩ := h
    rw [of_blsOf h1]; rfl
theorem of_strsOf : ∀ {ds : List D} {ns : List Str}, strsOf ds = some ns → ds = ns.map D.str
  | [], ns, h => by cases h; rfl
  | d :: r, ns, h => by
    cases d <;> simp only [strsOf, Option.map_eq_some_iff, reduceCtorEq] at h
    obtain ⟨m, h1, rfl⟩ := h
    rw [of_strsOf h1]; rfl
@[irreducible] def fSum : Fd := fun ws Q => match ws with
  | [w] => match w.d with
    | .lst ds => match intsOf ds with
      | some ns => Q (.sh (.int ns.sum))
      | none => False
    | .tup ds => match intsOf ds with
      | some ns => Q (.sh (.int ns.sum))
      | none => False
    | _ => False
  | _ => False
/-- sum of a tuple of ints -/
theorem cr_sumT (hc : X.calm = true) : CallR X (.builtin "sum") (fun vs H Q => ∃ (a : Addr) (ns : List Int), vs = [V.ref a] ∧ SqT X.K H a (ns.map V.int) ∧ Q (.int ns.sum) H) := by
  intro pins s σ H vs us Q I r h
  obtain ⟨a, ns, rfl, hs, q⟩ := h
  obtain ⟨its, rv, hl, _⟩ := I.tuple hs
  rw [Vals.ref1 r]
  obtain ⟨xs, e⟩ := rv.ints.allInts.items
  have hn : numsOf (intItems xs).toList = ns := by rw [← e]; exact rv.ints.numsOf
  rw [nums_intItems] at hn
  rw [e] at hl
  refine PySem.W.ktm_sumG (I.ok.hd hc) hl fun h' tk t' hk => ?_
  rw [preSum_eq, List.take_of_length_le (by simp), hn]
  exact ⟨.int _, H, I.kept hk, ⟨_, rfl⟩, q⟩
theorem bd_sum (hK : X.K = G.K) (hc : X.calm = true) : CallD G p X (.builtin "sum") fSum := by
  refine ⟨_, callR_or (cr_sum hc) (cr_sumT hc), ?_⟩
  intro B Hs H ws vs Qd Q g0 hb hws h q
  unfold fSum at h
  split at h
  · rename_i w
    obtain ⟨v, rfl, hw⟩ := hws.one
    split at h
    · rename_i ds e
      split at h
      · rename_i ns en
        obtain ⟨a, us, rfl, h1, h2⟩ := hw.lst g0.sub e
        rw [of_intsOf en] at h2
        have := h2.ints
        subst this
        exact .inl ⟨a, ns, rfl, SqL.of h1, q _ _ B H g0 w_int h⟩
      · exact h.elim
    · rename_i ds e
      split at h
      · rename_i ns en
        obtain ⟨a, us, rfl, h1, h2⟩ := hw.tup e
        rw [of_intsOf en] at h2
        have := h2.ints
        subst this
        exact .inr ⟨a, ns, rfl, by rw [hK]; exact Evl.ex_t g0.sub h1, q _ _ B H g0 w_int h⟩
      · exact h.elim
    · exact h.elim
  · exact h.elim
@[irreducible] def fTruths (f : List Bool → Bool) : Fd := fun ws Q => match ws with
  | [w] => match w.d with
    | .lst ds => match blsOf ds with
      | some ns => Q (.sh (.bl (f ns)))
      | none => False
    | _ => False
  | _ => False
theorem bd_all (hc : X.calm = true) : CallD G p X (.builtin "all") (fTruths fun bs => bs.all id) := by
  refine ⟨_, cr_all hc, ?_⟩
  intro B Hs H ws vs Qd Q g0 hb hws h q
  unfold fTruths at h
  split at h
  · rename_i w
    obtain ⟨v, rfl, hw⟩ := hws.one
    split at h
    · rename_i ds e
      split at h
      · rename_i ns en
        obtain ⟨a, us, rfl, h1, h2⟩ := hw.lst g0.sub e
        rw [of_blsOf en] at h2
        have := h2.bls
        subst this
        exact ⟨a, ns, rfl, SqL.of h1, q _ _ B H g0 w_bl h⟩
      · exact h.elim
    · exact h.elim
  · exact h.elim
theorem bd_any (hc : X.calm = true) : CallD G p X (.builtin "any") (fTruths fun bs => bs.any id) := by
  refine ⟨_, cr_any hc, ?_⟩
  intro B Hs H ws vs Qd Q g0 hb hws h q
  unfold fTruths at h
  split at h
  · rename_i w
    obtain ⟨v, rfl, hw⟩ := hws.one
    split at h
    · rename_i ds e
      split at h
      · rename_i ns en
        obtain ⟨a, us, rfl, h1, h2⟩ := hw.lst g0.sub e
        rw [of_blsOf en] at h2
        have := h2.bls
        subst this
        exact ⟨a, ns, rfl, SqL.of h1, q _ _ B H g0 w_bl h⟩
      · exact h.elim
    · exact h.elim
  · exact h.elim
end
end Dl
namespace Dl
open PySem PySem.Spec PyProof.Rows L2

section
variable {G : Gx} {p : Option Addr} {B0 H0 : Hp} {X : Cx}
def signStrs (z : Str) : List Str := z.cps.toList.map one
theorem signs_strs (z : Str) : (z.cps.toList.map fun c => V.str (one c)) = (signStrs z).map V.str := by
  unfold signStrs
  rw [List.map_map]; rfl
/-- sorted(text) -/
theorem call_sorted_text (hc : X.calm = true) : CallR X (.builtin "sorted") (fun xs H Q => ∃ z : Str, xs = [.str z] ∧ z.length < 64 ∧ ∀ (ys : List Str) (l : Addr), ys.Perm (signStrs z) → sortedS ys = true → H l = none → Q (.ref l) (upd H l (.lst (ys.map V.str)))) := by
  intro pins s σ H xs us Q I r h
  obtain ⟨z, rfl, hz, q⟩ := h
  obtain ⟨u, rfl, rx⟩ := vals1 r
  obtain ⟨t, rfl⟩ := rx
  refine Calls.call_function_entry kind_sorted plain_sorted entry_sorted (args_sorted1 _) (show wpAny _ _ (Builtin.«sorted» _) _ _ _ from ?_)
  unfold Builtin.«sorted»
  refine wpAny_bind (m := checkCount "sorted" 1 1 _) (wpAny_pure (wpAny_bind (wpAny_collect_str (A := X.A.in1) (show X.A.in1.handled = none from I.ok.hd hc) z t (fun s1 acc hk hg hd ho hi => ?_) (Nat.le_trans (Nat.le_of_lt hz) (by decide)))))
  have hv := signs_vals hi
  rw [signs_strs] at hv
  have hS := hv.strs
  have hl : acc.toList.length < 64 := by
    have e := hi.1
    simp only [Array.length_toList]
    rw [e]; exact hz
  refine wpAny_bind (wpAny_newList (hsz := Nat.le_trans (Nat.le_of_lt hl) (by decide)) (show wpAny _ _ _ _ _ _ from ?_))
  have hoL : (s1.heap.push (seqObj "list" acc.toList.toArray 0)).get? s1.heap.objs.size = some (seqObj "list" acc.toList.toArray 0) := Heap.get?_push_size _ rfl
  refine wpAny_bind (wpAny_holding (wpAny_call_entry slot_list_sort ⟨_, hoL, rfl⟩ entry_list_sort (list_sort_treeK strKind_oneLt hoL hS.keysOf (fun v₁ v₂ rest e => keyKind_strs (by rw [← e]; exact hS)) hl fun st' a1 a2 => ⟨_, rfl, ?_⟩) (args_list_sort _)))
  obtain ⟨ys, g1, g2, g3⟩ := sorted_out_str hS a1 a2
  obtain ⟨ep, he⟩ := PyProof.Rows.sortedHeap_at (vs := acc.toList) (out := (arrOf st').map (·.2)) hoL
  obtain ⟨h1, gn, dr, tk, os⟩ := s1
  dsimp only at hg hd ho hk hoL he
  subst hg hd ho
  have I1 := I.kept (t' := tk) hk
  have hlen : (ys.map V.str).length ≤ sizeLine := by
    rw [List.length_map, g2.length_eq]
    have : (signStrs z).length < 64 := by
      unfold signStrs
      rw [List.length_map]; simpa [Str.length] using hz
    exact Nat.le_trans (Nat.le_of_lt this) (by decide)
  have nf : H h1.objs.size = none := I1.hok.fresh (Nat.le_refl _)
  refine wpAny_pure ⟨_, rfl, .ref h1.objs.size, _, I1.laid (t' := tk) (fun b o e => ?_) (Nat.le_refl _) (show ObjOk X.prog X.w _ _ _ (.lst (ys.map V.str)) from ⟨hlen, ((arrOf st').map (·.2)).toList, ep, vals_of_strs g1, by rw [Array.toArray_toList]; exact he⟩), rfl, q ys _ g2 g3 nf⟩
  have hb : b ≠ h1.objs.size := Nat.ne_of_lt (Heap.lt_size e)
  have e1 : (h1.push (seqObj "list" acc.toList.toArray 0)).get? b = some o := Heap.get?_push_of_some _ e
  rw [PyProof.Rows.sortedHeap_old hb (Heap.lt_size e1)]
  exact e1
end
end Dl
namespace Dl
open PySem PySem.Spec PyProof.Rows L2

section
variable {G : Gx} {p : Option Addr} {B0 H0 B H : Hp} {X : Cx} {a b c e o : Expr} {es : List Expr} {da db d dk : DE} {ds : DA} {pos : Pos} {σd : DSt} {σ : St}

/-! ### sorted, isinstance, min, max -/
/-- sorted: every arrangement that the order lets -/
@[irreducible] def fSorted : Fd := fun ws Q => match ws with
  | [w] => match w.d with
    | .str z => z.length < 64 ∧ ∀ ys : List Str, ys.Perm (signStrs z) → sortedS ys = true → Q (.fr (.lst (ys.map .str)))
    | .lst ds => (∃ ns, ds = ns.map D.int ∧ ∀ ms : List Int, ms.Perm ns → ms.Pairwise (· ≤ ·) → Q (.fr (.lst (ms.map .int)))) ∨
        ∃ zs : List Str, ds = zs.map D.str ∧ zs.length < 64 ∧ ∀ ys : List Str, ys.Perm zs → sortedS ys = true → Q (.fr (.lst (ys.map .str)))
    | _ => False
  | _ => False
theorem bd_sorted (hc : X.calm = true) : CallD G p X (.builtin "sorted") fSorted := by
  refine ⟨_, callR_or (call_sorted_text hc) (callR_or cr_sortedI cr_sortedS), ?_⟩
  intro B Hs H ws vs Qd Q g0 hb hws h q
  unfold fSorted at h
  split at h
  · rename_i w
    obtain ⟨v, rfl, hw⟩ := hws.one
    split at h
    · rename_i z e
      refine .inl ⟨z, by rw [hw.str e], h.1, fun ys l h1 h2 hl => ?_⟩
      have k := w_new g0 hl (hasL_strs (G := G) (B := B) ys)
      exact q _ _ B _ k.1 k.2 (h.2 ys h1 h2)
    · rename_i ds e
      obtain ⟨a, us, rfl, h1, h2⟩ := hw.lst g0.sub e
      rcases h with ⟨ns, rfl, h⟩ | ⟨zs, rfl, h64, h⟩
      · have := h2.ints
        subst this
        refine .inr (.inl ⟨a, ns, rfl, SqL.of h1, fun ms l h3 h4 hl => ?_⟩)
        have k := w_new g0 hl (hasL_ints (G := G) (B := B) ms)
        exact q _ _ B _ k.1 k.2 (h ms h3 h4)
      · have := h2.strs
        subst this
        refine .inr (.inr ⟨a, zs, rfl, SqL.of h1, h64, fun ms l h3 h4 hl => ?_⟩)
        have k := w_new g0 hl (hasL_strs (G := G) (B := B) ms)
        exact q _ _ B _ k.1 k.2 (h ms h3 h4)
    · exact h.elim
  · exact h.elim
/-- the built-in type of a datum -/
def D.tyn : D → Option String
  | .non => some "NoneType"
  | .bl _ => some "bool"
  | .int _ => some "int"
  | .str _ => some "str"
  | .tup _ => some "tuple"
  | .lst _ => some "list"
  | .dct _ => some "dict"
  | _ => none
def isiB (t T : String) : Bool := t == T || (t == "bool" && T == "int")
theorem tyx_of (hK : X.K = G.K) {Hs : Hp} {w : W} {v : V} {t : String} (s : Ex B H) (h : WR G p B Hs H w v) (e : w.d.tyn = some t) : TyX X.K H v (.type t) := by
  cases q : w.d with
  | non => rw [q] at e; cases e; rw [h.non q]; exact .base .non
  | bl b => rw [q] at e; cases e; rw [h.bl q]; exact .base (.bl b)
  | int b => rw [q] at e; cases e; rw [h.int q]; exact .base (.int b)
  | str b => rw [q] at e; cases e; rw [h.str q]; exact .base (.str b)
  | tup ds =>
    rw [q] at e; cases e
    obtain ⟨a, vs, rfl, h1, _⟩ := h.tup q
    rcases Evl.ex_t s h1 with (h2 | ⟨o, h2⟩) | ⟨o, its, n, h2, h3, _⟩
    · exact .base (.tup h2)
    · exact .fTuple h2
    · exact .kTuple (by rw [hK]; exact h2) h3
  | lst ds =>
    rw [q] at e; cases e
    obtain ⟨a, vs, rfl, h1, _⟩ := h.lst s q
    exact .base (.lst h1)
  | dct ds =>
    rw [q] at e; cases e
    obtain ⟨a, vs, rfl, h1, _⟩ := h.dct s q
    exact .base (.dK h1)
  | ins c fs => rw [q] at e; cases e
  | opq => rw [q] at e; cases e
def dIsi (T : String) (d : DE) : DE := fun σ Q => d σ fun w => match w.d.tyn with
  | some t => Q (.sh (.bl (isiB t T)))
  | none => False
theorem kit_tab {t T : String} (ht : t ∈ ["NoneType", "bool", "int", "str", "tuple", "list", "dict"]) (hT : T ∈ ["bool", "int", "str", "tuple", "list", "dict"]) : kitB t T = some (isiB t T) := by
  simp only [List.mem_cons, List.not_mem_nil, or_false] at ht hT
  rcases ht with rfl | rfl | rfl | rfl | rfl | rfl | rfl <;> rcases hT with rfl | rfl | rfl | rfl | rfl | rfl <;> decide +kernel
theorem tyn_mem {d : D} {t : String} (e : d.tyn = some t) : t ∈ ["NoneType", "bool", "int", "str", "tuple", "list", "dict"] := by
  cases d <;> cases e <;> decide
theorem de_isi (hK : X.K = G.K) {T : String} {x : Str} {pi pT : Pos} (hT : T ∈ ["bool", "int", "str", "tuple", "list", "dict"]) (hg : Gl X "isinstance") (hm : X.mg "isinstance" = none) (hgT : Gl X x) (hmT : X.mg x = none) (hvT : bootBuiltins x = some (.type T)) (ha : DEj G p B0 H0 X e d)
    (hn : x ≠ "__name__" := by decide) (hdb : (x == ("__debug__" : Str)) = false := by decide)
    (h1 : starEach [e, .Name x pT] X.env = (false, eval e X.env) :: starEach [.Name x pT] X.env := by rfl) (h2 : starEach [.Name x pT] X.env = (false, eval (.Name x pT) X.env) :: starEach [] X.env := by rfl) (hpl : (backTo pos (starEach [.Name x pT] X.env)).any (·.1) = false := by rfl) :
    DEj G p B0 H0 X (.Call (.Name "isinstance" pi) [e, .Name x pT] [] pos) (dIsi T d) := by
  have hb : PE X (.Name x pT) (tC (.ty T)) := pe_bltn hgT hmT hvT rfl hn hdb
  refine pe_wk (pe_callB call_isi hg hm (by decide +kernel) (pa_cons ha (pa_cons hb pa_nil h2) h1) (by decide) (by decide) h1 hpl) fun σ H Q ⟨B, σd, Qd, rl, q, k⟩ => ?_
  refine ⟨B, σd, _, rl, q, fun w v B1 H1 g hw q1 => ?_⟩
  split at q1
  · rename_i t e
    exact ⟨v, .ty T, .type t, .type T, isiB t T, rfl, .ty T, tyx_of hK g.sub hw e, kit_ty (kit_tab (tyn_mem e) hT), k _ _ B1 H1 g w_bl q1⟩
  · exact q1.elim
def fMm (g : Int → Int → Int) : Fd := fun ws Q => match ws with
  | [.sh (.int i), .sh (.int j)] => Q (.sh (.int (g i j)))
  | _ => False
theorem bd_max2 (hc : X.calm = true) : CallD G p X (.builtin "max") (fMm fun i j => if j > i then j else i) := by
  refine ⟨_, call_max2 hc, ?_⟩
  intro B Hs H ws vs Qd Q g0 hb hws h q
  unfold fMm at h
  split at h
  · obtain ⟨v, v', rfl, h1, h2⟩ := hws.two
    exact ⟨_, _, by rw [h1.int rfl, h2.int rfl], q _ _ B H g0 w_int h⟩
  · exact h.elim
theorem bd_min2 (hc : X.calm = true) : CallD G p X (.builtin "min") (fMm fun i j => if j < i then j else i) := by
  refine ⟨_, call_min2 hc, ?_⟩
  intro B Hs H ws vs Qd Q g0 hb hws h q
  unfold fMm at h
  split at h
  · obtain ⟨v, v', rfl, h1, h2⟩ := hws.two
    exact ⟨_, _, by rw [h1.int rfl, h2.int rfl], q _ _ B H g0 w_int h⟩
  · exact h.elim

/-! ### methods that change nothing -/
@[irreducible] def mJoin : W → Fd := fun w ws Q => match w.d, ws with
  | .str a, [u] => (∃ ys : List Str, (u.d = .lst (ys.map .str) ∨ u.d = .tup (ys.map .str)) ∧ (ys.map (·.length)).sum + ys.length * a.length ≤ 16777216 ∧ Q (.sh (.str (Txt.join a ys))))
  | _, _ => False
theorem ms_join (hK : X.K = G.K) : MtSim G p X "str.join" mJoin := by
  refine ⟨_, mt_join, ?_⟩
  intro B Hs H w v ws vs Qd Q g0 hb hw hws h q
  unfold mJoin at h
  split at h
  · rename_i a u e
    obtain ⟨v', rfl, hu⟩ := hws.one
    obtain ⟨ys, h1, h2, h3⟩ := h
    rcases h1 with h1 | h1
    · obtain ⟨b, us, rfl, k1, k2⟩ := hu.lst g0.sub h1
      have := k2.strs
      subst this
      exact ⟨a, b, ys, hw.str e, rfl, .inl (SqL.of k1), h2, q _ _ B H g0 w_str h3⟩
    · obtain ⟨b, us, rfl, k1, k2⟩ := hu.tup h1
      have := k2.strs
      subst this
      exact ⟨a, b, ys, hw.str e, rfl, .inr (by rw [hK]; exact Evl.ex_t g0.sub k1), h2, q _ _ B H g0 w_str h3⟩
  · exact h.elim
@[irreducible] def mCount : W → Fd := fun w ws Q => match w.d, ws with
  | .str a, [.sh (.str b)] => Q (.sh (.int (Txt.count a b)))
  | _, _ => False
theorem ms_count : MtSim G p X "str.count" mCount := by
  refine ⟨_, mt_count, ?_⟩
  intro B Hs H w v ws vs Qd Q g0 hb hw hws h q
  unfold mCount at h
  split at h
  · rename_i a b e
    obtain ⟨v', rfl, hu⟩ := hws.one
    exact ⟨a, b, hw.str e, by rw [hu.str rfl], q _ _ B H g0 w_int h⟩
  · exact h.elim
def mLstrip : W → Fd := fun w ws Q => match w.d, ws with
  | .str a, [.sh (.str b)] => a.length ≤ sizeLine ∧ Q (.sh (.str (Txt.lstripChars a b)))
  | _, _ => False
theorem ms_lstrip : MtSim G p X "str.lstrip" mLstrip := by
  refine ⟨_, mt_lstripChars, ?_⟩
  intro B Hs H w v ws vs Qd Q g0 hb hw hws h q
  unfold mLstrip at h
  split at h
  · rename_i a b e
    obtain ⟨v', rfl, hu⟩ := hws.one
    exact ⟨a, b, hw.str e, by rw [hu.str rfl], h.1, q _ _ B H g0 w_str h.2⟩
  · exact h.elim
/-- l.index(x): the first place of what is equal -/
def firstAt (x : D) : List D → Option Nat
  | [] => none
  | d :: r => if D.eqS d x = true then some 0 else (firstAt x r).map (· + 1)
theorem firstAt_some {x : D} : ∀ {ds : List D} {j : Nat}, firstAt x ds = some j → (∃ d, ds[j]? = some d ∧ D.eqS d x = true) ∧ ∀ (m : Nat) (d : D), m < j → ds[m]? = some d → D.eqS d x = false
  | [], j, h => by cases h
  | d :: r, j, h => by
    unfold firstAt at h
    split at h
    · rename_i e
      cases h
      exact ⟨⟨d, rfl, e⟩, fun m d' hm => absurd hm (Nat.not_lt_zero _)⟩
    · rename_i e
      rw [Option.map_eq_some_iff] at h
      obtain ⟨i, h, rfl⟩ := h
      obtain ⟨⟨d', h1, h2⟩, h3⟩ := firstAt_some h
      refine ⟨⟨d', by simpa using h1, h2⟩, fun m d2 hm hd => ?_⟩
      cases m with
      | zero => simp at hd; subst hd; simpa using e
      | succ m => exact h3 m d2 (by omega) (by simpa using hd)
@[irreducible] def mIndex : W → Fd := fun w ws Q => match w.d, ws with
  | .lst ds, [.sh x] => (x.scal && ds.all D.scal) = true ∧ match firstAt x ds with
    | some j => Q (.sh (.int (j : Int)))
    | none => False
  | _, _ => False
theorem ms_index : MtSim G p X "list.index" mIndex := by
  refine ⟨_, mt_index, ?_⟩
  intro B Hs H w v ws vs Qd Q g0 hb hw hws h q
  unfold mIndex at h
  split at h
  · rename_i ds x e
    obtain ⟨v', rfl, hu⟩ := hws.one
    obtain ⟨h1, h⟩ := h
    rw [Bool.and_eq_true] at h1
    split at h
    · rename_i j ej
      obtain ⟨a, us, rfl, k1, k2⟩ := hw.lst g0.sub e
      obtain ⟨⟨d, e1, e2⟩, e3⟩ := firstAt_some ej
      obtain ⟨y, e4, hy⟩ := k2.at e1
      have hx : Has G B x v' := hu
      have sd : ∀ {m : Nat} {d' : D}, ds[m]? = some d' → d'.scal = true := fun {m d'} z => List.all_eq_true.mp h1.2 _ (List.mem_of_getElem? z)
      refine ⟨a, us, v', j, y, rfl, rfl, SqL.of k1, scal_v hx h1.1, all_v k2 h1.2, e4, by rw [eqS_v hy hx (sd e1) h1.1]; exact e2, fun m z hm hz => ?_, q _ _ B H g0 w_int h⟩
      obtain ⟨d', f1, f2⟩ := k2.get hz
      rw [eqS_v f2 hx (sd f1) h1.1]
      exact e3 m d' hm f1
    · exact h.elim
  · exact h.elim
def mSIndex : W → Fd := fun w ws Q => match w.d, ws with
  | .str a, [.sh (.str b)] => match Builtin.Str.occurrences a b 0 a.length 1 with
    | i :: _ => Q (.sh (.int (i : Int)))
    | [] => False
  | _, _ => False

/-! ### x[::-1] -/
def dRev (d : DE) : DE := fun σ Q => d σ fun w => match w.d with
  | .lst ds => Q (.fr (.lst ds.reverse))
  | .str z => z.length ≤ sizeLine ∧ Q (.sh (.str ⟨z.cps.toList.reverse.toArray⟩))
  | _ => False
def tRevA (K : PySem.W.Frag) (te : TE) : TE := fun σ H Q => te σ H fun x H1 => (∃ a xs, x = .ref a ∧ SqL K H1 a xs ∧ ∀ p, H1 p = none → Q (.ref p) (upd H1 p (.lst xs.reverse))) ∨ ∃ z : Str, x = .str z ∧ z.length ≤ sizeLine ∧ Q (.str ⟨z.cps.toList.reverse.toArray⟩) H1
theorem rev_pick (z : Str) : (Builtin.Str.strSliceIndices none none (-1) z.length).filterMap (z.cps[·]?) = z.cps.toList.reverse := by
  show (sliceRange ((z.cps.size : Int) - 1) (-1) (-1)).filterMap (z.cps[·]?) = _
  rw [PySem.W.krv_sliceRange, PySem.W.krv_range, List.filterMap_reverse, PySem.W.krv_all]
theorem pe_revA {te : TE} {k : Nat} {p1 p2 p3 : Pos} (he : PE X e te) : PE X (.Subscript e (.Slice none none (some (.UnaryOp .USub (.Constant (.int 1) k p1) p2)) p3) pos) (tRevA X.K te) := by
  refine ⟨fun pins s σ H Q I h => Subscript_ (thn (he.run pins s σ H _ I h) fun v s1 ⟨x, H1, I1, r1, q1⟩ => ?_)⟩
  have hst : PO X (some (.UnaryOp .USub (.Constant (.int 1) k p1) p2)) (tPart (tUn (rU fun i => .int (-i)) (tC (.int 1)))) := po_some (pe_un un_neg pe_int)
  refine wpAny_Slice (thn (po_none.run pins s1 σ H1 (fun o H2 => o = none ∧ H2 = H1) I1 ⟨rfl, rfl⟩) fun vl s2 ⟨l, H2, I2, pl, el, e2⟩ => thn (po_none.run pins s2 σ H2 (fun o H3 => o = none ∧ H3 = H2) I2 ⟨rfl, rfl⟩) fun vu s3 ⟨u, H3, I3, pu, eu, e3⟩ =>
    thn (hst.run pins s3 σ H3 (fun o H4 => o = some (-1) ∧ H4 = H3) I3 ⟨1, rfl, -1, rfl, rfl, rfl⟩) fun vs s4 ⟨o, H4, I4, ps, eo, e4⟩ => ?_)
  subst el e2 eu e3 eo e4
  have I5 := I4.kept (h' := s4.heap.push { cls := .type "slice", data := .fields #[vl, vu, vs] }) (t' := s4.toks) fun b ob q => Heap.get?_push_of_some _ q
  rcases q1 with ⟨a, xs, rfl, hx, q⟩ | ⟨z, rfl, hz, q⟩
  · cases r1
    obtain ⟨its, r, ht, hz⟩ := I5.list hx
    have hlen := r.length
    refine tail_any (ops := [.ref a, .ref s4.heap.objs.size]) ht.isList.typeIs (PySem.slot_list_getitem.lookup) (wpAny_getItem_list_slice ht.isList (Heap.IsSliceOf.new _ vl vu vs) pl pu ps (by decide) ?_ (by rw [List.size_toArray]; omega)) (by with_unfolding_all rfl)
    rw [PySem.W.krv_pick]
    refine ⟨.ref _, _, I5.laid (t' := s4.toks) (o := .lst xs.reverse) (fun b ob q => Heap.get?_push_of_some _ q) (Nat.le_refl _) ?_, rfl, q _ (I5.hok.fresh (Nat.le_refl _))⟩
    refine ⟨by rw [List.length_reverse]; exact hz, its.reverse, 0, ?_, by rw [List.toList_toArray]; exact Heap.get?_push_size _ rfl⟩
    have rv : ∀ {xs : List V} {us : List Value}, Vals xs us → Vals xs.reverse us.reverse := by
      intro xs us rr
      induction rr with
      | nil => exact .nil
      | cons q _ ih => simp only [List.reverse_cons]; exact ih.append (.cons q .nil)
    exact rv r
  · obtain ⟨t, rfl⟩ := r1
    obtain ⟨l, rfl, hl⟩ := IsPart.raw pl
    obtain ⟨u, rfl, hu⟩ := IsPart.raw pu
    obtain ⟨st, rfl, hs⟩ := IsPart.raw ps
    refine tail_any (ops := [.str z t, .ref s4.heap.objs.size]) (typeIs_str _ z t) F.slot_str_getitem.lookup (wpAny_getItem_str_slice (l := l) (u := u) (st := st) ⟨_, Heap.get?_push_size _ rfl, rfl, rfl⟩ (by rw [hs]; rfl) ?_) (by with_unfolding_all rfl)
    have e1 : slicePicked z l u st = Builtin.Str.strSliceIndices none none (-1) z.length := by
      unfold slicePicked
      rw [hl, hu, hs]; rfl
    unfold sliceMade
    rw [hs, e1, rev_pick]
    exact ⟨by simpa [Str.length] using hz, .str _, H4, I5.tok _, ⟨_, rfl⟩, q⟩
theorem de_rev (hK : X.K = G.K) {k : Nat} {p1 p2 p3 : Pos} (h : DEj G p B0 H0 X e d) : DEj G p B0 H0 X (.Subscript e (.Slice none none (some (.UnaryOp .USub (.Constant (.int 1) k p1) p2)) p3) pos) (dRev d) := by
  refine pe_wk (pe_revA h) fun σ H Q ⟨B, σd, Qd, rl, q, kk⟩ => ?_
  refine ⟨B, σd, _, rl, q, fun w v B1 H1 g hw q1 => ?_⟩
  split at q1
  · rename_i ds e
    obtain ⟨a, us, rfl, h1, h2⟩ := hw.lst g.sub e
    refine .inl ⟨a, us, rfl, SqL.of h1, fun l hl => ?_⟩
    have rv : ∀ {ds : List D} {us : List V}, HasL G B1 ds us → HasL G B1 ds.reverse us.reverse := by
      intro ds
      induction ds with
      | nil => intro us h; unfold HasL at h; subst h; exact .nil
      | cons d r ih =>
        intro us h
        unfold HasL at h
        obtain ⟨v, t, rfl, a1, a2⟩ := h
        simp only [List.reverse_cons]
        exact (ih a2).app (.cons a1 .nil)
    have k2 := w_new (Grow.refl g.sub g.pen) hl (rv h2)
    exact kk (.fr (.lst ds.reverse)) _ B1 _ (g.trans k2.1) (k2.2.back g.there) q1
  · rename_i z e
    exact .inr ⟨z, hw.str e, q1.1, kk _ _ B1 H1 g w_str q1.2⟩
  · exact q1.elim
end
end Dl
namespace Dl
open PySem PySem.Spec PyProof.Rows L2

section
variable {G : Gx} {p : Option Addr} {B0 H0 B H : Hp} {σd : DSt} {σ : St}
/-- an owned object is changed -/
theorem Rl.mutAt (r : Rl G p B0 H0 B H σd σ) {i : Nat} {d d' : D} {a : Addr} {o : HO} (e : σd[i]? = some (some (.fr d))) (ev : σ[i]? = some (some (.ref a))) (t : Top G B (upd H a o) d' a) : Rl G p B0 H0 B (upd H a o) (σd.set i (some (.fr d'))) σ := by
  obtain ⟨v, e1, a', e2, h0, hb, na, t0⟩ := r.slot i _ e
  rw [ev] at e1; cases e1
  cases e2
  have hil : i < σd.length := (List.getElem?_eq_some_iff.mp e).1
  have g := r.gr.mut (o := o) h0 hb na
  refine ⟨r.ok0, g, by simp [r.len], fun j w ej => ?_, fun j d2 ej => ?_, fun j l d2 e' v' njl ej el hv hl => ?_⟩
  · by_cases hj : i = j
    · subst hj
      rw [List.getElem?_set_self hil] at ej
      cases ej
      exact ⟨_, ev, a, rfl, h0, hb, na, t⟩
    · rw [List.getElem?_set_ne hj] at ej
      obtain ⟨v2, q1, q2⟩ := r.slot j w ej
      refine ⟨v2, q1, ?_⟩
      cases w with
      | sh d2 => exact q2
      | bo d2 => exact absurd ej (r.nob j d2)
      | pen => exact q2
      | fr d2 =>
        obtain ⟨a2, e3, f1, f2, f3, f4⟩ := q2
        have ne : a2 ≠ a := fun z => r.dist i j d d2 _ hj e ej ev (by rw [q1, e3, z])
        refine ⟨a2, e3, f1, f2, f3, ?_⟩
        cases d2 with
        | lst ds => obtain ⟨vs, z, k⟩ := f4; exact ⟨vs, by rw [upd_ne ne]; exact z, k⟩
        | dct ds => obtain ⟨vs, z, k⟩ := f4; exact ⟨vs, by rw [upd_ne ne]; exact z, k⟩
        | _ => exact f4.elim
  · by_cases hj : i = j
    · subst hj
      rw [List.getElem?_set_self hil] at ej
      cases ej
    · rw [List.getElem?_set_ne hj] at ej
      exact r.nob j d2 ej
  · have fr : ∀ (m : Nat) (x : D), (σd.set i (some (.fr d')))[m]? = some (some (.fr x)) → ∃ y, σd[m]? = some (some (.fr y)) := fun m x z => by
      by_cases hm : i = m
      · subst hm; exact ⟨d, e⟩
      · rw [List.getElem?_set_ne hm] at z; exact ⟨x, z⟩
    obtain ⟨y1, z1⟩ := fr j _ ej
    obtain ⟨y2, z2⟩ := fr l _ el
    exact r.dist j l y1 y2 v' njl z1 z2 hv hl
theorem Top.l {ds : List D} {vs : List V} {a : Addr} (h : HasL G B ds vs) : Top G B (upd H a (.lst vs)) (.lst ds) a := ⟨vs, upd_same, h⟩
theorem Top.k {ds : List (Key × D)} {vs : List (Key × V)} {a : Addr} (h : HasK G B ds vs) : Top G B (upd H a (.dK vs)) (.dct ds) a := ⟨vs, upd_same, h⟩
/-- what an owned list holds, behind a growth -/
theorem Rl.own (r : Rl G p B0 H0 B H σd σ) {i : Nat} {ds : List D} (e : σd[i]? = some (some (.fr (.lst ds)))) : ∃ a vs, σ[i]? = some (some (.ref a)) ∧ p ≠ some a ∧ B a = none ∧ H0 a = none ∧ H a = some (.lst vs) ∧ HasL G B ds vs := by
  obtain ⟨v, e1, a, rfl, h0, hb, na, vs, h1, h2⟩ := r.slot i _ e
  exact ⟨a, vs, e1, na, hb, h0, h1, h2⟩
theorem Rl.ownD (r : Rl G p B0 H0 B H σd σ) {i : Nat} {ks : List (Key × D)} (e : σd[i]? = some (some (.fr (.dct ks)))) : ∃ a vs, σ[i]? = some (some (.ref a)) ∧ p ≠ some a ∧ B a = none ∧ H0 a = none ∧ H a = some (.dK vs) ∧ HasK G B ks vs := by
  obtain ⟨v, e1, a, rfl, h0, hb, na, vs, h1, h2⟩ := r.slot i _ e
  exact ⟨a, vs, e1, na, hb, h0, h1, h2⟩
theorem HasL.last {ds : List D} {vs : List V} {d : D} (h : HasL G B ds vs) (e : ds.getLast? = some d) : ∃ v, vs[vs.length - 1]? = some v ∧ Has G B d v := by
  rw [List.getLast?_eq_getElem?] at e
  rw [h.len]
  exact h.at e
theorem HasL.dropLast {ds : List D} {vs : List V} (h : HasL G B ds vs) : HasL G B ds.dropLast vs.dropLast := by
  rw [List.dropLast_eq_take, List.dropLast_eq_take, h.len]
  exact h.take _
theorem HasL.erase : ∀ {ds : List D} {vs : List V} (n : Nat), HasL G B ds vs → HasL G B (ds.eraseIdx n) (vs.eraseIdx n)
  | [], vs, n, h => by unfold HasL at h; subst h; simp; exact .nil
  | d :: ds, vs, 0, h => by
    unfold HasL at h
    obtain ⟨v, r, rfl, h1, h2⟩ := h
    exact h2
  | d :: ds, vs, n + 1, h => by
    unfold HasL at h
    obtain ⟨v, r, rfl, h1, h2⟩ := h
    simp only [List.eraseIdx_cons_succ]
    exact .cons h1 (HasL.erase n h2)
end

section
variable {G : Gx} {p : Option Addr} {B0 H0 : Hp} {X : Cx} {a b c e o : Expr} {es : List Expr} {da db d dk : DE} {ds : DA} {pos cpos apos : Pos} {sts : List Stmt}
/-- l.append(e), l a name that owns its list -/
def dApp (i : Nat) (d : DE) : DS := fun D σ => d σ fun w => match w.cl?, σ[i]? with
  | some x, some (some (.fr (.lst xs))) => xs.length < sizeLine ∧ D.nx (σ.set i (some (.fr (.lst (xs ++ [x])))))
  | _, _ => False
/-- the receiver is a list that a name owns -/
def ownL (i : Nat) (σ : DSt) : Prop := ∃ xs, σ[i]? = some (some (.fr (.lst xs)))
def dAppend (i : Nat) (d : DE) : DS := fun D σ => ownL i σ ∧ dApp i d D σ
theorem ds_append {i : Nat} {x : Str} {px : Pos} (hN : X.N[i]? = some x) (hv : Vis X.env.scope x) (he : DEj G p B0 H0 X e d)
    (hd : (x == ("__debug__" : Str)) = false := by decide) (hcd : (x == ("__classdict__" : Str)) = false := by decide)
    (hbase : attributeBase (.Name x px) "append" X.env (eval (.Name x px) X.env) = eval (.Name x px) X.env := by rfl)
    (hfew : ((backTo cpos (starEach [e] X.env)).all (fun x => !x.1) && (backToKw cpos (keywordEach [] X.env)).all (fun x => x.1.isSome) && decide ([e].length + ([] : List Keyword).length + (if ([] : List Keyword).isEmpty then 0 else 1) < 30)) = true := by rfl)
    (hline : (apos.endLine == cpos.line) = true := by rfl) (hs : starEach [e] X.env = (false, eval e X.env) :: starEach [] X.env := by rfl) (hplain : (backTo cpos (starEach [] X.env)).any (·.1) = false := by rfl)
    (hsw : swapsWith (.Call (.Attribute (.Name x px) "append" apos) [e] [] cpos) none pos.line X.env = pure false := by rfl) :
    DSj G p B0 H0 X (.Expr (.Call (.Attribute (.Name x px) "append" apos) [e] [] cpos) pos) (dAppend i d) := by
  refine ps_wk (ps_expr (pe_bm PySem.F.plainAttrs_list PySem.F.slot_list_append PySem.F.type_list_append mt_append (pe_var hN hv hd hcd) (pa_cons he pa_nil hs) hbase hfew hline hs hplain) hsw) fun D σ H ⟨B, σd, Dd, rl, ⟨⟨xs, ex⟩, q⟩, k⟩ => ?_
  obtain ⟨a, vs, e1, na, hb, h0, h1, h2⟩ := rl.own ex
  refine ⟨.ref a, e1, .inl ⟨rfl, vs, SqL.of h1⟩, B, σd, _, rl, q, fun w v B1 H1 g hw q1 => ?_⟩
  split at q1
  · rename_i x xs' ew ex'
    rw [ex] at ex'; cases ex'
    obtain ⟨B2, g2, x2, hx, _⟩ := hw.share g ew
    have r2 := rl.grow g2
    obtain ⟨a', vs', e1', _, hb', _, h1', h2'⟩ := r2.own ex
    rw [e1] at e1'; cases e1'
    refine ⟨a, vs', v, rfl, rfl, h1', by rw [h2'.len]; exact q1.1, ?_⟩
    exact k.nx B2 _ _ σ g2.base (r2.mutAt ex e1 (Top.l (h2'.snoc hx))) q1.2
  · exact q1.elim
/-- l.extend(e) -/
def dExtend (i : Nat) (d : DE) : DS := fun D σ => ownL i σ ∧ d σ fun w => match w.d, σ[i]? with
  | .lst ys, some (some (.fr (.lst xs))) => xs.length + ys.length ≤ sizeLine ∧ D.nx (σ.set i (some (.fr (.lst (xs ++ ys)))))
  | _, _ => False
theorem ds_extend {i : Nat} {x : Str} {px : Pos} (hN : X.N[i]? = some x) (hv : Vis X.env.scope x) (he : DEj G p B0 H0 X e d)
    (hd : (x == ("__debug__" : Str)) = false := by decide) (hcd : (x == ("__classdict__" : Str)) = false := by decide)
    (hbase : attributeBase (.Name x px) "extend" X.env (eval (.Name x px) X.env) = eval (.Name x px) X.env := by rfl)
    (hfew : ((backTo cpos (starEach [e] X.env)).all (fun x => !x.1) && (backToKw cpos (keywordEach [] X.env)).all (fun x => x.1.isSome) && decide ([e].length + ([] : List Keyword).length + (if ([] : List Keyword).isEmpty then 0 else 1) < 30)) = true := by rfl)
    (hline : (apos.endLine == cpos.line) = true := by rfl) (hs : starEach [e] X.env = (false, eval e X.env) :: starEach [] X.env := by rfl) (hplain : (backTo cpos (starEach [] X.env)).any (·.1) = false := by rfl)
    (hsw : swapsWith (.Call (.Attribute (.Name x px) "extend" apos) [e] [] cpos) none pos.line X.env = pure false := by rfl) :
    DSj G p B0 H0 X (.Expr (.Call (.Attribute (.Name x px) "extend" apos) [e] [] cpos) pos) (dExtend i d) := by
  refine ps_wk (ps_expr (pe_bm PySem.F.plainAttrs_list PySem.F.slot_list_extend PySem.F.type_list_extend mt_extend (pe_var hN hv hd hcd) (pa_cons he pa_nil hs) hbase hfew hline hs hplain) hsw) fun D σ H ⟨B, σd, Dd, rl, ⟨⟨xs, ex⟩, q⟩, k⟩ => ?_
  obtain ⟨a, vs, e1, na, hb, h0, h1, h2⟩ := rl.own ex
  refine ⟨.ref a, e1, .inl ⟨rfl, vs, SqL.of h1⟩, B, σd, _, rl, q, fun w v B1 H1 g hw q1 => ?_⟩
  split at q1
  · rename_i ys xs' ew ex'
    rw [ex] at ex'; cases ex'
    obtain ⟨b, us, rfl, k1, k2⟩ := hw.lst g.sub ew
    have r2 := rl.grow g
    obtain ⟨a', vs', e1', _, hb', _, h1', h2'⟩ := r2.own ex
    rw [e1] at e1'; cases e1'
    refine ⟨a, b, vs', us, rfl, rfl, h1', k1, by rw [h2'.len, k2.len]; exact q1.1, ?_⟩
    exact k.nx B1 _ _ σ g.base (r2.mutAt ex e1 (Top.l (h2'.app k2))) q1.2
  · exact q1.elim
/-- x = l.pop() -/
def dPop (j i : Nat) : DS := fun D σ => match σ[i]? with
  | some (some (.fr (.lst xs))) => match xs.getLast? with
    | some d => D.nx ((σ.set i (some (.fr (.lst xs.dropLast)))).set j (some (.sh d)))
    | none => False
  | _ => False
theorem ds_pop {i j : Nat} {x y : Str} {px py : Pos} (hnd : X.N.Nodup) (hN : X.N[i]? = some x) (hv : Vis X.env.scope x) (hj : X.N[j]? = some y) (hy : Loc X.env.scope y)
    (hd : (x == ("__debug__" : Str)) = false := by decide) (hcd : (x == ("__classdict__" : Str)) = false := by decide)
    (hbase : attributeBase (.Name x px) "pop" X.env (eval (.Name x px) X.env) = eval (.Name x px) X.env := by rfl) (hline : (apos.endLine == cpos.line) = true := by rfl)
    (hsw : swapsWith (.Call (.Attribute (.Name x px) "pop" apos) [] [] cpos) (some (.Name y py)) pos.line X.env = pure false := by rfl)
    (hf : X.fn y = true ∨ X.env.scope.names.lookup y = some .local := by first | exact .inl rfl | exact .inr rfl | assumption) :
    DSj G p B0 H0 X (.Assign [.Name y py] (.Call (.Attribute (.Name x px) "pop" apos) [] [] cpos) pos) (dPop j i) := by
  refine ps_wk (ps_set hnd hj hy (pe_bm0 PySem.F.plainAttrs_list PySem.F.slot_list_pop PySem.F.type_list_pop mt_pop (pe_var hN hv hd hcd) hbase hline) hsw hf) fun D σ H ⟨B, σd, Dd, rl, q, k⟩ => ?_
  unfold dPop at q
  split at q
  · rename_i xs ex
    split at q
    · rename_i x el
      obtain ⟨a, vs, e1, na, hb, h0, h1, h2⟩ := rl.own ex
      obtain ⟨v, ev, hv'⟩ := h2.last el
      refine ⟨.ref a, e1, .inl ⟨rfl, vs, SqL.of h1⟩, a, vs, v, rfl, rfl, h1, ev, ?_⟩
      have r2 := rl.mutAt (o := .lst vs.dropLast) ex e1 (Top.l (h2.dropLast))
      exact k.nx B _ _ _ (Evl.Ex.refl _) (r2.setS j hv') q
    · exact q.elim
  · exact q.elim
/-- x = l.pop(e) -/
def dPopAt (j i : Nat) (d : DE) : DS := fun D σ => ownL i σ ∧ d σ fun w => match w, σ[i]? with
  | .sh (.int n), some (some (.fr (.lst xs))) => (-(2 ^ 63) ≤ n ∧ n < 2 ^ 63) ∧ match seqIndex? n xs.length with
    | some m => match xs[m]? with
      | some x => D.nx ((σ.set i (some (.fr (.lst (xs.eraseIdx m))))).set j (some (.sh x)))
      | none => False
    | none => False
  | _, _ => False
theorem ds_popAt {i j : Nat} {x y : Str} {px py : Pos} (hnd : X.N.Nodup) (hN : X.N[i]? = some x) (hv : Vis X.env.scope x) (hj : X.N[j]? = some y) (hy : Loc X.env.scope y) (he : DEj G p B0 H0 X e d)
    (hd : (x == ("__debug__" : Str)) = false := by decide) (hcd : (x == ("__classdict__" : Str)) = false := by decide)
    (hbase : attributeBase (.Name x px) "pop" X.env (eval (.Name x px) X.env) = eval (.Name x px) X.env := by rfl)
    (hfew : ((backTo cpos (starEach [e] X.env)).all (fun x => !x.1) && (backToKw cpos (keywordEach [] X.env)).all (fun x => x.1.isSome) && decide ([e].length + ([] : List Keyword).length + (if ([] : List Keyword).isEmpty then 0 else 1) < 30)) = true := by rfl)
    (hline : (apos.endLine == cpos.line) = true := by rfl) (hs : starEach [e] X.env = (false, eval e X.env) :: starEach [] X.env := by rfl) (hplain : (backTo cpos (starEach [] X.env)).any (·.1) = false := by rfl)
    (hsw : swapsWith (.Call (.Attribute (.Name x px) "pop" apos) [e] [] cpos) (some (.Name y py)) pos.line X.env = pure false := by rfl)
    (hf : X.fn y = true ∨ X.env.scope.names.lookup y = some .local := by first | exact .inl rfl | exact .inr rfl | assumption) :
    DSj G p B0 H0 X (.Assign [.Name y py] (.Call (.Attribute (.Name x px) "pop" apos) [e] [] cpos) pos) (dPopAt j i d) := by
  refine ps_wk (ps_set hnd hj hy (pe_bm PySem.F.plainAttrs_list PySem.F.slot_list_pop PySem.F.type_list_pop mt_popAt (pe_var hN hv hd hcd) (pa_cons he pa_nil hs) hbase hfew hline hs hplain) hsw hf) fun D σ H ⟨B, σd, Dd, rl, ⟨⟨xs, ex⟩, q⟩, k⟩ => ?_
  obtain ⟨a, vs, e1, na, hb, h0, h1, h2⟩ := rl.own ex
  refine ⟨.ref a, e1, .inl ⟨rfl, vs, SqL.of h1⟩, B, σd, _, rl, q, fun w v B1 H1 g hw q1 => ?_⟩
  split at q1
  · rename_i n xs' ex'
    rw [ex] at ex'; cases ex'
    obtain ⟨hn, q1⟩ := q1
    split at q1
    · rename_i m em
      split at q1
      · rename_i x exm
        have r2 := rl.grow g
        obtain ⟨a', vs', e1', _, hb', _, h1', h2'⟩ := r2.own ex
        rw [e1] at e1'; cases e1'
        obtain ⟨u, eu, hu⟩ := h2'.at exm
        refine ⟨a, vs', n, m, u, rfl, by rw [hw.int rfl], h1', hn.1, hn.2, by rw [h2'.len]; exact em, eu, ?_⟩
        have r3 := r2.mutAt (o := .lst (vs'.eraseIdx m)) ex e1 (Top.l (h2'.erase m))
        exact k.nx B1 _ _ _ g.base (r3.setS j hu) q1
      · exact q1.elim
    · exact q1.elim
  · exact q1.elim
/-- f.append(l.pop(e)): two owned lists -/
def dAppPop (j i : Nat) (d : DE) : DS := fun D σ => j ≠ i ∧ ownL j σ ∧ ownL i σ ∧ d σ fun w => match w, σ[i]?, σ[j]? with
  | .sh (.int n), some (some (.fr (.lst xs))), some (some (.fr (.lst ys))) => (-(2 ^ 63) ≤ n ∧ n < 2 ^ 63) ∧ ys.length < sizeLine ∧ match seqIndex? n xs.length with
    | some m => match xs[m]? with
      | some x => D.nx ((σ.set i (some (.fr (.lst (xs.eraseIdx m))))).set j (some (.fr (.lst (ys ++ [x])))))
      | none => False
    | none => False
  | _, _, _ => False
theorem ds_appPop {i j : Nat} {x y : Str} {px py : Pos} {apos1 cpos1 : Pos} (hN : X.N[i]? = some x) (hv : Vis X.env.scope x) (hN' : X.N[j]? = some y) (hv' : Vis X.env.scope y) (he : DEj G p B0 H0 X e d)
    (hd : (x == ("__debug__" : Str)) = false := by decide) (hcd : (x == ("__classdict__" : Str)) = false := by decide) (hd' : (y == ("__debug__" : Str)) = false := by decide) (hcd' : (y == ("__classdict__" : Str)) = false := by decide)
    (hbase : attributeBase (.Name x px) "pop" X.env (eval (.Name x px) X.env) = eval (.Name x px) X.env := by rfl)
    (hfew : ((backTo cpos1 (starEach [e] X.env)).all (fun x => !x.1) && (backToKw cpos1 (keywordEach [] X.env)).all (fun x => x.1.isSome) && decide ([e].length + ([] : List Keyword).length + (if ([] : List Keyword).isEmpty then 0 else 1) < 30)) = true := by rfl)
    (hline : (apos1.endLine == cpos1.line) = true := by rfl) (hs : starEach [e] X.env = (false, eval e X.env) :: starEach [] X.env := by rfl) (hplain : (backTo cpos1 (starEach [] X.env)).any (·.1) = false := by rfl)
    (hbase' : attributeBase (.Name y py) "append" X.env (eval (.Name y py) X.env) = eval (.Name y py) X.env := by rfl)
    (hfew' : ((backTo cpos (starEach [.Call (.Attribute (.Name x px) "pop" apos1) [e] [] cpos1] X.env)).all (fun x => !x.1) && (backToKw cpos (keywordEach [] X.env)).all (fun x => x.1.isSome) && decide ([Expr.Call (.Attribute (.Name x px) "pop" apos1) [e] [] cpos1].length + ([] : List Keyword).length + (if ([] : List Keyword).isEmpty then 0 else 1) < 30)) = true := by rfl)
    (hline' : (apos.endLine == cpos.line) = true := by rfl) (hs' : starEach [.Call (.Attribute (.Name x px) "pop" apos1) [e] [] cpos1] X.env = (false, eval (.Call (.Attribute (.Name x px) "pop" apos1) [e] [] cpos1) X.env) :: starEach [] X.env := by rfl) (hplain' : (backTo cpos (starEach [] X.env)).any (·.1) = false := by rfl)
    (hsw : swapsWith (.Call (.Attribute (.Name y py) "append" apos) [.Call (.Attribute (.Name x px) "pop" apos1) [e] [] cpos1] [] cpos) none pos.line X.env = pure false := by rfl) :
    DSj G p B0 H0 X (.Expr (.Call (.Attribute (.Name y py) "append" apos) [.Call (.Attribute (.Name x px) "pop" apos1) [e] [] cpos1] [] cpos) pos) (dAppPop j i d) := by
  refine ps_wk (ps_expr (pe_bm PySem.F.plainAttrs_list PySem.F.slot_list_append PySem.F.type_list_append mt_append (pe_var hN' hv' hd' hcd') (pa_cons (pe_bm PySem.F.plainAttrs_list PySem.F.slot_list_pop PySem.F.type_list_pop mt_popAt (pe_var hN hv hd hcd) (pa_cons he pa_nil hs) hbase hfew hline hs hplain) pa_nil hs') hbase' hfew' hline' hs' hplain') hsw)
    fun D σ H ⟨B, σd, Dd, rl, ⟨nji, ⟨ys, ey⟩, ⟨xs, ex⟩, q⟩, k⟩ => ?_
  obtain ⟨a, vs, e1, na, hb, h0, h1, h2⟩ := rl.own ex
  obtain ⟨a', us, f1, na', hb', h0', g1, g2⟩ := rl.own ey
  refine ⟨.ref a', f1, .inl ⟨rfl, us, SqL.of g1⟩, .ref a, e1, .inl ⟨rfl, vs, SqL.of h1⟩, B, σd, _, rl, q, fun w v B1 H1 g hw q1 => ?_⟩
  split at q1
  · rename_i n xs' ys' ex' ey'
    rw [ex] at ex'; cases ex'
    rw [ey] at ey'; cases ey'
    obtain ⟨hn, hz, q1⟩ := q1
    split at q1
    · rename_i m em
      split at q1
      · rename_i x exm
        have r2 := rl.grow g
        obtain ⟨b, vs', e1', _, _, _, h1', h2'⟩ := r2.own ex
        rw [e1] at e1'; cases e1'
        obtain ⟨u, eu, hu⟩ := h2'.at exm
        refine ⟨a, vs', n, m, u, rfl, by rw [hw.int rfl], h1', hn.1, hn.2, by rw [h2'.len]; exact em, eu, ?_⟩
        have r3 := r2.mutAt (o := .lst (vs'.eraseIdx m)) ex e1 (Top.l (h2'.erase m))
        have ey3 : (σd.set i (some (.fr (.lst (xs.eraseIdx m)))))[j]? = some (some (.fr (.lst ys))) := by rw [List.getElem?_set_ne (Ne.symm nji)]; exact ey
        obtain ⟨b', us', f1', _, _, _, g1', g2'⟩ := r3.own ey3
        rw [f1] at f1'; cases f1'
        refine ⟨a', us', u, rfl, rfl, g1', by rw [g2'.len]; exact hz, ?_⟩
        exact k.nx B1 _ _ _ g.base (r3.mutAt ey3 f1 (Top.l (g2'.snoc hu))) q1
      · exact q1.elim
    · exact q1.elim
  · exact q1.elim
/-- l[e1] = e2, l a list that a name owns -/
def dSetL (i : Nat) (di d : DE) : DS := fun D σ => ownL i σ ∧ d σ fun w => di σ fun u => match w.cl?, u, σ[i]? with
  | some x, .sh (.int n), some (some (.fr (.lst xs))) => match ixN xs.length n with
    | some m => D.nx (σ.set i (some (.fr (.lst (xs.set m x)))))
    | none => False
  | _, _, _ => False

/-! ### several names at once -/
def dAsgT (d : DE) (g : Tg) : DS := fun D σ => d σ fun w => match w.cl? with
  | some x => g.bind x σ D.nx
  | none => False
theorem ds_asgT {tg : Expr} {g : Tg} {gt : TG} (he : DEj G p B0 H0 X e d) (hgt : gt = g.g G.K) (hg : PG X tg gt) (hs : swapsWithSole [tg] e pos.line X.env = pure false := by rfl) (hw : swappedStores [tg] e X.env = pure none := by rfl)
    (h1 : (assignEach [tg] X.env).map (·.2) = [assign tg X.env] := by rfl) : DSj G p B0 H0 X (.Assign [tg] e pos) (dAsgT d g) := by
  subst hgt
  refine ps_wk (ps_asg he hg hs hw h1) fun D σ H ⟨B, σd, Dd, rl, q, k⟩ => ?_
  refine ⟨B, σd, _, rl, q, fun w v B1 H1 g1 hw q1 => ?_⟩
  split at q1
  · rename_i x ex
    obtain ⟨B2, g2, x2, hx, _⟩ := hw.share g1 ex
    exact tg_bind (us := g.ix) (rl.grow g2) hx (fun _ h => h) q1 fun σd' σ' r' _ q' => k.nx B2 H1 _ _ g2.base r' q'
  · exact q1.elim
def dPar3 (i j l : Nat) (ds : DA) : DS := fun D σ => ds σ fun ws => match ws with
  | [w, u, t] => match w.cl?, u.cl?, t.cl? with
    | some x, some y, some z => D.nx (((σ.set i (some (.sh x))).set j (some (.sh y))).set l (some (.sh z)))
    | _, _, _ => False
  | _ => False
theorem ds_par3 {i j l : Nat} {x y z : Str} {px py pz pt : Pos} {kt k2 pt2} (hc : X.calm = true) (hN : X.N.Nodup) (hi : X.N[i]? = some x) (hj : X.N[j]? = some y) (hl : X.N[l]? = some z) (hij : i ≠ j) (hil : i ≠ l) (hjl : j ≠ l)
    (hx : X.env.scope.names.lookup x = some .local) (hy : X.env.scope.names.lookup y = some .local) (hz : X.env.scope.names.lookup z = some .local) (ha : DAj G p B0 H0 X [a, b, c] ds)
    (hw : swappedStores [.Tuple [.Name x px, .Name y py, .Name z pz] kt pt] (.Tuple [a, b, c] k2 pt2) X.env = pure (some [x, y, z]))
    (hs : swapsWithSole [.Tuple [.Name x px, .Name y py, .Name z pz] kt pt] (.Tuple [a, b, c] k2 pt2) pos.line X.env = pure false := by rfl) :
    DSj G p B0 H0 X (.Assign [.Tuple [.Name x px, .Name y py, .Name z pz] kt pt] (.Tuple [a, b, c] k2 pt2) pos) (dPar3 i j l ds) := by
  refine ps_wk (ps_par3 hc hN hi hj hl hij hil hjl hx hy hz ha hw hs) fun D σ H ⟨B, σd, Dd, rl, q, k⟩ => ?_
  refine ⟨B, σd, _, rl, q, fun ws vs B' H' g hws q' => ?_⟩
  split at q'
  · rename_i w u t
    split at q'
    · rename_i x y z e1 e2 e3
      obtain ⟨B2, g2, x2, hd⟩ := hws.share (es := [x, y, z]) g (by simp [cls?, e1, e2, e3])
      unfold HasL at hd
      obtain ⟨v1, r1, rfl, h1, hd⟩ := hd
      unfold HasL at hd
      obtain ⟨v2, r2, rfl, h2, hd⟩ := hd
      unfold HasL at hd
      obtain ⟨v3, r3, rfl, h3, hd⟩ := hd
      unfold HasL at hd
      subst hd
      exact ⟨v1, v2, v3, rfl, k.nx B2 H' _ _ g2.base ((((rl.grow g2).setS i h1).setS j h2).setS l h3) q'⟩
    · exact q'.elim
  · exact q'.elim
end
end Dl
namespace Dl
open PySem PySem.Spec PyProof.Rows L2

/-! ### dicts -/
def putD (ks : List (Key × D)) (k : Key) (d : D) : List (Key × D) :=
  if (ks.any fun kv => decide (kv.1 = k)) = true then ks.map (fun kv => if kv.1 = k then (kv.1, d) else kv) else ks ++ [(k, d)]
section
variable {G : Gx} {p : Option Addr} {B0 H0 B H : Hp}
theorem HasK.any {k : Key} : ∀ {ks : List (Key × D)} {vs : List (Key × V)}, HasK G B ks vs → (vs.any fun kv => decide (kv.1 = k)) = ks.any fun kv => decide (kv.1 = k)
  | [], _, h => by unfold HasK at h; subst h; rfl
  | (j, d) :: ks, _, h => by
    unfold HasK at h
    obtain ⟨v, r, rfl, h1, h2⟩ := h
    simp only [List.any_cons, HasK.any h2]
theorem HasK.app : ∀ {ks ls : List (Key × D)} {vs us : List (Key × V)}, HasK G B ks vs → HasK G B ls us → HasK G B (ks ++ ls) (vs ++ us)
  | [], _, _, _, h, k => by unfold HasK at h; subst h; exact k
  | (j, d) :: ks, _, _, _, h, k => by
    unfold HasK at h
    obtain ⟨v, r, rfl, h1, h2⟩ := h
    show HasK G B ((j, d) :: (ks ++ _)) ((j, v) :: (r ++ _))
    unfold HasK
    exact ⟨v, _, rfl, h1, HasK.app h2 k⟩
theorem HasK.map {k : Key} {d : D} {v : V} (hd : Has G B d v) : ∀ {ks : List (Key × D)} {vs : List (Key × V)}, HasK G B ks vs → HasK G B (ks.map fun kv => if kv.1 = k then (kv.1, d) else kv) (vs.map fun kv => if kv.1 = k then (kv.1, v) else kv)
  | [], _, h => by unfold HasK at h; subst h; unfold HasK; rfl
  | (j, e) :: ks, _, h => by
    unfold HasK at h
    obtain ⟨u, r, rfl, h1, h2⟩ := h
    simp only [List.map_cons]
    by_cases c : j = k
    · rw [if_pos c, if_pos c]
      unfold HasK
      exact ⟨v, _, rfl, hd, HasK.map hd h2⟩
    · rw [if_neg c, if_neg c]
      unfold HasK
      exact ⟨u, _, rfl, h1, HasK.map hd h2⟩
theorem HasK.put {k : Key} {d : D} {v : V} {ks : List (Key × D)} {vs : List (Key × V)} (h : HasK G B ks vs) (hd : Has G B d v) : HasK G B (putD ks k d) (putK vs k v) := by
  unfold putD putK
  rw [h.any]
  split
  · exact h.map hd
  · exact h.app (by unfold HasK; exact ⟨v, [], rfl, hd, by unfold HasK; rfl⟩)
theorem HasK.look {k : Key} : ∀ {ks : List (Key × D)} {vs : List (Key × V)}, HasK G B ks vs → (∀ d, lookD ks k = some d → ∃ v, valV vs k = some v ∧ Has G B d v) ∧ (lookD ks k = none → valV vs k = none)
  | [], _, h => by unfold HasK at h; subst h; exact ⟨fun d e => (by cases e), fun _ => rfl⟩
  | (j, e) :: ks, _, h => by
    unfold HasK at h
    obtain ⟨u, r, rfl, h1, h2⟩ := h
    by_cases c : j = k
    · have e1 : lookD ((j, e) :: ks) k = some e := by simp [lookD, List.find?_cons, c]
      rw [e1, valV_pos (p := (j, u)) c]
      exact ⟨fun d z => by cases z; exact ⟨u, rfl, h1⟩, fun z => by cases z⟩
    · have e1 : lookD ((j, e) :: ks) k = lookD ks k := by simp [lookD, List.find?_cons, c]
      rw [e1, valV_neg (p := (j, u)) c]
      exact HasK.look h2
theorem lookD_put (ks : List (Key × D)) (k j : Key) (d : D) : lookD (putD ks k d) j = if j = k then some d else lookD ks j := by
  unfold putD
  by_cases a : (ks.any fun kv => decide (kv.1 = k)) = true
  · rw [if_pos a]
    induction ks with
    | nil => simp at a
    | cons x r ih =>
      obtain ⟨x1, x2⟩ := x
      simp only [List.map_cons]
      by_cases c : x1 = k
      · subst c
        by_cases cj : j = x1
        · subst cj; simp [lookD]
        · rw [if_neg cj]
          have n : ∀ l : List (Key × D), lookD (l.map fun kv => if kv.1 = x1 then (kv.1, d) else kv) j = lookD l j := by
            intro l
            induction l with
            | nil => rfl
            | cons y t iht =>
              obtain ⟨y1, y2⟩ := y
              simp only [List.map_cons]
              by_cases cy : y1 = x1
              · subst cy
                rw [if_pos rfl]
                have e1 : ∀ (z : D) (l : List (Key × D)), lookD ((y1, z) :: l) j = lookD l j := fun z l => by simp [lookD, List.find?_cons, Ne.symm cj]
                rw [e1, e1, iht]
              · rw [if_neg cy]
                by_cases q : y1 = j
                · simp [lookD, List.find?_cons, q]
                · have e1 : ∀ (l : List (Key × D)), lookD ((y1, y2) :: l) j = lookD l j := fun l => by simp [lookD, List.find?_cons, q]
                  rw [e1, e1, iht]
          exact n ((x1, x2) :: r)
      · rw [if_neg c]
        by_cases q : x1 = j
        · subst q
          rw [if_neg c]
          simp [lookD]
        · have e1 : ∀ (l : List (Key × D)), lookD ((x1, x2) :: l) j = lookD l j := fun l => by simp [lookD, List.find?_cons, q]
          rw [e1, e1]
          exact ih (by simpa [c] using a)
  · rw [if_neg a]
    have nk : ∀ kv ∈ ks, kv.1 ≠ k := fun kv hkv z => a (List.any_eq_true.mpr ⟨kv, hkv, decide_eq_true z⟩)
    by_cases cj : j = k
    · subst cj
      rw [if_pos rfl]
      have : ks.find? (fun kv => decide (kv.1 = j)) = none := List.find?_eq_none.mpr fun kv hkv => by simpa using nk kv hkv
      simp [lookD, List.find?_append, this]
    · rw [if_neg cj]
      simp only [lookD, List.find?_append]
      cases q : ks.find? (fun kv => decide (kv.1 = j)) with
      | some y => rfl
      | none => simp [Ne.symm cj]
/-- a key's value -/
theorem keyOf_v {d : D} {k : Key} {v : V} (h : Has G B d v) (e : keyOf d = some k) : v = kV k := by
  cases d <;> simp [keyOf] at e <;> (subst e; unfold Has at h; exact h)
theorem WR.key {Hs : Hp} {w : W} {v : V} {k : Key} (h : WR G p B Hs H w v) (e : keyOf w.d = some k) : v = kV k := by
  have s : w.d.scal = true := by cases q : w.d <;> rw [q] at e <;> simp [keyOf] at e <;> rfl
  exact keyOf_v (h.sc s) e
end
section
variable {G : Gx} {p : Option Addr} {B0 H0 : Hp} {X : Cx} {a b c e o i : Expr} {es : List Expr} {da db d dk dv : DE} {ds : DA} {pos cpos apos : Pos} {iter tg kx vx : Expr} {ifs : List Expr} {di : DI} {t : DT} {scope : Scope} {own : List (Str × Nat)}
/-- d[k] -/
def dDget (d dk : DE) : DE := fun σ Q => d σ fun w => dk σ fun u => match w.d, keyOf u.d with
  | .dct ks, some k => match lookD ks k with
    | some x => Q (.sh x)
    | none => False
  | _, _ => False
theorem de_dget (hu : X.A.units + 1 < cLine) (ho : DEj G p B0 H0 X o d) (hi : DEj G p B0 H0 X i dk) (hs : NoSl i) : DEj G p B0 H0 X (.Subscript o i pos) (dDget d dk) := by
  refine pe_wk (pe_dget hu ho hi hs) fun σ H Q ⟨B, σd, Qd, rl, q, k⟩ => ?_
  refine ⟨B, σd, _, rl, q, fun w v B1 H1 g hw q1 => ⟨B1, σd, _, rl.grow g, q1, fun u y B2 H2 g2 hu2 q2 => ?_⟩⟩
  split at q2
  · rename_i ks kk e1 e2
    split at q2
    · rename_i x ex
      obtain ⟨a, us, rfl, h1, h2⟩ := (hw.mono g2).dct g2.sub e1
      obtain ⟨z, hz, hh⟩ := h2.look.1 x ex
      exact ⟨a, z, rfl, by rw [hu2.key e2, ← hz]; exact DGet.k h1, k _ _ B2 H2 (g.trans g2) (fin_sh hh) q2⟩
    · exact q2.elim
  · exact q2.elim
/-- k in d -/
def dDin (neg : Bool) (dk d : DE) : DE := fun σ Q => dk σ fun u => d σ fun w => match w.d, keyOf u.d with
  | .dct ks, some k => Q (.sh (.bl (if neg then !(lookD ks k).isSome else (lookD ks k).isSome)))
  | _, _ => False
theorem look_some {G : Gx} {B : Hp} {k : Key} {ks : List (Key × D)} {vs : List (Key × V)} (h : HasK G B ks vs) : (valV vs k).isSome = (lookD ks k).isSome := by
  cases q : lookD ks k with
  | none => rw [h.look.2 q]; rfl
  | some d => obtain ⟨v, e, _⟩ := h.look.1 d q; rw [e]; rfl
theorem de_din (hu : X.A.units + 1 < cLine) (hi : DEj G p B0 H0 X i dk) (ho : DEj G p B0 H0 X o d) (hm : behindInMarks .In o = false := by first | exact nobehind _ (by decide) (by decide) | rfl) : DEj G p B0 H0 X (.Compare i [.In] [o] pos) (dDin false dk d) := by
  refine pe_wk (pe_cmp (pc_din hu hi ho) hm) fun σ H Q ⟨B, σd, Qd, rl, q, k⟩ => ?_
  refine ⟨B, σd, _, rl, q, fun u y B1 H1 g hu2 q1 => ⟨B1, σd, _, rl.grow g, q1, fun w v B2 H2 g2 hw q2 => ?_⟩⟩
  split at q2
  · rename_i ks kk e1 e2
    obtain ⟨a, us, rfl, h1, h2⟩ := hw.dct g2.sub e1
    exact ⟨a, valV us kk, rfl, by rw [hu2.key e2]; exact DGet.k h1, by rw [look_some h2]; exact k _ _ B2 H2 (g.trans g2) w_bl q2⟩
  · exact q2.elim
theorem de_dnotin (hu : X.A.units + 1 < cLine) (hi : DEj G p B0 H0 X i dk) (ho : DEj G p B0 H0 X o d) (hm : behindInMarks .NotIn o = false := by first | exact nobehind _ (by decide) (by decide) | rfl) : DEj G p B0 H0 X (.Compare i [.NotIn] [o] pos) (dDin true dk d) := by
  refine pe_wk (pe_cmp (pc_dnotin hu hi ho) hm) fun σ H Q ⟨B, σd, Qd, rl, q, k⟩ => ?_
  refine ⟨B, σd, _, rl, q, fun u y B1 H1 g hu2 q1 => ⟨B1, σd, _, rl.grow g, q1, fun w v B2 H2 g2 hw q2 => ?_⟩⟩
  split at q2
  · rename_i ks kk e1 e2
    obtain ⟨a, us, rfl, h1, h2⟩ := hw.dct g2.sub e1
    exact ⟨a, valV us kk, rfl, by rw [hu2.key e2]; exact DGet.k h1, by rw [look_some h2]; exact k _ _ B2 H2 (g.trans g2) w_bl q2⟩
  · exact q2.elim
/-- an expression that gives a bool, as a test -/
theorem dt_val (h : DEj G p B0 H0 X e d) (he : ∀ whole, isTrue e X.env whole = (do let v ← whole; standAt e.pos; holding [v] (truthy v)) := by intro _; rfl) : DTj G p B0 H0 X e (dTst d) := by
  refine pt_wk (pt_val h he) fun σ H Q ⟨B, σd, Qd, rl, q, k⟩ => ?_
  refine ⟨B, σd, _, rl, q, fun w v B1 H1 g hw q1 => ?_⟩
  split at q1
  · exact ⟨_, hw.bl rfl, k _ B1 H1 g q1⟩
  · exact q1.elim
theorem dt_din (hu : X.A.units + 1 < cLine) (hi : DEj G p B0 H0 X i dk) (ho : DEj G p B0 H0 X o d) (hm : behindInMarks .In o = false := by first | exact nobehind _ (by decide) (by decide) | rfl) : DTj G p B0 H0 X (.Compare i [.In] [o] pos) (dTst (dDin false dk d)) := by
  refine pt_wk (pt_cmp (pc_din hu hi ho) hm) fun σ H Q ⟨B, σd, Qd, rl, q, k⟩ => ?_
  refine ⟨B, σd, _, rl, q, fun u y B1 H1 g hu2 q1 => ⟨B1, σd, _, rl.grow g, q1, fun w v B2 H2 g2 hw q2 => ?_⟩⟩
  split at q2
  · rename_i ks kk e1 e2
    obtain ⟨a, us, rfl, h1, h2⟩ := hw.dct g2.sub e1
    exact ⟨a, valV us kk, rfl, by rw [hu2.key e2]; exact DGet.k h1, _, rfl, by rw [look_some h2]; exact k _ B2 H2 (g.trans g2) q2⟩
  · exact q2.elim
theorem dt_dnotin (hu : X.A.units + 1 < cLine) (hi : DEj G p B0 H0 X i dk) (ho : DEj G p B0 H0 X o d) (hm : behindInMarks .NotIn o = false := by first | exact nobehind _ (by decide) (by decide) | rfl) : DTj G p B0 H0 X (.Compare i [.NotIn] [o] pos) (dTst (dDin true dk d)) := by
  refine pt_wk (pt_cmp (pc_dnotin hu hi ho) hm) fun σ H Q ⟨B, σd, Qd, rl, q, k⟩ => ?_
  refine ⟨B, σd, _, rl, q, fun u y B1 H1 g hu2 q1 => ⟨B1, σd, _, rl.grow g, q1, fun w v B2 H2 g2 hw q2 => ?_⟩⟩
  split at q2
  · rename_i ks kk e1 e2
    obtain ⟨a, us, rfl, h1, h2⟩ := hw.dct g2.sub e1
    exact ⟨a, valV us kk, rfl, by rw [hu2.key e2]; exact DGet.k h1, _, rfl, by rw [look_some h2]; exact k _ B2 H2 (g.trans g2) q2⟩
  · exact q2.elim
/-- d[k] = v, d a name that owns its dict -/
def ownK (i : Nat) (σ : DSt) : Prop := ∃ ks, σ[i]? = some (some (.fr (.dct ks)))
def dDput (n : Nat) (dk d : DE) : DS := fun D σ => ownK n σ ∧ d σ fun w => dk σ fun u => match w.cl?, keyOf u.d, σ[n]? with
  | some x, some k, some (some (.fr (.dct ks))) => ks.length < sizeLine ∧ D.nx (σ.set n (some (.fr (.dct (putD ks k x)))))
  | _, _, _ => False
theorem ds_dput {n : Nat} {x : Str} {px pos' : Pos} (hu : X.A.units + 1 < cLine) (hN : X.N[n]? = some x) (hv : Vis X.env.scope x) (hi : DEj G p B0 H0 X i dk) (he : DEj G p B0 H0 X e d)
    (hd : (x == ("__debug__" : Str)) = false := by decide) (hcd : (x == ("__classdict__" : Str)) = false := by decide)
    (hs : swapsWith e (some (.Subscript (.Name x px) i pos')) pos.line X.env = pure false := by rfl) : DSj G p B0 H0 X (.Assign [.Subscript (.Name x px) i pos'] e pos) (dDput n dk d) := by
  refine ps_wk (ps_dput hu (pe_var hN hv hd hcd) hi he hs) fun D σ H ⟨B, σd, Dd, rl, ⟨⟨ks, ex⟩, q⟩, k⟩ => ?_
  refine ⟨B, σd, _, rl, q, fun w v B1 H1 g hw q1 => ?_⟩
  obtain ⟨a, vs, e1, na, hb, h0, h1, h2⟩ := (rl.grow g).ownD ex
  refine ⟨.ref a, e1, B1, σd, _, rl.grow g, q1, fun u y B2 H2 g2 hu2 q2 => ?_⟩
  split at q2
  · rename_i x kk ks' ew eu ex'
    rw [ex] at ex'; cases ex'
    obtain ⟨B3, g3, x3, hx, _⟩ := ((hw.mono g2)).share (g.trans g2) ew
    have r2 := rl.grow g3
    obtain ⟨a', vs', e1', _, hb', _, h1', h2'⟩ := r2.ownD ex
    rw [e1] at e1'; cases e1'
    refine ⟨a, _, rfl, by rw [hu2.key eu]; exact DPut.k h1' (by rw [h2'.len]; exact q2.1), ?_⟩
    exact k.nx B3 _ _ σ g3.base (r2.mutAt ex e1 (Top.k (h2'.put hx))) q2.2
  · exact q2.elim
/-- {k: v for ..} -/
def dDcL (g : Tg) (t : DT) (dk dv : DE) (σ : DSt) : List D → List (Key × D) → (W → Prop) → Prop
  | [], acc, Q => Q (.fr (.dct acc))
  | d :: r, acc, Q => g.bind d σ fun σ1 => t σ1 fun b => if b = true then dk σ1 fun u => dv σ1 fun w => match keyOf u.d, w.cl? with
    | some k, some x => dDcL g t dk dv σ r (putD acc k x) Q
    | _, _ => False
    else dDcL g t dk dv σ r acc Q
def dDc (di : DI) (g : Tg) (t : DT) (dk dv : DE) (vs : List Nat) : DE := fun σ Q => di σ fun ds => ds.length ≤ sizeLine ∧ dDcL g t dk dv (wipeD σ vs) ds [] Q
theorem putD_len (ks : List (Key × D)) (k : Key) (d : D) : (putD ks k d).length ≤ ks.length + 1 := by
  unfold putD
  split <;> simp
theorem wipe_twice (σ : St) (vs us : List Nat) (hs : ∀ j ∈ us, j ∈ vs) : L2.wipe (L2.wipe σ vs) us = L2.wipe σ vs := by
  have none_at : ∀ (vs : List Nat) (j : Nat), j ∈ vs → j < σ.length → (L2.wipe σ vs)[j]? = some none := by
    intro vs
    induction vs with
    | nil => intro j hj; simp at hj
    | cons v vs ih =>
      intro j hj hlen
      show ((L2.wipe σ vs).set v none)[j]? = some none
      by_cases e : v = j
      · subst e
        rw [List.getElem?_set_self (by rw [wipe_length]; exact hlen)]
      · rw [List.getElem?_set_ne e]
        exact ih j ((List.mem_cons.mp hj).resolve_left (Ne.symm e)) hlen
  induction us with
  | nil => rfl
  | cons u us ih =>
    show ((L2.wipe (L2.wipe σ vs) us).set u none) = _
    rw [ih fun j hj => hs j (List.mem_cons_of_mem _ hj)]
    by_cases hlen : u < σ.length
    · exact set_id (none_at vs u (hs u List.mem_cons_self) hlen)
    · exact List.set_eq_of_length_le (by rw [wipe_length]; omega)
theorem sim_dc {g : Tg} {vs : List Nat} (hu : ∀ i ∈ g.ix, i ∈ vs) {σ : St} {H : Hp} {Q : VK} (q : tD G p B0 H0 (dDc di g t dk dv vs) σ H Q) :
    tDc (tDI G p B0 H0 di) (g.g G.K) (tDT G p B0 H0 t) (tD G p B0 H0 dk) (tD G p B0 H0 dv) vs σ H Q := by
  obtain ⟨B, σd, Qd, rl, hq, k⟩ := q
  refine ⟨B, σd, _, rl, hq, fun J ds B1 H1 g1 it ⟨hz, q1⟩ => fun L hL => ?_⟩
  have hBL : B1 L = none := off_base g1.sub hL
  have nL : p ≠ some L := g1.pen.off hL
  have hH : H L = none := g1.there L hL
  refine ⟨fun i m H' => m = ds.length - i ∧ i ≤ ds.length ∧ ∃ B' acc avs, Grow G p B H B' H' ∧ Ex B1 B' ∧ B' L = none ∧ H' L = some (.dK avs) ∧ HasK G B' acc avs ∧ acc.length ≤ i ∧ dDcL g t dk dv (wipeD σd vs) (ds.drop i) acc Qd,
    ⟨ds.length, by simp, Nat.zero_le _, B1, [], [], g1.newF hL, Evl.Ex.refl _, hBL, upd_same, by unfold HasK; rfl, Nat.le_refl _, q1⟩, ?_⟩
  rintro i m H' ⟨rfl, hi, B', acc, avs, g2, x2, hb2, hl2, ha2, hn2, q2⟩
  have hI := it i B' H' x2 (Grow.refl g2.sub g2.pen)
  by_cases hlt : i < ds.length
  · obtain ⟨hgo, hy⟩ := hI.1 _ (List.getElem?_eq_getElem hlt)
    refine .inr ⟨hgo, fun H3 => ∃ B' acc avs, Grow G p B H B' H3 ∧ Ex B1 B' ∧ B' L = none ∧ H3 L = some (.dK avs) ∧ HasK G B' acc avs ∧ acc.length ≤ i + 1 ∧ dDcL g t dk dv (wipeD σd vs) (ds.drop (i + 1)) acc Qd, fun H3 h3 => ⟨_, ?_, rfl, hlt, h3⟩, fun x H3 yx => ?_⟩
    · omega
    · obtain ⟨B3, g3, h3⟩ := hy x H3 yx
      have gL : ∀ {B4 H4 : Hp}, Grow G p B' H' B4 H4 → B4 L = none ∧ H4 L = some (.dK avs) := fun {B4 H4} g => by
        refine ⟨?_, g.keep _ _ nL hl2⟩
        cases z : B4 L with
        | none => rfl
        | some o =>
          rcases g.new L (by rw [z]; simp) with y | y
          · exact absurd hb2 y
          · rw [hl2] at y; cases y
      rw [List.drop_eq_getElem_cons hlt] at q2
      refine tg_bind (us := vs) ((rl.grow (g2.trans g3)).wipe vs) h3 hu q2 fun σd2 σ2 r2 hw q3 => ⟨by rw [hw]; exact wipe_twice σ vs vs fun _ h => h, ?_⟩
      refine ⟨B3, σd2, _, r2, q3, fun b B4 H4 g4 q4 => ?_⟩
      cases b with
      | false =>
        obtain ⟨b1, b2⟩ := gL (g3.trans g4)
        exact ⟨B4, acc, avs, (g2.trans g3).trans g4, x2.trans (g3.trans g4).base, b1, b2, ha2.mono (g3.trans g4).base, Nat.le_succ_of_le hn2, q4⟩
      | true =>
        rw [if_pos rfl] at q4 ⊢
        refine ⟨B4, σd2, _, r2.grow g4, q4, fun u y B5 H5 g5 hu5 q5 => ⟨B5, σd2, _, r2.grow (g4.trans g5), q5, fun w z B6 H6 g6 hw6 q6 => ?_⟩⟩
        split at q6
        · rename_i kk xd ek ex
          obtain ⟨B7, g7, x7, k7, _⟩ := hw6.share g6 ex
          have gg := ((g3.trans g4).trans g5).trans g7
          obtain ⟨b1, b2⟩ := gL gg
          refine ⟨avs, kk, hu5.key ek, b2, Nat.lt_of_lt_of_le (by rw [ha2.len]; omega) hz, B7, putD acc kk xd, _, (g2.trans gg).mut hH b1 nL, x2.trans gg.base, b1, upd_same, (ha2.mono gg.base).put k7, Nat.le_trans (putD_len _ _ _) (by omega), q6⟩
        · exact q6.elim
  · refine .inl ⟨hI.2 (by omega), ?_⟩
    rw [List.drop_eq_nil_of_le (by omega)] at q2
    exact k (.fr (.dct acc)) _ B' H' g2 ⟨L, rfl, hH, hb2, nL, avs, hl2, ha2⟩ q2
theorem de_dc {g : Tg} {gt : TG} (hc : X.calm = true) (hN : X.N.Nodup) (hi : DIj G p B0 H0 X tg iter di) (ok : BlkOk X.N X.env.scope scope own) (hgt : gt = g.g G.K) (hu : ∀ i ∈ g.ix, i ∈ own.map (·.2))
    (hg : ∀ (s : Shared) (H : Hp) (C : Addr) (cl : List (Str × Addr)) (fp : List Addr), PG (X.blk s H scope (compEnvC scope cl C X.env) fp) tg gt)
    (ht : ∀ (s : Shared) (H : Hp) (C : Addr) (cl : List (Str × Addr)) (fp : List Addr), DTsj G p B0 H0 (X.blk s H scope (compEnvC scope cl C X.env) fp) ifs t)
    (hk : ∀ (s : Shared) (H : Hp) (C : Addr) (cl : List (Str × Addr)) (fp : List Addr), DEj G p B0 H0 (X.blk s H scope (compEnvC scope cl C X.env) fp) kx dk)
    (he : ∀ (s : Shared) (H : Hp) (C : Addr) (cl : List (Str × Addr)) (fp : List Addr), DEj G p B0 H0 (X.blk s H scope (compEnvC scope cl C X.env) fp) vx dv) (hs : ∀ x, foldedSetIterable iter X.env x = pure x := by intro _; rfl) :
    DEj G p B0 H0 X (.DictComp kx vx [⟨tg, iter, ifs, 0⟩] scope pos) (dDc di g t dk dv (own.map (·.2))) := by
  subst hgt
  exact pe_wk (pe_dc hc hN hi ok hg ht hk he hs) fun σ H Q q => sim_dc hu q
end
end Dl
namespace Dl
open PySem PySem.Spec PyProof.Rows L2

abbrev fLt : WOp := fCmp (fun i j => decide (i < j)) fun i j => decide (i.cps.toList < j.cps.toList)
abbrev fLe : WOp := fCmp (fun i j => decide (i ≤ j)) fun i j => !decide (j.cps.toList < i.cps.toList)
abbrev fGt : WOp := fCmp (fun i j => decide (j < i)) fun i j => decide (j.cps.toList < i.cps.toList)
abbrev fGe : WOp := fCmp (fun i j => decide (j ≤ i)) fun i j => !decide (i.cps.toList < j.cps.toList)

/-! ### short words for the printed terms -/
section
variable {G : Gx} {p : Option Addr} {B0 H0 : Hp} {X : Cx} {e i : Expr} {d dk : DE} {pos cpos apos : Pos}
theorem de_n (i : Nat) {x : Str} {pos : Pos} (hN : X.N[i]? = some x := by rfl) (hv : Vis X.env.scope x := by first | exact Or.inl rfl | exact Or.inr (Or.inl rfl) | exact Or.inr (Or.inr rfl))
    (hd : (x == ("__debug__" : Str)) = false := by decide) (hcd : (x == ("__classdict__" : Str)) = false := by decide) : DEj G p B0 H0 X (.Name x pos) (dV i) := de_v hN hv hd hcd
theorem pgn (nd : X.N.Nodup) (i : Nat) {x : Str} {pos : Pos} (hN : X.N[i]? = some x := by rfl) (hx : Loc X.env.scope x := by first | exact Or.inl rfl | exact Or.inr rfl)
    (hf : X.fn x = true ∨ X.env.scope.names.lookup x = some .local := by first | exact .inl rfl | exact .inr rfl | assumption) : PG X (.Name x pos) (gName i) := pg_name nd hN hx hf
theorem ds_retn_ (i : Nat) {x : Str} {py : Pos} (hN : X.N[i]? = some x := by rfl) (hv : Vis X.env.scope x := by first | exact Or.inl rfl | exact Or.inr (Or.inl rfl) | exact Or.inr (Or.inr rfl))
    (hd : (x == ("__debug__" : Str)) = false := by decide) (hcd : (x == ("__classdict__" : Str)) = false := by decide) : DSj G p B0 H0 X (.Return (some (.Name x py)) pos) (dRetV i) := ds_retv hN hv hd hcd
theorem ds_set_ (nd : X.N.Nodup) (i : Nat) {x : Str} {py : Pos} (he : DEj G p B0 H0 X e d) (hi : X.N[i]? = some x := by rfl) (hx : Loc X.env.scope x := by first | exact Or.inl rfl | exact Or.inr rfl)
    (hs : swapsWith e (some (.Name x py)) pos.line X.env = pure false := by rfl) (hf : X.fn x = true ∨ X.env.scope.names.lookup x = some .local := by first | exact .inl rfl | exact .inr rfl | assumption) : DSj G p B0 H0 X (.Assign [.Name x py] e pos) (dAsg d i) := ds_set nd hi hx he hs hf
theorem ds_append_ (i : Nat) {x : Str} {px : Pos} (he : DEj G p B0 H0 X e d) (hN : X.N[i]? = some x := by rfl) (hv : Vis X.env.scope x := by first | exact Or.inl rfl | exact Or.inr (Or.inl rfl) | exact Or.inr (Or.inr rfl))
    (hd : (x == ("__debug__" : Str)) = false := by decide) (hcd : (x == ("__classdict__" : Str)) = false := by decide)
    (hbase : attributeBase (.Name x px) "append" X.env (eval (.Name x px) X.env) = eval (.Name x px) X.env := by rfl)
    (hfew : ((backTo cpos (starEach [e] X.env)).all (fun x => !x.1) && (backToKw cpos (keywordEach [] X.env)).all (fun x => x.1.isSome) && decide ([e].length + ([] : List Keyword).length + (if ([] : List Keyword).isEmpty then 0 else 1) < 30)) = true := by rfl)
    (hline : (apos.endLine == cpos.line) = true := by rfl) (hs : starEach [e] X.env = (false, eval e X.env) :: starEach [] X.env := by rfl) (hplain : (backTo cpos (starEach [] X.env)).any (·.1) = false := by rfl)
    (hsw : swapsWith (.Call (.Attribute (.Name x px) "append" apos) [e] [] cpos) none pos.line X.env = pure false := by rfl) :
    DSj G p B0 H0 X (.Expr (.Call (.Attribute (.Name x px) "append" apos) [e] [] cpos) pos) (dAppend i d) := ds_append hN hv he hd hcd hbase hfew hline hs hplain hsw
theorem ds_extend_ (i : Nat) {x : Str} {px : Pos} (he : DEj G p B0 H0 X e d) (hN : X.N[i]? = some x := by rfl) (hv : Vis X.env.scope x := by first | exact Or.inl rfl | exact Or.inr (Or.inl rfl) | exact Or.inr (Or.inr rfl))
    (hd : (x == ("__debug__" : Str)) = false := by decide) (hcd : (x == ("__classdict__" : Str)) = false := by decide)
    (hbase : attributeBase (.Name x px) "extend" X.env (eval (.Name x px) X.env) = eval (.Name x px) X.env := by rfl)
    (hfew : ((backTo cpos (starEach [e] X.env)).all (fun x => !x.1) && (backToKw cpos (keywordEach [] X.env)).all (fun x => x.1.isSome) && decide ([e].length + ([] : List Keyword).length + (if ([] : List Keyword).isEmpty then 0 else 1) < 30)) = true := by rfl)
    (hline : (apos.endLine == cpos.line) = true := by rfl) (hs : starEach [e] X.env = (false, eval e X.env) :: starEach [] X.env := by rfl) (hplain : (backTo cpos (starEach [] X.env)).any (·.1) = false := by rfl)
    (hsw : swapsWith (.Call (.Attribute (.Name x px) "extend" apos) [e] [] cpos) none pos.line X.env = pure false := by rfl) :
    DSj G p B0 H0 X (.Expr (.Call (.Attribute (.Name x px) "extend" apos) [e] [] cpos) pos) (dExtend i d) := ds_extend hN hv he hd hcd hbase hfew hline hs hplain hsw
theorem ds_pop_ (nd : X.N.Nodup) (j i : Nat) {x y : Str} {px py : Pos} (hN : X.N[i]? = some x := by rfl) (hv : Vis X.env.scope x := by first | exact Or.inl rfl | exact Or.inr (Or.inl rfl) | exact Or.inr (Or.inr rfl)) (hj : X.N[j]? = some y := by rfl) (hy : Loc X.env.scope y := by first | exact Or.inl rfl | exact Or.inr rfl)
    (hd : (x == ("__debug__" : Str)) = false := by decide) (hcd : (x == ("__classdict__" : Str)) = false := by decide)
    (hbase : attributeBase (.Name x px) "pop" X.env (eval (.Name x px) X.env) = eval (.Name x px) X.env := by rfl) (hline : (apos.endLine == cpos.line) = true := by rfl)
    (hsw : swapsWith (.Call (.Attribute (.Name x px) "pop" apos) [] [] cpos) (some (.Name y py)) pos.line X.env = pure false := by rfl)
    (hf : X.fn y = true ∨ X.env.scope.names.lookup y = some .local := by first | exact .inl rfl | exact .inr rfl | assumption) :
    DSj G p B0 H0 X (.Assign [.Name y py] (.Call (.Attribute (.Name x px) "pop" apos) [] [] cpos) pos) (dPop j i) := ds_pop nd hN hv hj hy hd hcd hbase hline hsw hf
theorem ds_popAt_ (nd : X.N.Nodup) (j i : Nat) {x y : Str} {px py : Pos} (he : DEj G p B0 H0 X e d) (hN : X.N[i]? = some x := by rfl) (hv : Vis X.env.scope x := by first | exact Or.inl rfl | exact Or.inr (Or.inl rfl) | exact Or.inr (Or.inr rfl)) (hj : X.N[j]? = some y := by rfl) (hy : Loc X.env.scope y := by first | exact Or.inl rfl | exact Or.inr rfl)
    (hd : (x == ("__debug__" : Str)) = false := by decide) (hcd : (x == ("__classdict__" : Str)) = false := by decide)
    (hbase : attributeBase (.Name x px) "pop" X.env (eval (.Name x px) X.env) = eval (.Name x px) X.env := by rfl)
    (hfew : ((backTo cpos (starEach [e] X.env)).all (fun x => !x.1) && (backToKw cpos (keywordEach [] X.env)).all (fun x => x.1.isSome) && decide ([e].length + ([] : List Keyword).length + (if ([] : List Keyword).isEmpty then 0 else 1) < 30)) = true := by rfl)
    (hline : (apos.endLine == cpos.line) = true := by rfl) (hs : starEach [e] X.env = (false, eval e X.env) :: starEach [] X.env := by rfl) (hplain : (backTo cpos (starEach [] X.env)).any (·.1) = false := by rfl)
    (hsw : swapsWith (.Call (.Attribute (.Name x px) "pop" apos) [e] [] cpos) (some (.Name y py)) pos.line X.env = pure false := by rfl)
    (hf : X.fn y = true ∨ X.env.scope.names.lookup y = some .local := by first | exact .inl rfl | exact .inr rfl | assumption) :
    DSj G p B0 H0 X (.Assign [.Name y py] (.Call (.Attribute (.Name x px) "pop" apos) [e] [] cpos) pos) (dPopAt j i d) := ds_popAt nd hN hv hj hy he hd hcd hbase hfew hline hs hplain hsw hf
theorem ds_appPop_ (j i : Nat) {x y : Str} {px py : Pos} {apos1 cpos1 : Pos} (he : DEj G p B0 H0 X e d) (hN : X.N[i]? = some x := by rfl) (hv : Vis X.env.scope x := by first | exact Or.inl rfl | exact Or.inr (Or.inl rfl) | exact Or.inr (Or.inr rfl)) (hN' : X.N[j]? = some y := by rfl) (hv' : Vis X.env.scope y := by first | exact Or.inl rfl | exact Or.inr (Or.inl rfl) | exact Or.inr (Or.inr rfl))
    (hd : (x == ("__debug__" : Str)) = false := by decide) (hcd : (x == ("__classdict__" : Str)) = false := by decide) (hd' : (y == ("__debug__" : Str)) = false := by decide) (hcd' : (y == ("__classdict__" : Str)) = false := by decide)
    (hbase : attributeBase (.Name x px) "pop" X.env (eval (.Name x px) X.env) = eval (.Name x px) X.env := by rfl)
    (hfew : ((backTo cpos1 (starEach [e] X.env)).all (fun x => !x.1) && (backToKw cpos1 (keywordEach [] X.env)).all (fun x => x.1.isSome) && decide ([e].length + ([] : List Keyword).length + (if ([] : List Keyword).isEmpty then 0 else 1) < 30)) = true := by rfl)
    (hline : (apos1.endLine == cpos1.line) = true := by rfl) (hs : starEach [e] X.env = (false, eval e X.env) :: starEach [] X.env := by rfl) (hplain : (backTo cpos1 (starEach [] X.env)).any (·.1) = false := by rfl)
    (hbase' : attributeBase (.Name y py) "append" X.env (eval (.Name y py) X.env) = eval (.Name y py) X.env := by rfl)
    (hfew' : ((backTo cpos (starEach [.Call (.Attribute (.Name x px) "pop" apos1) [e] [] cpos1] X.env)).all (fun x => !x.1) && (backToKw cpos (keywordEach [] X.env)).all (fun x => x.1.isSome) && decide ([Expr.Call (.Attribute (.Name x px) "pop" apos1) [e] [] cpos1].length + ([] : List Keyword).length + (if ([] : List Keyword).isEmpty then 0 else 1) < 30)) = true := by rfl)
    (hline' : (apos.endLine == cpos.line) = true := by rfl) (hs' : starEach [.Call (.Attribute (.Name x px) "pop" apos1) [e] [] cpos1] X.env = (false, eval (.Call (.Attribute (.Name x px) "pop" apos1) [e] [] cpos1) X.env) :: starEach [] X.env := by rfl) (hplain' : (backTo cpos (starEach [] X.env)).any (·.1) = false := by rfl)
    (hsw : swapsWith (.Call (.Attribute (.Name y py) "append" apos) [.Call (.Attribute (.Name x px) "pop" apos1) [e] [] cpos1] [] cpos) none pos.line X.env = pure false := by rfl) :
    DSj G p B0 H0 X (.Expr (.Call (.Attribute (.Name y py) "append" apos) [.Call (.Attribute (.Name x px) "pop" apos1) [e] [] cpos1] [] cpos) pos) (dAppPop j i d) :=
  ds_appPop hN hv hN' hv' he hd hcd hd' hcd' hbase hfew hline hs hplain hbase' hfew' hline' hs' hplain' hsw
theorem ds_dput_ (hu : X.A.units + 1 < cLine) (n : Nat) {x : Str} {px pos' : Pos} (hi : DEj G p B0 H0 X i dk) (he : DEj G p B0 H0 X e d) (hN : X.N[n]? = some x := by rfl) (hv : Vis X.env.scope x := by first | exact Or.inl rfl | exact Or.inr (Or.inl rfl) | exact Or.inr (Or.inr rfl))
    (hd : (x == ("__debug__" : Str)) = false := by decide) (hcd : (x == ("__classdict__" : Str)) = false := by decide)
    (hs : swapsWith e (some (.Subscript (.Name x px) i pos')) pos.line X.env = pure false := by rfl) : DSj G p B0 H0 X (.Assign [.Subscript (.Name x px) i pos'] e pos) (dDput n dk d) := ds_dput hu hN hv hi he hd hcd hs
end
/-- a def that may be called: where it stands, what it keeps -/
structure Cal (P : Program) (w : World) (K : PySem.W.Frag) (mg : Str → Option Value) (base : Heap) (x : Str) (k : Nat) (ps : List Str) (sp : Sp) (f : Addr) (fd : FuncData) : Prop where
  ok : FnOk P w K mg base CX0 k f fd ps sp
  g : mg x = some (.ref f)
  kp : PySem.W.keepIn K (.ref f) = true
  b : Binds K fd ps []
end Dl
namespace Dl
open PySem PySem.Spec PyProof.Rows L2

/-! ### the pen of the laws -/
abbrev kc : L2.Key := .inr "cells"
abbrev ka : L2.Key := .inr "at"
abbrev kd : L2.Key := .inr "digits"
abbrev kn : L2.Key := .inr "count"
abbrev kf : L2.Key := .inr "fold"
theorem qca : ¬ (("cells" : Str) = "at") := by decide +kernel
theorem kca : ¬ kc = ka := fun h => qca (Sum.inr.inj h)
theorem qcd : ¬ (("cells" : Str) = "digits") := by decide +kernel
theorem kcd : ¬ kc = kd := fun h => qcd (Sum.inr.inj h)
theorem qcn : ¬ (("cells" : Str) = "count") := by decide +kernel
theorem kcn : ¬ kc = kn := fun h => qcn (Sum.inr.inj h)
theorem qcf : ¬ (("cells" : Str) = "fold") := by decide +kernel
theorem kcf : ¬ kc = kf := fun h => qcf (Sum.inr.inj h)
theorem qad : ¬ (("at" : Str) = "digits") := by decide +kernel
theorem kad : ¬ ka = kd := fun h => qad (Sum.inr.inj h)
theorem qan : ¬ (("at" : Str) = "count") := by decide +kernel
theorem kan : ¬ ka = kn := fun h => qan (Sum.inr.inj h)
theorem qaf : ¬ (("at" : Str) = "fold") := by decide +kernel
theorem kaf : ¬ ka = kf := fun h => qaf (Sum.inr.inj h)
theorem qdn : ¬ (("digits" : Str) = "count") := by decide +kernel
theorem kdn : ¬ kd = kn := fun h => qdn (Sum.inr.inj h)
theorem qdf : ¬ (("digits" : Str) = "fold") := by decide +kernel
theorem kdf : ¬ kd = kf := fun h => qdf (Sum.inr.inj h)
theorem qnf : ¬ (("count" : Str) = "fold") := by decide +kernel
theorem knf : ¬ kn = kf := fun h => qnf (Sum.inr.inj h)
section
variable {c : Addr} {a d n f x : Int}
theorem pg_c : valV (penD c a d n f) kc = some (.ref c) := valV_pos rfl
theorem pg_a : valV (penD c a d n f) ka = some (.int a) := (valV_neg kca).trans (valV_pos rfl)
theorem pg_d : valV (penD c a d n f) kd = some (.int d) := (valV_neg kcd).trans ((valV_neg kad).trans (valV_pos rfl))
theorem pg_n : valV (penD c a d n f) kn = some (.int n) := (valV_neg kcn).trans ((valV_neg kan).trans ((valV_neg kdn).trans (valV_pos rfl)))
theorem pg_f : valV (penD c a d n f) kf = some (.int f) := (valV_neg kcf).trans ((valV_neg kaf).trans ((valV_neg kdf).trans ((valV_neg knf).trans (valV_pos rfl))))
theorem pp_a : putK (penD c a d n f) ka (.int x) = penD c x d n f := by
  simp [putK, penD, qca, Ne.symm qca, qad, Ne.symm qad, qan, Ne.symm qan, qaf, Ne.symm qaf]
theorem pp_d : putK (penD c a d n f) kd (.int x) = penD c a x n f := by
  simp [putK, penD, qcd, Ne.symm qcd, qad, Ne.symm qad, qdn, Ne.symm qdn, qdf, Ne.symm qdf]
theorem pp_n : putK (penD c a d n f) kn (.int x) = penD c a d x f := by
  simp [putK, penD, qcn, Ne.symm qcn, qan, Ne.symm qan, qdn, Ne.symm qdn, qnf, Ne.symm qnf]
theorem pp_f : putK (penD c a d n f) kf (.int x) = penD c a d n x := by
  simp [putK, penD, qcf, Ne.symm qcf, qaf, Ne.symm qaf, qdf, Ne.symm qdf, qnf, Ne.symm qnf]
end
theorem pen_len {c : Addr} {a d n f : Int} : (penD c a d n f).length < sizeLine := by
  rw [sizeLine_eq]; show 5 < _; omega
section
variable {i : Nat} {a : Addr} {kvs : List (L2.Key × V)} {key : Str} {v : V} {σ : St} {H : Hp} {Q : VK} {D : Ends} {tv : TE}
theorem rdp (hs : σ[i]? = some (some (.ref a))) (hH : H a = some (.dK kvs)) (hv : valV kvs (.inr key) = some v) (q : Q v H) : tDGet (tVar i) (tC (.str key)) σ H Q := ⟨_, hs, a, v, rfl, by rw [← hv]; exact DGet.k (k := .inr key) hH, q⟩
end
section
variable {X : Cx}
theorem pv (i : Nat) {x : Str} {pos : Pos} (hN : X.N[i]? = some x := by rfl) (hv : Vis X.env.scope x := by first | exact Or.inl rfl | exact Or.inr (Or.inl rfl) | exact Or.inr (Or.inr rfl))
    (hd : (x == ("__debug__" : Str)) = false := by decide) (hcd : (x == ("__classdict__" : Str)) = false := by decide) : PE X (.Name x pos) (tVar i) := pe_var hN hv hd hcd
end

theorem upd_own {H : Hp} {a : Addr} {o : HO} (h : H a = some o) : upd H a o = H := by
  funext b
  unfold upd
  split
  · rename_i e; rw [e, h]
  · rfl
/-- what a draw gives -/
def F__law_draw : Fd := fun ws Q => ∃ m : Int, ws = [.pen, .sh (.int m)] ∧ 0 < m ∧ m < 1073741824 ∧ ∀ k : Int, 0 ≤ k → k < m → Q (.sh (.int k))
/-- the pen moved -/
theorem Grow.pen_to {G : Gx} {B H : Hp} {a c : Addr} {ns : List Int} {x d n f : Int} (s : Ex B H) (h0 : B a = none) (hH : H a ≠ none) (hc : SqL G.K B c (List.map V.int ns)) (h1 : 0 ≤ x) (h2 : 0 ≤ d) :
    Grow G (some a) B H B (upd H a (.dK (penD c x d n f))) where
  keep := fun b o nb e => by rw [upd_ne (fun q => nb (by rw [q]))]; exact e
  there := fun b e => by
    by_cases q : b = a
    · subst q; rw [upd_same] at e; cases e
    · rw [upd_ne q] at e; exact e
  base := Evl.Ex.refl _
  sub := fun b o e => by
    rw [upd_ne (fun q => by rw [q, h0] at e; cases e)]; exact s b o e
  new := fun b e => .inl e
  pen := fun b q => by
    cases q
    exact ⟨h0, c, ns, x, d, n, f, upd_same, hc, h1, h2⟩
theorem pen_merge {c : Addr} {a d n f : Int} : mergeK [] (penD c a d n f) = penD c a d n f := by
  simp [mergeK, putK, penD, qca, Ne.symm qca, qcd, Ne.symm qcd, qcn, Ne.symm qcn, qcf, Ne.symm qcf, qad, Ne.symm qad, qan, Ne.symm qan, qaf, Ne.symm qaf, qdn, Ne.symm qdn, qdf, Ne.symm qdf, qnf, Ne.symm qnf]
/-- a pen made of a script -/
def spPen (K : PySem.W.Frag) : Sp := fun vs H Q _ => ∃ (a : Addr) (ns : List Int), vs = [.ref a] ∧ SqL K H a (List.map V.int ns) ∧ ∀ (x c : Addr) (f : Int) (H' : Hp), (∀ b o, H b = some o → H' b = some o) → x ≠ c → H' x = some (.dK (penD c 0 0 0 f)) → H' c = some (.lst (List.map V.int ns)) → Q (.ref x) H'
/-- from here on over data, whatever stood -/
def tEx (G : Gx) (d : DS) : TS := fun De σ H => ∃ (p : Option Addr) (B0 H0 : Hp), tS G p B0 H0 d De σ H
theorem dss_ex {G : Gx} {X : Cx} {sts : List Stmt} {d : DS} (h : ∀ (p : Option Addr) (B0 H0 : Hp), DSsj G p B0 H0 X sts d) : PSs X sts (tEx G d) := ⟨fun pins s σ H D I ⟨p, B0, H0, q⟩ => (h p B0 H0).run pins s σ H D I q⟩
/-- the pen has been made: the rest of a law -/
theorem pen_rest {G : Gx} {d : DS} {De : Ends} {σ : St} {σd : DSt} {x c : Addr} {f : Int} {ns : List Int} {H : Hp} (ex : H x = some (.dK (penD c 0 0 0 f))) (xc : x ≠ c) (ec : H c = some (.lst (List.map V.int ns))) (hl : σd.length = σ.length)
    (hσ : ∀ (i : Nat) (w : W), σd[i]? = some (some w) → w = .pen ∧ σ[i]? = some (some (.ref x))) (hd : d { nx := fun _ => False, rt := fun w => w = .sh (.bl true) } σd) (hq : ∀ H', De.rt (.bl true) H') : tEx G d De σ H := by
  let B : Hp := fun b => if b = x then none else H b
  have bx : B x = none := if_pos rfl
  have bn : ∀ b, b ≠ x → B b = H b := fun b n => if_neg n
  have hs : Ex B H := fun b o e => by
    have n : b ≠ x := fun q => by rw [q, bx] at e; cases e
    rw [bn b n] at e; exact e
  have hk : PenOk G (some x) B H := fun a q => by
    cases q
    exact ⟨bx, c, ns, 0, 0, 0, f, ex, SqL.of (by rw [bn c (Ne.symm xc)]; exact ec), by omega, by omega⟩
  refine ⟨some x, B, H, B, σd, _, ⟨⟨hs, hk⟩, Grow.refl hs hk, hl, fun i w e => ?_, fun i d e => ?_, fun i j d e v n ei ej hv hj => ?_⟩, hd, fun _ _ _ _ _ _ q => q.elim, fun _ _ _ _ _ _ q => q.elim, fun _ _ _ _ _ _ q => q.elim, fun w v B' H' g hw nb q => ?_⟩
  · obtain ⟨rfl, h⟩ := hσ i w e
    exact ⟨_, h, x, rfl, rfl⟩
  · cases (hσ i _ e).1
  · cases (hσ i _ ei).1
  · subst q
    have e : v = .bl true := hw.bl rfl
    subst e
    exact hq H'
end Dl
namespace Dl
open PySem PySem.Spec PyProof.Rows L2

/-! ### rules for walks over data -/
theorem for_rule {g : Tg} {u : DS} {D : DEnds} {I : List Dl.D → DSt → Prop} (step : ∀ (d : Dl.D) (r : List Dl.D) (σ : DSt), I (d :: r) σ → ∀ D' : DEnds, (∀ σ', I r σ' → D'.nx σ') → (∀ σ', I r σ' → D'.ct σ') → D'.bk = D.nx → D'.rt = D.rt → g.bind d σ fun σ1 => u D' σ1)
    (done : ∀ σ, I [] σ → D.nx σ) : ∀ (ds : List Dl.D) (σ : DSt), I ds σ → dForL g u D ds σ
  | [], σ, h => done σ h
  | d :: r, σ, h => step d r σ h _ (fun σ' h' => for_rule step done r σ' h') (fun σ' h' => for_rule step done r σ' h') rfl rfl
theorem lc_rule {g : Tg} {t : DT} {e : DE} {σ : DSt} {Q : W → Prop} (p : D → Bool) (f : D → D) : ∀ (ds : List D) (acc : List D), (∀ d ∈ ds, ∀ (R : D → Prop) (S : Prop), (p d = true → R (f d)) → (p d = false → S) → g.bind d σ fun σ1 => t σ1 fun b => if b = true then e σ1 fun w => match w.cl? with | some x => R x | none => False else S) →
    Q (.fr (.lst (acc ++ (ds.filter p).map f))) → dLcL g t e σ ds acc Q
  | [], acc, h, q => by simpa [dLcL] using q
  | d :: r, acc, h, q => by
    unfold dLcL
    refine h d (List.mem_cons_self ..) (fun x => dLcL g t e σ r (acc ++ [x]) Q) _ (fun hp => ?_) (fun hp => ?_)
    · refine lc_rule p f r _ (fun d' hd' => h d' (List.mem_cons_of_mem _ hd')) ?_
      rw [List.filter_cons, if_pos hp] at q
      simpa using q
    · refine lc_rule p f r _ (fun d' hd' => h d' (List.mem_cons_of_mem _ hd')) ?_
      rw [List.filter_cons, if_neg (by rw [hp]; exact Bool.false_ne_true)] at q
      simpa using q
theorem lc_map {g : Tg} {t : DT} {e : DE} {σ : DSt} {Q : W → Prop} (f : D → D) (ds : List D) (h : ∀ d ∈ ds, ∀ (R : D → Prop) (S : Prop), R (f d) → g.bind d σ fun σ1 => t σ1 fun b => if b = true then e σ1 fun w => match w.cl? with | some x => R x | none => False else S)
    (q : Q (.fr (.lst (ds.map f)))) : dLcL g t e σ ds [] Q :=
  lc_rule (fun _ => true) f ds [] (fun d hd R S h1 _ => h d hd R S (h1 rfl)) (by rw [List.filter_eq_self.mpr (by simp)]; simpa using q)
theorem lc_some {g : Tg} {t : DT} {e : DE} {σ : DSt} {Q : W → Prop} (P : D → Prop) : ∀ (ds acc : List D), (∀ d ∈ ds, ∀ (R : D → Prop) (S : Prop), (∀ x, P x → R x) → g.bind d σ fun σ1 => t σ1 fun b => if b = true then e σ1 fun w => match w.cl? with | some x => R x | none => False else S) →
    (∀ xs : List D, xs.length = ds.length → (∀ x ∈ xs, P x) → Q (.fr (.lst (acc ++ xs)))) → dLcL g t e σ ds acc Q
  | [], acc, h, q => by
    have := q [] rfl (by simp)
    simpa [dLcL] using this
  | d :: r, acc, h, q => by
    unfold dLcL
    refine h d (List.mem_cons_self ..) (fun x => dLcL g t e σ r (acc ++ [x]) Q) _ (fun x hx => ?_)
    refine lc_some P r _ (fun d' hd' => h d' (List.mem_cons_of_mem _ hd')) fun xs hl hxs => ?_
    have := q (x :: xs) (by simp [hl]) (by
      intro y hy
      rcases List.mem_cons.mp hy with rfl | hy
      · exact hx
      · exact hxs y hy)
    simpa using this

/-! ### texts as lists of signs -/
def S (l : List Nat) : Str := ⟨l.toArray⟩
theorem S_cps (l : List Nat) : (S l).cps.toList = l := rfl
theorem S_len (l : List Nat) : (S l).length = l.length := by
  show (l.toArray).size = l.length
  simp
theorem S_app (a b : List Nat) : S a ++ S b = S (a ++ b) := by
  show Str.mk (a.toArray ++ b.toArray) = Str.mk (a ++ b).toArray
  rw [List.append_toArray]
theorem S_inj {a b : List Nat} : S a = S b ↔ a = b := ⟨fun h => by have := congrArg (fun z : Str => z.cps.toList) h; simpa [S] using this, fun h => by rw [h]⟩
theorem S_of (z : Str) : z = S z.cps.toList := by cases z; simp [S]
theorem one_S (c : Nat) : one c = S [c] := rfl
theorem S_nil : (("" : Str)) = S [] := rfl
theorem signs_S (l : List Nat) : signsOf (S l) = l.map fun c => .str (S [c]) := rfl
theorem signStrs_S (l : List Nat) : signStrs (S l) = l.map fun c => S [c] := rfl
theorem S_len_le {l : List Nat} (h : l.length ≤ 16777216) : (S l).length ≤ sizeLine := by rw [S_len, sizeLine_eq]; exact h

/-! ### signs in their order -/
def srt (l : List Nat) : List Nat := l.mergeSort (fun a b => decide (a ≤ b))
theorem srt_perm (l : List Nat) : (srt l).Perm l := List.mergeSort_perm ..
theorem srt_sorted (l : List Nat) : (srt l).Pairwise (· ≤ ·) := by
  have := List.pairwise_mergeSort (le := fun a b : Nat => decide (a ≤ b)) (fun a b c h1 h2 => by simp at *; omega) (fun a b => by simp; omega) l
  exact this.imp fun h => by simpa using h
theorem srt_len (l : List Nat) : (srt l).length = l.length := (srt_perm l).length_eq
theorem srt_mem {l : List Nat} {c : Nat} : c ∈ srt l ↔ c ∈ l := (srt_perm l).mem_iff
theorem srt_nodup {l : List Nat} (h : l.Nodup) : (srt l).Nodup := (srt_perm l).nodup_iff.mpr h
theorem rise_one : ∀ (l : List Nat) (a : Nat), risingS (S [a]) (l.map fun c => S [c]) = true → (∀ x ∈ l, a ≤ x) ∧ l.Pairwise (· ≤ ·)
  | [], _, _ => ⟨fun _ h => by simp at h, .nil⟩
  | b :: r, a, h => by
    simp only [List.map_cons, risingS, Bool.and_eq_true] at h
    obtain ⟨h1, h2⟩ := h
    have hb := rise_one r b h2
    have hab : a ≤ b := by
      simp [S, ltCps] at h1
      omega
    refine ⟨fun x hx => ?_, List.pairwise_cons.mpr ⟨hb.1, hb.2⟩⟩
    rcases List.mem_cons.mp hx with rfl | hx
    · exact hab
    · exact Nat.le_trans hab (hb.1 x hx)
theorem sorted_one {l : List Nat} (h : sortedS (l.map fun c => S [c]) = true) : l.Pairwise (· ≤ ·) := by
  cases l with
  | nil => exact .nil
  | cons a r =>
    have := rise_one r a h
    exact List.pairwise_cons.mpr ⟨this.1, this.2⟩
theorem sorted_signs {l : List Nat} {ys : List Str} (hp : ys.Perm (l.map fun c => S [c])) (hs : sortedS ys = true) : ys = (srt l).map fun c => S [c] := by
  let g : Str → Nat := fun z => z.cps.toList.headD 0
  have e1 : (ys.map g).Perm l := by
    have := hp.map g
    rw [List.map_map] at this
    have q : (g ∘ fun c => S [c]) = id := by funext c; rfl
    rw [q, List.map_id] at this
    exact this
  have e2 : ys = (ys.map g).map fun c => S [c] := by
    rw [List.map_map]
    symm
    rw [List.map_congr_left (g := id)]
    · simp
    · intro y hy
      have := hp.mem_iff.mp hy
      obtain ⟨c, _, rfl⟩ := List.mem_map.mp this
      rfl
  rw [e2] at hs ⊢
  congr 1
  exact List.Perm.eq_of_pairwise (le := (· ≤ ·)) (fun a b _ _ h1 h2 => Nat.le_antisymm h1 h2) (sorted_one hs) (srt_sorted l) (e1.trans (srt_perm l).symm)
theorem i_sorted {l : List Nat} {Q : W → Prop} (h : l.length < 64) (q : Q (.fr (.lst ((srt l).map fun c => .str (S [c]))))) : fSorted [.sh (.str (S l))] Q := by
  unfold fSorted
  refine ⟨by rw [S_len]; exact h, fun ys hp hs => ?_⟩
  rw [sorted_signs hp hs, List.map_map]
  exact q
end Dl
namespace Dl
/-! ### numbers of words: each sign a digit from 1 on -/
def geo (m : Nat) : Nat → Nat
  | 0 => 0
  | n + 1 => geo m n + m ^ n
def ix (t : List Nat) (c : Nat) : Nat := t.idxOf c
/-- the number, digits from 0 on -/
def num (t : List Nat) (w : List Nat) : Nat := w.foldl (fun a c => a * t.length + ix t c) 0
/-- the place -/
def plc (t : List Nat) (w : List Nat) : Nat := w.foldl (fun a c => a * t.length + (ix t c + 1)) 0
theorem geo_succ (m n : Nat) : geo m (n + 1) = 1 + m * geo m n := by
  induction n with
  | zero => simp [geo]
  | succ n ih =>
    show geo m (n + 1) + m ^ (n + 1) = 1 + m * (geo m n + m ^ n)
    rw [ih, Nat.mul_add, Nat.pow_succ, Nat.mul_comm (m ^ n) m]; omega
theorem num_snoc (t w : List Nat) (c : Nat) : num t (w ++ [c]) = num t w * t.length + ix t c := by simp [num, List.foldl_append]
theorem plc_snoc (t w : List Nat) (c : Nat) : plc t (w ++ [c]) = plc t w * t.length + (ix t c + 1) := by simp [plc, List.foldl_append]
theorem snoc_ind {P : List Nat → Prop} (h0 : P []) (h1 : ∀ w c, P w → P (w ++ [c])) : ∀ w, P w := by
  intro w
  have : ∀ v : List Nat, P v.reverse := fun v => by
    induction v with
    | nil => exact h0
    | cons c v ih => rw [List.reverse_cons]; exact h1 _ _ ih
  have := this w.reverse
  rwa [List.reverse_reverse] at this
theorem plc_num (t : List Nat) : ∀ w, plc t w = num t w + geo t.length w.length := by
  refine snoc_ind ?_ ?_
  · simp [plc, num, geo]
  · intro w c ih
    rw [plc_snoc, num_snoc, ih, List.length_append, List.length_singleton, geo_succ, Nat.add_mul, Nat.mul_comm (geo _ _)]
    omega
theorem num_app (t a : List Nat) : ∀ b, num t (a ++ b) = num t a * t.length ^ b.length + num t b := by
  refine snoc_ind ?_ ?_
  · simp [num]
  · intro b c ih
    rw [← List.append_assoc, num_snoc, ih, num_snoc, List.length_append, List.length_singleton, Nat.pow_succ, Nat.add_mul, Nat.mul_assoc]
    omega
theorem num_lt {t : List Nat} : ∀ w : List Nat, (∀ c ∈ w, c ∈ t) → num t w < t.length ^ w.length := by
  refine snoc_ind ?_ ?_
  · intro _; simp [num]
  · intro w c ih h
    have h1 := ih fun x hx => h x (by simp [hx])
    have h2 : ix t c < t.length := List.idxOf_lt_length_of_mem (h c (by simp))
    rw [num_snoc, List.length_append, List.length_singleton, Nat.pow_succ]
    have : (num t w + 1) * t.length ≤ t.length ^ w.length * t.length := Nat.mul_le_mul_right _ h1
    rw [Nat.add_mul] at this
    omega
/-- the word at a place -/
def wat (t : List Nat) (p : Nat) : List Nat :=
  if h : 0 < p ∧ 0 < t.length then wat t ((p - 1) / t.length) ++ [t.getD ((p - 1) % t.length) 0] else []
termination_by p
decreasing_by
  have := Nat.div_le_self (p - 1) t.length
  omega
theorem wat_pos {t : List Nat} {p : Nat} (h : 0 < p) (ht : 0 < t.length) : wat t p = wat t ((p - 1) / t.length) ++ [t.getD ((p - 1) % t.length) 0] := by
  rw [wat, dif_pos ⟨h, ht⟩]
theorem wat_zero (t : List Nat) : wat t 0 = [] := by rw [wat, dif_neg (by omega)]
theorem wat_mem {t : List Nat} (ht : 0 < t.length) (p : Nat) : ∀ c ∈ wat t p, c ∈ t := by
  induction p using Nat.strongRecOn with
  | _ p ih =>
    by_cases h : 0 < p
    · rw [wat_pos h ht]
      intro c hc
      rcases List.mem_append.mp hc with hc | hc
      · have := Nat.div_le_self (p - 1) t.length
        exact ih _ (by omega) c hc
      · have hl := Nat.mod_lt (p - 1) ht
        rw [List.mem_singleton] at hc
        rw [hc, List.getD_eq_getElem?_getD, List.getElem?_eq_getElem hl]
        exact List.getElem_mem hl
    · have : p = 0 := by omega
      subst this
      rw [wat_zero]; simp
theorem ix_getD {t : List Nat} (nd : t.Nodup) {i : Nat} (h : i < t.length) : ix t (t.getD i 0) = i := by
  rw [List.getD_eq_getElem?_getD, List.getElem?_eq_getElem h]
  show t.idxOf t[i] = i
  exact nd.idxOf_getElem i h
theorem getD_ix {t : List Nat} {c : Nat} (h : c ∈ t) : t.getD (ix t c) 0 = c := by
  have hl : ix t c < t.length := List.idxOf_lt_length_of_mem h
  rw [List.getD_eq_getElem?_getD, List.getElem?_eq_getElem hl]
  exact List.getElem_idxOf hl
theorem plc_wat {t : List Nat} (nd : t.Nodup) (ht : 0 < t.length) (p : Nat) : plc t (wat t p) = p := by
  induction p using Nat.strongRecOn with
  | _ p ih =>
    by_cases h : 0 < p
    · have := Nat.div_le_self (p - 1) t.length
      rw [wat_pos h ht, plc_snoc, ih _ (by omega), ix_getD nd (Nat.mod_lt _ ht)]
      have := Nat.div_add_mod (p - 1) t.length
      rw [Nat.mul_comm] at this
      omega
    · have : p = 0 := by omega
      subst this
      rw [wat_zero]; simp [plc]
theorem wat_plc {t : List Nat} (ht : 0 < t.length) : ∀ w : List Nat, (∀ c ∈ w, c ∈ t) → wat t (plc t w) = w := by
  refine snoc_ind ?_ ?_
  · intro _; simp [plc, wat_zero]
  · intro w c ih h
    have h2 : ix t c < t.length := List.idxOf_lt_length_of_mem (h c (by simp))
    rw [plc_snoc, wat_pos (by omega) ht]
    have e : plc t w * t.length + (ix t c + 1) - 1 = ix t c + plc t w * t.length := by omega
    rw [e, Nat.add_mul_div_right _ _ ht, Nat.div_eq_of_lt h2, Nat.zero_add, Nat.add_mul_mod_self_right, Nat.mod_eq_of_lt h2, ih fun x hx => h x (by simp [hx]), getD_ix (h c (by simp))]
/-- the digits of a number, so many -/
def digs (t : List Nat) : Nat → Nat → List Nat
  | _, 0 => []
  | n, l + 1 => digs t (n / t.length) l ++ [t.getD (n % t.length) 0]
theorem digs_len (t : List Nat) : ∀ (l n : Nat), (digs t n l).length = l
  | 0, n => rfl
  | l + 1, n => by simp [digs, digs_len t l]
theorem digs_mem {t : List Nat} (ht : 0 < t.length) : ∀ (l n : Nat), ∀ c ∈ digs t n l, c ∈ t
  | 0, n, c, h => by simp [digs] at h
  | l + 1, n, c, h => by
    rcases List.mem_append.mp h with h | h
    · exact digs_mem ht l _ c h
    · have hl := Nat.mod_lt n ht
      rw [List.mem_singleton] at h
      rw [h, List.getD_eq_getElem?_getD, List.getElem?_eq_getElem hl]
      exact List.getElem_mem hl
theorem digs_num {t : List Nat} (nd : t.Nodup) (ht : 0 < t.length) : ∀ (l n : Nat), n < t.length ^ l → num t (digs t n l) = n
  | 0, n, h => by simp at h; subst h; rfl
  | l + 1, n, h => by
    have h1 : n / t.length < t.length ^ l := by
      rw [Nat.div_lt_iff_lt_mul ht]; rwa [Nat.pow_succ] at h
    rw [digs, num_snoc, digs_num nd ht l _ h1, ix_getD nd (Nat.mod_lt _ ht), Nat.mul_comm]
    exact Nat.div_add_mod n t.length
theorem digs_plc {t : List Nat} (nd : t.Nodup) (ht : 0 < t.length) {l n : Nat} (h : n < t.length ^ l) : plc t (digs t n l) = n + geo t.length l := by
  rw [plc_num, digs_num nd ht l n h, digs_len]
theorem digs_wat {t : List Nat} (nd : t.Nodup) (ht : 0 < t.length) {l n : Nat} (h : n < t.length ^ l) : wat t (n + geo t.length l) = digs t n l := by
  rw [← digs_plc nd ht h, wat_plc ht _ (digs_mem ht l n)]
theorem plc_lt {t w : List Nat} (h : ∀ c ∈ w, c ∈ t) : plc t w < geo t.length (w.length + 1) := by
  rw [plc_num, geo]
  have := num_lt w h
  omega
theorem geo_one : ∀ n, geo 1 n = n
  | 0 => rfl
  | n + 1 => by simp [geo, geo_one n]
theorem le_geo {m : Nat} (hm : 0 < m) : ∀ n, n ≤ geo m n
  | 0 => Nat.zero_le _
  | n + 1 => by
    have := le_geo hm n
    have : 0 < m ^ n := Nat.pow_pos hm
    rw [geo]; omega
theorem two_geo {m : Nat} (hm : 2 ≤ m) : ∀ n, 2 ^ n ≤ geo m n + 1
  | 0 => by simp [geo]
  | n + 1 => by
    have h1 := two_geo hm n
    have h2 : 2 ^ n ≤ m ^ n := Nat.pow_le_pow_left hm n
    rw [geo, Nat.pow_succ]; omega
theorem geo_mono {m : Nat} : ∀ {a b : Nat}, a ≤ b → geo m a ≤ geo m b := by
  intro a b h
  induction h with
  | refl => exact Nat.le_refl _
  | step _ ih => rw [geo]; omega
theorem num_cons (t : List Nat) (c : Nat) (w : List Nat) : num t (c :: w) = ix t c * t.length ^ w.length + num t w := by
  have := num_app t [c] w
  simpa [num] using this
theorem plc_cons (t : List Nat) (c : Nat) (w : List Nat) : plc t (c :: w) = plc t w + t.length ^ w.length * (1 + ix t c) := by
  rw [plc_num, plc_num, num_cons, List.length_cons, geo, Nat.mul_add, Nat.mul_one, Nat.mul_comm]; omega
/-- the words of one length, from those of one less -/
def longer (t : List Nat) (ws : List (List Nat)) : List (List Nat) := ws.flatMap fun w => t.map fun c => w ++ [c]
def wordsOf (t : List Nat) : Nat → List (List Nat)
  | 0 => [[]]
  | n + 1 => longer t (wordsOf t n)
def wordsTo (t : List Nat) : Nat → List (List Nat)
  | 0 => [[]]
  | n + 1 => wordsTo t n ++ wordsOf t (n + 1)
theorem longer_len (t : List Nat) : ∀ ws, (longer t ws).length = t.length * ws.length := fun ws => by
  induction ws with
  | nil => simp [longer]
  | cons w ws ih =>
    simp only [longer] at ih
    simp [longer, ih, Nat.mul_add]; omega
theorem wordsOf_len (t : List Nat) : ∀ n, (wordsOf t n).length = t.length ^ n
  | 0 => by simp [wordsOf]
  | n + 1 => by rw [wordsOf, longer_len, wordsOf_len t n, Nat.pow_succ, Nat.mul_comm]
theorem wordsTo_len (t : List Nat) : ∀ n, (wordsTo t n).length = geo t.length (n + 1)
  | 0 => by simp [wordsTo, geo]
  | n + 1 => by rw [wordsTo, List.length_append, wordsTo_len t n, wordsOf_len, geo.eq_2 _ (n + 1)]
/-- a row of places from a on -/
theorem longer_row {t : List Nat} (ht : 0 < t.length) : ∀ (ws : List (List Nat)) (a : Nat), ws = (List.range ws.length).map (fun i => wat t (a + i)) → longer t ws = (List.range (t.length * ws.length)).map fun i => wat t (a * t.length + 1 + i) := by
  intro ws
  induction ws with
  | nil => intro a _; simp [longer]
  | cons w ws ih =>
    intro a h
    rw [List.length_cons, List.range_succ_eq_map, List.map_cons, List.map_map] at h
    obtain ⟨h1, h2⟩ := List.cons.inj h
    have e : (fun i => wat t (a + i)) ∘ Nat.succ = fun i => wat t (a + 1 + i) := by funext i; simp; congr 1; omega
    rw [e] at h2
    have hi := ih (a + 1) h2
    have hs : longer t (w :: ws) = (t.map fun c => w ++ [c]) ++ longer t ws := by simp [longer]
    rw [hs, hi]
    have hb : (t.map fun c => w ++ [c]) = (List.range t.length).map fun i => wat t (a * t.length + 1 + i) := by
      apply List.ext_getElem
      · simp
      · intro i h1' h2'
        have hi : i < t.length := by simpa using h1'
        simp only [List.getElem_map, List.getElem_range]
        rw [wat_pos (by omega) ht, show a * t.length + 1 + i - 1 = i + a * t.length by omega, Nat.add_mul_div_right _ _ ht, Nat.div_eq_of_lt hi, Nat.zero_add, Nat.add_mul_mod_self_right, Nat.mod_eq_of_lt hi, List.getD_eq_getElem?_getD, List.getElem?_eq_getElem hi, ← show w = wat t a by simpa using h1]
        rfl
    rw [hb, List.length_cons, Nat.mul_add, Nat.mul_one, Nat.add_comm (t.length * ws.length), List.range_add, List.map_append, List.map_map]
    congr 1
    apply List.map_congr_left
    intro i _
    simp only [Function.comp]
    congr 1
    rw [Nat.add_mul]; omega
theorem wordsOf_row {t : List Nat} (ht : 0 < t.length) : ∀ n, wordsOf t n = (List.range (t.length ^ n)).map fun i => wat t (geo t.length n + i)
  | 0 => by simp [wordsOf, geo, wat_zero]
  | n + 1 => by
    have ih := wordsOf_row ht n
    have := longer_row ht (wordsOf t n) (geo t.length n) (by rw [wordsOf_len]; exact ih)
    rw [wordsOf, this, wordsOf_len, Nat.pow_succ, Nat.mul_comm t.length]
    apply List.map_congr_left
    intro i _
    congr 1
    rw [geo_succ, Nat.mul_comm]; omega
theorem wordsTo_row {t : List Nat} (ht : 0 < t.length) : ∀ n, wordsTo t n = (List.range (geo t.length (n + 1))).map fun i => wat t i
  | 0 => by simp [wordsTo, geo, wat_zero]
  | n + 1 => by
    rw [wordsTo, wordsTo_row ht n, wordsOf_row ht (n + 1), geo.eq_2 _ (n + 1), List.range_add, List.map_append, List.map_map]
    rfl
theorem wordsOf_wlen {t : List Nat} : ∀ (n : Nat), ∀ w ∈ wordsOf t n, w.length = n
  | 0, w, h => by simp [wordsOf] at h; subst h; rfl
  | n + 1, w, h => by
    simp only [wordsOf, longer, List.mem_flatMap, List.mem_map] at h
    obtain ⟨v, hv, c, _, rfl⟩ := h
    simp [wordsOf_wlen n v hv]
theorem longer_app (t : List Nat) (a b : List (List Nat)) : longer t (a ++ b) = longer t a ++ longer t b := by simp [longer]
theorem longer_one (t w : List Nat) : longer t [w] = t.map fun c => w ++ [c] := by simp [longer]
theorem wat_len_le {t : List Nat} (ht : 0 < t.length) (p : Nat) : (wat t p).length ≤ p := by
  induction p using Nat.strongRecOn with
  | _ p ih =>
    by_cases h : 0 < p
    · have := Nat.div_le_self (p - 1) t.length
      have := ih ((p - 1) / t.length) (by omega)
      rw [wat_pos h ht, List.length_append, List.length_singleton]; omega
    · have : p = 0 := by omega
      subst this
      rw [wat_zero]; simp
theorem wat_len_two {t : List Nat} (ht : 2 ≤ t.length) (p : Nat) : 2 ^ (wat t p).length ≤ p + 1 := by
  induction p using Nat.strongRecOn with
  | _ p ih =>
    by_cases h : 0 < p
    · have h1 : (p - 1) / t.length ≤ (p - 1) / 2 := Nat.div_le_div_left ht (by omega)
      have := ih ((p - 1) / t.length) (by omega)
      rw [wat_pos h (by omega), List.length_append, List.length_singleton, Nat.pow_succ]; omega
    · have : p = 0 := by omega
      subst this
      rw [wat_zero]; simp
/-- words at places that are asked for are short -/
theorem wat_short {t : List Nat} (ht : 0 < t.length) {p : Nat} (h : p ≤ 1000000000) (h1 : t.length = 1 → p ≤ 1000) : (wat t p).length ≤ 1000 := by
  by_cases e : t.length = 1
  · exact Nat.le_trans (wat_len_le ht p) (h1 e)
  · have h2 := wat_len_two (t := t) (by omega) p
    rcases Nat.lt_or_ge 30 (wat t p).length with h3 | h3
    · have : 2 ^ 31 ≤ 2 ^ (wat t p).length := Nat.pow_le_pow_right (by omega) h3
      have e2 : (2 : Nat) ^ 31 = 2147483648 := by decide
      omega
    · omega
end Dl
namespace Dl
open PySem PySem.Spec PyProof.Rows L2

section
variable {Q : W → Prop} {i j : Int} {w u : W} {a b : List Nat}
theorem i_ltT (h : i < j) (q : Q (.sh (.bl true))) : fLt (.sh (.int i)) (.sh (.int j)) Q := by unfold fLt fCmp; show Q (.sh (.bl (decide _))); rw [decide_eq_true h]; exact q
theorem i_ltF (h : ¬ i < j) (q : Q (.sh (.bl false))) : fLt (.sh (.int i)) (.sh (.int j)) Q := by unfold fLt fCmp; show Q (.sh (.bl (decide _))); rw [decide_eq_false h]; exact q
theorem i_leT (h : i ≤ j) (q : Q (.sh (.bl true))) : fLe (.sh (.int i)) (.sh (.int j)) Q := by unfold fLe fCmp; show Q (.sh (.bl (decide _))); rw [decide_eq_true h]; exact q
theorem i_leF (h : ¬ i ≤ j) (q : Q (.sh (.bl false))) : fLe (.sh (.int i)) (.sh (.int j)) Q := by unfold fLe fCmp; show Q (.sh (.bl (decide _))); rw [decide_eq_false h]; exact q
theorem i_gtT (h : j < i) (q : Q (.sh (.bl true))) : fGt (.sh (.int i)) (.sh (.int j)) Q := by unfold fGt fCmp; show Q (.sh (.bl (decide _))); rw [decide_eq_true h]; exact q
theorem i_gtF (h : ¬ j < i) (q : Q (.sh (.bl false))) : fGt (.sh (.int i)) (.sh (.int j)) Q := by unfold fGt fCmp; show Q (.sh (.bl (decide _))); rw [decide_eq_false h]; exact q
theorem i_geT (h : j ≤ i) (q : Q (.sh (.bl true))) : fGe (.sh (.int i)) (.sh (.int j)) Q := by unfold fGe fCmp; show Q (.sh (.bl (decide _))); rw [decide_eq_true h]; exact q
theorem i_geF (h : ¬ j ≤ i) (q : Q (.sh (.bl false))) : fGe (.sh (.int i)) (.sh (.int j)) Q := by unfold fGe fCmp; show Q (.sh (.bl (decide _))); rw [decide_eq_false h]; exact q
theorem i_eqI (q : Q (.sh (.bl (decide (i = j))))) : fEq false (.sh (.int i)) (.sh (.int j)) Q := by
  unfold fEq
  refine ⟨.inl rfl, ?_⟩
  have e : D.eqv (D.int i) (D.int j) = decide (i = j) := by simp [D.eqv, D.pd, PyData.eqv]; rfl
  show Q (.sh (.bl (D.eqv (D.int i) (D.int j))))
  rw [e]; exact q
theorem i_neI (q : Q (.sh (.bl (!decide (i = j))))) : fEq true (.sh (.int i)) (.sh (.int j)) Q := by
  unfold fEq
  refine ⟨.inl rfl, ?_⟩
  have e : D.eqv (D.int i) (D.int j) = decide (i = j) := by simp [D.eqv, D.pd, PyData.eqv]; rfl
  show Q (.sh (.bl (!D.eqv (D.int i) (D.int j))))
  rw [e]; exact q
theorem i_eqT (h : i = j) (q : Q (.sh (.bl true))) : fEq false (.sh (.int i)) (.sh (.int j)) Q := i_eqI (by rw [decide_eq_true h]; exact q)
theorem i_eqF (h : i ≠ j) (q : Q (.sh (.bl false))) : fEq false (.sh (.int i)) (.sh (.int j)) Q := i_eqI (by rw [decide_eq_false h]; exact q)
theorem i_neT (h : i ≠ j) (q : Q (.sh (.bl true))) : fEq true (.sh (.int i)) (.sh (.int j)) Q := i_neI (by rw [decide_eq_false h]; exact q)
theorem i_neF (h : i = j) (q : Q (.sh (.bl false))) : fEq true (.sh (.int i)) (.sh (.int j)) Q := i_neI (by rw [decide_eq_true h]; exact q)
theorem eqv_refl' {d : D} (h : d.flat = true) : D.eqv d d = true := PySem.SeqAt.eqv_refl _ (D.flat_lay d h)
/-- one and the same, whatever it is -/
theorem i_same {d : D} (hw : w.d = d) (hu : u.d = d) (f : d.flat = true) (p : d.dep ≤ 64) (q : Q (.sh (.bl true))) : fEq false w u Q := by
  unfold fEq
  refine ⟨.inr ⟨by rw [hw]; exact ⟨f, p⟩, by rw [hu]; exact ⟨f, p⟩⟩, ?_⟩
  rw [if_neg Bool.false_ne_true, hw, hu, eqv_refl' f]; exact q
theorem i_other {d : D} (hw : w.d = d) (hu : u.d = d) (f : d.flat = true) (p : d.dep ≤ 64) (q : Q (.sh (.bl false))) : fEq true w u Q := by
  unfold fEq
  refine ⟨.inr ⟨by rw [hw]; exact ⟨f, p⟩, by rw [hu]; exact ⟨f, p⟩⟩, ?_⟩
  rw [if_pos rfl, hw, hu, eqv_refl' f]; exact q
theorem i_eqS (q : Q (.sh (.bl (decide (a = b))))) : fEq false (.sh (.str (S a))) (.sh (.str (S b))) Q := by
  unfold fEq
  refine ⟨.inl rfl, ?_⟩
  have e : D.eqv (D.str (S a)) (D.str (S b)) = decide (a = b) := by
    by_cases h : a = b
    · subst h; simp [D.eqv, D.pd, PyData.eqv]
    · have : ¬ S a = S b := fun q => h (S_inj.mp q)
      simp [D.eqv, D.pd, PyData.eqv, this, h]
  show Q (.sh (.bl (D.eqv (D.str (S a)) (D.str (S b)))))
  rw [e]; exact q
theorem i_neS (q : Q (.sh (.bl (!decide (a = b))))) : fEq true (.sh (.str (S a))) (.sh (.str (S b))) Q := by
  unfold fEq
  refine ⟨.inl rfl, ?_⟩
  have e : D.eqv (D.str (S a)) (D.str (S b)) = decide (a = b) := by
    by_cases h : a = b
    · subst h; simp [D.eqv, D.pd, PyData.eqv]
    · have : ¬ S a = S b := fun q => h (S_inj.mp q)
      simp [D.eqv, D.pd, PyData.eqv, this, h]
  show Q (.sh (.bl (!D.eqv (D.str (S a)) (D.str (S b)))))
  rw [e]; exact q
theorem i_neSF (h : a = b) (q : Q (.sh (.bl false))) : fEq true (.sh (.str (S a))) (.sh (.str (S b))) Q := i_neS (by rw [decide_eq_true h]; exact q)
theorem i_neST (h : a ≠ b) (q : Q (.sh (.bl true))) : fEq true (.sh (.str (S a))) (.sh (.str (S b))) Q := i_neS (by rw [decide_eq_false h]; exact q)
theorem i_lenS (h : a.length ≤ 16777216) (q : Q (.sh (.int (a.length : Int)))) : fLen [.sh (.str (S a))] Q := by unfold fLen; exact ⟨S_len_le h, by rw [S_len]; exact q⟩
theorem i_lenD {ds : List D} (hw : w.d = .lst ds ∨ w.d = .tup ds) (q : Q (.sh (.int (ds.length : Int)))) : fLen [w] Q := by
  unfold fLen
  rcases hw with hw | hw
  · simp only [hw]; exact q
  · simp only [hw]; exact q
theorem i_lenK {ks : List (L2.Key × D)} (hw : w.d = .dct ks) (q : Q (.sh (.int (ks.length : Int)))) : fLen [w] Q := by
  unfold fLen
  simp only [hw]; exact q
theorem i_inS {c : Nat} (h : c ∈ a) (q : Q (.sh (.bl true))) : fIn false (.sh (.str (S [c]))) (.sh (.str (S a))) Q := by
  unfold fIn
  show Q (.sh (.bl (!(Builtin.Str.occurrences (S a) ⟨#[c]⟩ 0 (S a).length 1).isEmpty)))
  rw [PySem.StrLaws.found_one, decide_eq_true (by exact h)]; exact q
theorem i_truths {f : List Bool → Bool} {α : Type} {l : List α} {g : α → Bool} (hw : w.d = .lst (l.map fun x => .bl (g x))) (q : Q (.sh (.bl (f (l.map g))))) : fTruths f [w] Q := by
  unfold fTruths
  show (match w.d with | .lst ds => _ | _ => _)
  rw [hw]
  show (match blsOf (l.map fun x => D.bl (g x)) with | some ns => _ | none => _)
  rw [show (l.map fun x => D.bl (g x)) = (l.map g).map D.bl by rw [List.map_map]; rfl, blsOf_map]
  exact q
theorem i_allT {α : Type} {l : List α} (hw : w.d = .lst (l.map fun _ => .bl true)) (q : Q (.sh (.bl true))) : fTruths (fun bs => bs.all id) [w] Q := by
  refine i_truths (g := fun _ => true) hw ?_
  have e : (l.map fun _ => true).all id = true := by
    rw [List.all_eq_true]
    intro x hx
    obtain ⟨_, _, rfl⟩ := List.mem_map.mp hx
    rfl
  rw [e]; exact q
theorem i_sum {α : Type} {l : List α} {g : α → Int} (hw : w.d = .lst (l.map fun x => .int (g x)) ∨ w.d = .tup (l.map fun x => .int (g x))) (q : Q (.sh (.int (l.map g).sum))) : fSum [w] Q := by
  have e : intsOf (l.map fun x => D.int (g x)) = some (l.map g) := by
    rw [show (l.map fun x => D.int (g x)) = (l.map g).map D.int by rw [List.map_map]; rfl, intsOf_map]
  unfold fSum
  show (match w.d with | .lst ds => _ | .tup ds => _ | _ => _)
  rcases hw with hw | hw
  · rw [hw]
    show (match intsOf (l.map fun x => D.int (g x)) with | some ns => _ | none => _)
    rw [e]; exact q
  · rw [hw]
    show (match intsOf (l.map fun x => D.int (g x)) with | some ns => _ | none => _)
    rw [e]; exact q
theorem i_addS (h : a.length + b.length ≤ 16777216) (q : Q (.sh (.str (S (a ++ b))))) : fAdd (.sh (.str (S a))) (.sh (.str (S b))) Q := by
  unfold fAdd
  refine ⟨by rw [S_len, S_len, sizeLine_eq]; exact h, ?_⟩
  rw [S_app]; exact q
theorem i_addI (q : Q (.sh (.int (i + j)))) : fAdd (.sh (.int i)) (.sh (.int j)) Q := by unfold fAdd; exact q
theorem atI_nat {α : Type} {xs : List α} {n : Nat} {x : α} (h : xs[n]? = some x) : atI xs (n : Int) = some x := by
  obtain ⟨h1, _⟩ := List.getElem?_eq_some_iff.mp h
  unfold atI ixN
  rw [if_pos (by omega), if_pos (by omega)]
  simpa using h
theorem i_ixL {ds : List D} {n : Nat} {d : D} (hw : w.d = .lst ds ∨ w.d = .tup ds) (h : ds[n]? = some d) (q : Q (.sh d)) : fIx w (.sh (.int (n : Int))) Q := by
  unfold fIx
  rcases hw with hw | hw
  · rw [hw]
    show (match atI ds (n : Int) with | some d => _ | none => _)
    rw [atI_nat h]; exact q
  · rw [hw]
    show (match atI ds (n : Int) with | some d => _ | none => _)
    rw [atI_nat h]; exact q
theorem i_ixLe {ds : List D} {n : Nat} {d : D} (hx : i = (n : Int)) (hw : w.d = .lst ds ∨ w.d = .tup ds) (h : ds[n]? = some d) (q : Q (.sh d)) : fIx w (.sh (.int i)) Q := by subst hx; exact i_ixL hw h q
theorem i_ixS {n c : Nat} (hl : a.length ≤ 16777216) (h : a[n]? = some c) (q : Q (.sh (.str (S [c])))) : fIx (.sh (.str (S a))) (.sh (.int (n : Int))) Q := by
  unfold fIx
  refine ⟨S_len_le hl, ?_⟩
  show (match atI a (n : Int) with | some d => _ | none => _)
  rw [atI_nat h]; exact q
theorem firstAt_sign {c : Nat} : ∀ {t : List Nat}, c ∈ t → firstAt (.str (S [c])) (t.map fun c => .str (S [c])) = some (ix t c)
  | [], h => by simp at h
  | x :: r, h => by
    unfold firstAt ix
    rw [List.map_cons]
    by_cases e : x = c
    · subst e
      simp [firstAt, D.eqS]
    · have hr : c ∈ r := by
        rcases List.mem_cons.mp h with h | h
        · exact absurd h.symm e
        · exact h
      have ne : ¬ S [x] = S [c] := fun q => e (by simpa using S_inj.mp q)
      have := firstAt_sign hr
      simp only [firstAt, D.eqS, beq_iff_eq, ne, if_false, this, Option.map_some]
      rw [List.idxOf_cons]
      have : (x == c) = false := by simpa using e
      rw [this]; rfl
theorem i_index {t : List Nat} {c : Nat} (hw : w.d = .lst (t.map fun c => .str (S [c]))) (h : c ∈ t) (q : Q (.sh (.int (ix t c : Int)))) : mIndex w [.sh (.str (S [c]))] Q := by
  unfold mIndex
  rw [hw]
  refine ⟨by simp [D.scal], ?_⟩
  rw [firstAt_sign h]; exact q
theorem i_truE (a : List Nat) : ((((S a).length : Nat) : Int) != 0) = !a.isEmpty := by
  rw [S_len]
  cases a with
  | nil => rfl
  | cons c r =>
    rw [List.length_cons]
    simp only [List.isEmpty_cons, Bool.not_false, bne_iff_ne]
    omega
theorem cnt_count (c : Nat) : ∀ l : List Nat, cnt c l = (l.count c : Nat)
  | [] => by simp [cnt_nil]
  | n :: r => by
    rw [cnt_cons, cnt_count c r, List.count_cons]
    by_cases e : n = c
    · subst e; simp; omega
    · simp [e]
theorem i_count {c : Nat} (q : Q (.sh (.int ((a.count c : Nat) : Int)))) : mCount (.sh (.str (S a))) [.sh (.str (S [c]))] Q := by
  unfold mCount
  show Q (.sh (.int (Txt.count (S a) ⟨#[c]⟩)))
  rw [count_cnt, S_cps, cnt_count]; exact q
theorem i_rev (h : a.length ≤ 16777216) (q : Q (.sh (.str (S a.reverse)))) : (S a).length ≤ sizeLine ∧ Q (.sh (.str ⟨(S a).cps.toList.reverse.toArray⟩)) := ⟨S_len_le h, q⟩
theorem i_list (h : a.length ≤ 16777216) (q : Q (.fr (.lst (a.map fun c => .str (S [c]))))) : fList [.sh (.str (S a))] Q := by unfold fList; exact ⟨S_len_le h, q⟩
theorem i_listD {ds : List D} (hw : w.d = .lst ds ∨ w.d = .tup ds) (q : Q (.fr (.lst ds))) : fList [w] Q := by
  unfold fList
  rcases hw with hw | hw
  · simp only [hw]; exact q
  · simp only [hw]; exact q
end
/-- walks over what is told by another row -/
theorem for_over {α : Type} (gx : α → D) {g : Tg} {u : DS} {D : DEnds} {I : List α → DSt → Prop} (step : ∀ (x : α) (r : List α) (σ : DSt), I (x :: r) σ → ∀ D' : DEnds, (∀ σ', I r σ' → D'.nx σ') → (∀ σ', I r σ' → D'.ct σ') → D'.bk = D.nx → D'.rt = D.rt → g.bind (gx x) σ fun σ1 => u D' σ1)
    (done : ∀ σ, I [] σ → D.nx σ) : ∀ (l : List α) (σ : DSt), I l σ → dForL g u D (l.map gx) σ
  | [], σ, h => done σ h
  | x :: r, σ, h => step x r σ h _ (fun σ' h' => for_over gx step done r σ' h') (fun σ' h' => for_over gx step done r σ' h') rfl rfl
theorem lc_overA {α : Type} (gx f : α → D) {g : Tg} {t : DT} {e : DE} {σ : DSt} {Q : W → Prop} : ∀ (l : List α) (acc : List D), (∀ x ∈ l, ∀ (R : D → Prop) (S : Prop), R (f x) → g.bind (gx x) σ fun σ1 => t σ1 fun b => if b = true then e σ1 fun w => match w.cl? with | some x => R x | none => False else S) →
    Q (.fr (.lst (acc ++ l.map f))) → dLcL g t e σ (l.map gx) acc Q
  | [], acc, h, q => by simpa [dLcL] using q
  | x :: r, acc, h, q => by
    rw [List.map_cons]
    unfold dLcL
    refine h x (List.mem_cons_self ..) (fun y => dLcL g t e σ (r.map gx) (acc ++ [y]) Q) _ ?_
    refine lc_overA gx f r _ (fun d' hd' => h d' (List.mem_cons_of_mem _ hd')) ?_
    simpa using q
theorem lc_over {α : Type} (gx f : α → D) {g : Tg} {t : DT} {e : DE} {σ : DSt} {Q : W → Prop} (l : List α) (h : ∀ x ∈ l, ∀ (R : D → Prop) (S : Prop), R (f x) → g.bind (gx x) σ fun σ1 => t σ1 fun b => if b = true then e σ1 fun w => match w.cl? with | some x => R x | none => False else S)
    (q : Q (.fr (.lst (l.map f)))) : dLcL g t e σ (l.map gx) [] Q := lc_overA gx f l [] h q
theorem sz {n : Nat} (h : Nat.ble n 1000000 = true) : n ≤ sizeLine := by
  have := Nat.le_of_ble_eq_true h
  rw [sizeLine_eq]; omega
theorem szl {n : Nat} (h : n ≤ 1000000) : n ≤ sizeLine := by
  rw [sizeLine_eq]; omega
/-- a dict's pairs made, keys unlike -/
theorem putD_new {ks : List (L2.Key × D)} {k : L2.Key} {d : D} (h : k ∉ ks.map (·.1)) : putD ks k d = ks ++ [(k, d)] := by
  unfold putD
  rw [if_neg]
  intro q
  rw [List.any_eq_true] at q
  obtain ⟨x, hx, e⟩ := q
  exact h (List.mem_map.mpr ⟨x, hx, of_decide_eq_true e⟩)
theorem dc_map {g : Tg} {t : DT} {dk dv : DE} {σ : DSt} {Q : W → Prop} (kf : D → L2.Key) (f : D → D) : ∀ (ds : List D) (acc : List (L2.Key × D)), (acc.map (·.1) ++ ds.map kf).Nodup →
    (∀ d ∈ ds, ∀ (R : L2.Key → D → Prop) (S : Prop), R (kf d) (f d) → g.bind d σ fun σ1 => t σ1 fun b => if b = true then dk σ1 fun u => dv σ1 fun w => match keyOf u.d, w.cl? with | some k, some x => R k x | _, _ => False else S) →
    Q (.fr (.dct (acc ++ ds.map fun d => (kf d, f d)))) → dDcL g t dk dv σ ds acc Q
  | [], acc, nd, h, q => by simpa [dDcL] using q
  | d :: r, acc, nd, h, q => by
    unfold dDcL
    refine h d (List.mem_cons_self ..) (fun k x => dDcL g t dk dv σ r (putD acc k x) Q) _ ?_
    rw [putD_new]
    · refine dc_map kf f r _ ?_ (fun d' hd' => h d' (List.mem_cons_of_mem _ hd')) ?_
      · simpa using nd
      · simpa using q
    · intro hk
      rw [List.map_cons] at nd
      have := (List.nodup_append.mp nd).2.2 _ hk _ (List.mem_cons_self ..)
      exact this rfl
end Dl
namespace Dl
open PySem PySem.Spec PyProof.Rows L2
theorem join_S : ∀ ls : List (List Nat), Str.join (S []) (ls.map S) = S ls.flatten
  | [] => rfl
  | [x] => by simp [Str.join]
  | x :: y :: r => by
    have := join_S (y :: r)
    simp only [List.map_cons] at this ⊢
    rw [Str.join, this, S_app, S_app]
    · simp
    · simp
theorem flat_one : ∀ w : List Nat, (w.map fun c => [c]).flatten = w
  | [] => rfl
  | c :: w => by simp [flat_one w]
theorem i_join {Q : W → Prop} {u : W} {w : List Nat} (hw : u.d = .lst (w.map fun c => .str (S [c])) ∨ u.d = .tup (w.map fun c => .str (S [c]))) (h : w.length ≤ 16777216) (q : Q (.sh (.str (S w)))) : mJoin (.sh (.str "")) [u] Q := by
  unfold mJoin
  refine ⟨w.map fun c => S [c], ?_, ?_, ?_⟩
  · rw [List.map_map]; exact hw
  · have : ((w.map fun c => S [c]).map (·.length)).sum = w.length := by
      rw [List.map_map, show ((fun x : Str => x.length) ∘ fun c => S [c]) = fun _ => 1 from rfl]
      clear hw h q
      induction w with
      | nil => rfl
      | cons c w ih => simp at ih ⊢; omega
    rw [this]
    show w.length + _ * 0 ≤ _
    omega
  · have e : Txt.join "" (w.map fun c => S [c]) = S w := by
      rw [show Txt.join "" _ = _ from PySem.StrLaws.glued_eq_join _ _, show (w.map fun c => S [c]) = (w.map fun c => [c]).map S by rw [List.map_map]; rfl]
      exact (join_S _).trans (by rw [flat_one])
    rw [e]; exact q
end Dl
namespace Dl
open PySem PySem.Spec PyProof.Rows L2
theorem cutD_to {xs : List D} {k : Nat} : cutD xs none (some (k : Int)) = xs.take k := by
  unfold cutD
  rw [HT.sIx_none, HT.sIx_nat, List.drop_zero, Nat.sub_zero]
  rw [List.take_eq_take_iff]; omega
theorem cutD_from {xs : List D} {k : Nat} : cutD xs (some (k : Int)) none = xs.drop k := by
  unfold cutD
  rw [HT.sIx_none, HT.sIx_nat]
  rw [List.take_of_length_le (by rw [List.length_drop]; omega)]
  by_cases h : k ≤ xs.length
  · rw [Nat.min_eq_left h]
  · rw [Nat.min_eq_right (by omega), List.drop_of_length_le (Nat.le_refl _), List.drop_of_length_le (by omega)]
theorem cutS_to {l : List Nat} {k : Nat} : cutS (S l) none (some (k : Int)) = S (l.take k) := by
  unfold cutS
  rw [HT.sIx_none, HT.sIx_nat, S_cps, S_len, List.drop_zero, Nat.sub_zero]
  show S _ = S _
  congr 1
  rw [List.take_eq_take_iff]; omega
theorem cutS_from {l : List Nat} {k : Nat} : cutS (S l) (some (k : Int)) none = S (l.drop k) := by
  unfold cutS
  rw [HT.sIx_none, HT.sIx_nat, S_cps, S_len]
  show S _ = S _
  congr 1
  rw [List.take_of_length_le (by rw [List.length_drop]; omega)]
  by_cases h : k ≤ l.length
  · rw [Nat.min_eq_left h]
  · rw [Nat.min_eq_right (by omega), List.drop_of_length_le (Nat.le_refl _), List.drop_of_length_le (by omega)]
section
variable {Q : W → Prop} {i : Int} {w : W} {a : List Nat} {ds : List D}
theorem i_slTo {k : Nat} (hi : i = (k : Int)) (hw : w.d = .lst ds) (q : Q (.fr (.lst (ds.take k)))) : fSl w none (some i) Q := by
  subst hi
  unfold fSl
  simp only [hw]
  rw [cutD_to]; exact q
theorem i_slTTo {k : Nat} (hi : i = (k : Int)) (hw : w.d = .tup ds) (q : Q (.sh (.tup (ds.take k)))) : fSl w none (some i) Q := by
  subst hi
  unfold fSl
  simp only [hw]
  rw [cutD_to]; exact q
theorem i_slFrom {k : Nat} (hi : i = (k : Int)) (hw : w.d = .lst ds) (q : Q (.fr (.lst (ds.drop k)))) : fSl w (some i) none Q := by
  subst hi
  unfold fSl
  simp only [hw]
  rw [cutD_from]; exact q
theorem i_slTFrom {k : Nat} (hi : i = (k : Int)) (hw : w.d = .tup ds) (q : Q (.sh (.tup (ds.drop k)))) : fSl w (some i) none Q := by
  subst hi
  unfold fSl
  simp only [hw]
  rw [cutD_from]; exact q
theorem i_slSTo {k : Nat} (h : a.length ≤ 16777216) (hi : i = (k : Int)) (q : Q (.sh (.str (S (a.take k))))) : fSl (.sh (.str (S a))) none (some i) Q := by
  subst hi
  unfold fSl
  refine ⟨S_len_le h, ?_⟩
  rw [cutS_to]; exact q
theorem i_slSFrom {k : Nat} (h : a.length ≤ 16777216) (hi : i = (k : Int)) (q : Q (.sh (.str (S (a.drop k))))) : fSl (.sh (.str (S a))) (some i) none Q := by
  subst hi
  unfold fSl
  refine ⟨S_len_le h, ?_⟩
  rw [cutS_from]; exact q
end
theorem flats_all : ∀ {ds : List D}, (∀ d ∈ ds, d.flat = true) → D.flats ds = true
  | [], _ => rfl
  | d :: r, h => by
    unfold D.flats
    rw [h d (List.mem_cons_self ..), flats_all fun x hx => h x (List.mem_cons_of_mem _ hx)]; rfl
theorem deps_all {n : Nat} : ∀ {ds : List D}, (∀ d ∈ ds, d.dep ≤ n) → D.deps ds ≤ n
  | [], _ => Nat.zero_le _
  | d :: r, h => by
    unfold D.deps
    have h1 := h d (List.mem_cons_self ..)
    have h2 := deps_all (n := n) fun x hx => h x (List.mem_cons_of_mem _ hx)
    omega
theorem flat_tup {ds : List D} (h : ∀ d ∈ ds, d.flat = true) : (D.tup ds).flat = true := by
  unfold D.flat; exact flats_all h
theorem dep_tup {ds : List D} {n : Nat} (h : ∀ d ∈ ds, d.dep ≤ n) : (D.tup ds).dep ≤ n + 1 := by
  unfold D.dep; exact Nat.add_le_add_right (deps_all h) 1
theorem strOk_S {l : List Nat} (h : ∀ c ∈ l, c < 1114112) : PyData.strOk (S l) = true := by
  show (l.toArray).all (fun c => decide (c < 0x110000)) = true
  simpa using h
end Dl
namespace Dl
open PySem PySem.Spec PyProof.Rows L2
abbrev c_MOST_SIGNS : D := .int 5
abbrev c_MOST_WORD : D := .int 1000
abbrev c_MOST_LENGTH : D := .int 20
abbrev c_MOST_WORDS : D := .int 20000
abbrev c_MOST_PLACE : D := .int 1000000000
abbrev c_LETTERS : D := .str "abcdefghijklmnopqrstuvwxyz"
def azL : List Nat := List.range' 97 26
theorem az_S : ("abcdefghijklmnopqrstuvwxyz" : Str) = S azL := by decide +kernel
structure SG (sg : List Nat) : Prop where
  n1 : 1 ≤ sg.length
  n5 : sg.length ≤ 5
  nd : sg.Nodup
  az : ∀ c ∈ sg, c ∈ azL
/-- a word of these signs -/
def WD (sg w : List Nat) : Prop := w.length ≤ 1000 ∧ ∀ c ∈ w, c ∈ sg
abbrev ends (Q : W → Prop) : DEnds := { nx := fun _ => Q (.sh .non), rt := Q }
def F_is_whole : Fd := fun ws Q => ∃ i : Int, ws = [.sh (.int i)] ∧ Q (.sh (.bl true))
/-- is_whole: slots 0 value; calls  -/
def d_is_whole : DS := dRet (dAndV (dIsi "int" (dV 0)) (dNotV (dIsi "bool" (dV 0))))
theorem r_is_whole {ws : List W} {Q : W → Prop} (h : F_is_whole ws Q) : d_is_whole (ends Q) (startD ["value"] ws) := by
  obtain ⟨i, rfl, q⟩ := h
  exact q
def F_is_index : Fd := fun ws Q => ∃ i n : Int, ws = [.sh (.int i), .sh (.int n)] ∧ 0 ≤ i ∧ i < n ∧ Q (.sh (.bl true))
/-- is_index: slots 0 value 1 many; calls is_whole -/
def d_is_index : DS := dRet (dAndV (dCall F_is_whole (dCons (dV 0) (dNil))) (dChain fLe fLt (dC (.int 0)) (dV 0) (dV 1)))
theorem r_is_index {ws : List W} {Q : W → Prop} (h : F_is_index ws Q) : d_is_index (ends Q) (startD ["value", "many"] ws) := by
  obtain ⟨i, n, rfl, h0, h1, q⟩ := h
  exact ⟨i, rfl, i_leT h0 (i_ltT h1 q)⟩
def F_are_signs : Fd := fun ws Q => ∃ sg, SG sg ∧ ws = [.sh (.str (S sg))] ∧ Q (.sh (.bl true))
/-- are_signs: slots 0 value 1 sign; calls  -/
def d_are_signs : DS := dSeq (dIf (dOr (dNot (dTst (dIsi "str" (dV 0)))) (dNot (dTst (dChain fLe fLe (dC (.int 1)) (dBlt fLen (dCons (dV 0) (dNil))) (dC c_MOST_SIGNS))))) (dRet (dC (.bl false))) (dNx)) (dRet (dAndV (dOp (fEq false) (dBlt fLen (dCons (dDc (dIt (dV 0)) (.nm 1) (dYes) (dV 1) (dC (.bl true)) [1]) (dNil))) (dBlt fLen (dCons (dV 0) (dNil)))) (dBlt (fTruths fun bs => bs.all id) (dCons (dLc (dIt (dV 0)) (.nm 1) (dYes) (dOp (fIn false) (dV 1) (dC c_LETTERS)) [1]) (dNil)))))
theorem r_are_signs {ws : List W} {Q : W → Prop} (h : F_are_signs ws Q) : d_are_signs (ends Q) (startD ["value", "sign"] ws) := by
  obtain ⟨sg, G, rfl, q⟩ := h
  have hz : sg.length ≤ 16777216 := by have := G.n5; omega
  refine i_lenS hz (i_leT (by have := G.n1; omega) (i_leT (by have := G.n5; omega) ?_))
  have hs : (signsOf (S sg)).length ≤ sizeLine := by rw [signs_S, List.length_map, sizeLine_eq]; exact hz
  refine ⟨hs, dc_map (fun d => match d with | .str z => .inr z | _ => .inl 0) (fun _ => .bl true) _ [] ?_ ?_ ?_⟩
  · show ([] ++ (signsOf (S sg)).map _).Nodup
    rw [List.nil_append, signs_S, List.map_map]
    refine List.Pairwise.map _ (fun a b h => ?_) G.nd
    intro e
    exact h (by simpa using S_inj.mp (Sum.inr.inj e))
  · intro d hd R T hR
    obtain ⟨c, _, rfl⟩ := List.mem_map.mp hd
    exact hR
  · refine i_lenK rfl (i_lenS hz (i_eqT ?_ ?_))
    · simp [signs_S]
    · refine ⟨hs, lc_map (fun _ => .bl true) _ ?_ ?_⟩
      · intro d hd R T hR
        obtain ⟨c, hc, rfl⟩ := List.mem_map.mp hd
        show fIn false (.sh (.str (S [c]))) (.sh (.str "abcdefghijklmnopqrstuvwxyz")) _
        rw [az_S]
        exact i_inS (G.az c hc) hR
      · exact i_allT rfl q
def F_need_signs : Fd := fun ws Q => ∃ sg, SG sg ∧ ws = [.sh (.str (S sg))] ∧ Q (.sh (.str (S sg)))
/-- need_signs: slots 0 value; calls are_signs -/
def d_need_signs : DS := dSeq (dIf (dNot (dTst (dCall F_are_signs (dCons (dV 0) (dNil))))) (dNever) (dNx)) (dRetV 0)
theorem r_need_signs {ws : List W} {Q : W → Prop} (h : F_need_signs ws Q) : d_need_signs (ends Q) (startD ["value"] ws) := by
  obtain ⟨sg, G, rfl, q⟩ := h
  exact ⟨sg, G, rfl, q⟩
def F_is_word_by : Fd := fun ws Q => ∃ sg w, WD sg w ∧ ws = [.sh (.str (S sg)), .sh (.str (S w))] ∧ Q (.sh (.bl true))
/-- is_word_by: slots 0 signs 1 value 2 sign; calls  -/
def d_is_word_by : DS := dRet (dAndV (dIsi "str" (dV 1)) (dAndV (dOp fLe (dBlt fLen (dCons (dV 1) (dNil))) (dC c_MOST_WORD)) (dBlt (fTruths fun bs => bs.all id) (dCons (dLc (dIt (dV 1)) (.nm 2) (dYes) (dOp (fIn false) (dV 2) (dV 0)) [2]) (dNil)))))
theorem r_is_word_by {ws : List W} {Q : W → Prop} (h : F_is_word_by ws Q) : d_is_word_by (ends Q) (startD ["signs", "value", "sign"] ws) := by
  obtain ⟨sg, w, ⟨h1, h2⟩, rfl, q⟩ := h
  refine i_lenS (by omega) (i_leT (by omega) ⟨by rw [signs_S, List.length_map, sizeLine_eq]; omega, lc_map (fun _ => .bl true) _ ?_ ?_⟩)
  · intro d hd R T hR
    obtain ⟨c, hc, rfl⟩ := List.mem_map.mp hd
    exact i_inS (h2 c hc) hR
  · exact i_allT rfl q
def F_is_word : Fd := fun ws Q => ∃ sg w, SG sg ∧ WD sg w ∧ ws = [.sh (.str (S sg)), .sh (.str (S w))] ∧ Q (.sh (.bl true))
/-- is_word: slots 0 signs 1 value; calls is_word_by need_signs -/
def d_is_word : DS := dRet (dCall F_is_word_by (dCons (dCall F_need_signs (dCons (dV 0) (dNil))) (dCons (dV 1) (dNil))))
theorem r_is_word {ws : List W} {Q : W → Prop} (h : F_is_word ws Q) : d_is_word (ends Q) (startD ["signs", "value"] ws) := by
  obtain ⟨sg, w, G, h, rfl, q⟩ := h
  exact ⟨sg, G, rfl, sg, w, h, rfl, q⟩
def F_need_word_of : Fd := fun ws Q => ∃ sg w, WD sg w ∧ ws = [.sh (.str (S sg)), .sh (.str (S w))] ∧ Q (.sh (.str (S w)))
/-- need_word_of: slots 0 signs 1 word; calls is_word_by -/
def d_need_word_of : DS := dSeq (dIf (dNot (dTst (dCall F_is_word_by (dCons (dV 0) (dCons (dV 1) (dNil)))))) (dNever) (dNx)) (dRetV 1)
theorem r_need_word_of {ws : List W} {Q : W → Prop} (h : F_need_word_of ws Q) : d_need_word_of (ends Q) (startD ["signs", "word"] ws) := by
  obtain ⟨sg, w, h, rfl, q⟩ := h
  exact ⟨sg, w, h, rfl, q⟩
def F_words_count : Fd := fun ws Q => ∃ m n : Nat, ws = [.sh (.int m), .sh (.int n)] ∧ m ≤ 1000 ∧ n ≤ 1000000 ∧ Q (.sh (.int (geo m (n + 1))))
/-- words_count: slots 0 many 1 number 2 total 3 power 4 lap; calls  -/
def d_words_count : DS := dSeq (dAsgT (dTup (dCons (dC (.int 1)) (dCons (dC (.int 1)) (dNil)))) (.tp [2, 3])) (dSeq (dFor (dRng1 (dV 1)) (.nm 4) (dSeq (dAsg (dOp fMul (dV 3) (dV 0)) 3) (dAsg (dOp fAdd (dV 2) (dV 3)) 2))) (dRetV 2))
theorem r_words_count {ws : List W} {Q : W → Prop} (h : F_words_count ws Q) : d_words_count (ends Q) (startD ["many", "number", "total", "power", "lap"] ws) := by
  obtain ⟨m, n, rfl, hm, hn, q⟩ := h
  refine ⟨sz rfl, rfl, by omega, by omega, for_rule (I := fun r σ => ∃ (k : Nat) (t p : Int) (lap : Option W), r.length + k = n ∧ t = (geo m (k + 1) : Nat) ∧ p = (m ^ k : Nat) ∧ σ = [some (.sh (.int m)), some (.sh (.int n)), some (.sh (.int t)), some (.sh (.int p)), lap]) ?_ ?_ _ _ ?_⟩
  · rintro d r σ ⟨k, t, p, lap, hk, ht, hp, rfl⟩ D' hnx _ _ _
    refine ⟨.inr ⟨by omega, by omega⟩, i_addI (hnx _ ⟨k + 1, _, _, _, by simp at hk; omega, ?_, ?_, rfl⟩)⟩
    · rw [ht, hp, geo.eq_2 m (k + 1), Nat.pow_succ]; simp
    · rw [hp, Nat.pow_succ]; simp
  · rintro σ ⟨k, t, p, lap, hk, ht, hp, rfl⟩
    have : k = n := by simpa using hk
    subst this
    subst ht
    exact q
  · exact ⟨0, 1, 1, none, by simp, by simp [geo], by simp, rfl⟩
abbrev sd (w : List Nat) : D := .str (S w)
abbrev sc (c : Nat) : D := .str (S [c])
/-- the signs in their order -/
abbrev told (sg : List Nat) : List D := (srt sg).map sc
def F_words_by : Fd := fun ws Q => ∃ (sg : List Nat) (n : Nat), SG sg ∧ n ≤ 20 ∧ geo sg.length (n + 1) ≤ 20000 ∧ ws = [.sh (sd sg), .sh (.int n)] ∧ Q (.fr (.lst ((wordsTo (srt sg) n).map sd)))
/-- words_by: slots 0 signs 1 number 2 many 3 found 4 last 5 lap 6 longer 7 word 8 sign; calls words_count -/
def d_words_by : DS := dSeq (dAsg (dCall F_words_count (dCons (dBlt fLen (dCons (dV 0) (dNil))) (dCons (dV 1) (dNil)))) 2) (dSeq (dIf (dTst (dOp fGt (dV 2) (dC c_MOST_WORDS))) (dNever) (dNx)) (dSeq (dPar 3 4 (dCons (dLst (dCons (dC (.str "")) (dNil))) (dCons (dLst (dCons (dC (.str "")) (dNil))) (dNil)))) (dSeq (dFor (dRng1 (dV 1)) (.nm 5) (dSeq (dAsg (dLst (dNil)) 6) (dFz 4 (dSeq (dFor (dIt (dV 4)) (.nm 7) (dExtend 6 (dLc (dIt (dBlt fSorted (dCons (dV 0) (dNil)))) (.nm 8) (dYes) (dOp fAdd (dV 7) (dV 8)) [8]))) (dSeq (dExtend 3 (dV 6)) (dFz 6 (dAsg (dV 6) 4))))))) (dRetV 3))))
theorem r_words_by {ws : List W} {Q : W → Prop} (h : F_words_by ws Q) : d_words_by (ends Q) (startD ["signs", "number", "many", "found", "last", "lap", "longer", "word", "sign"] ws) := by
  obtain ⟨sg, n, G, hn, hg, rfl, q⟩ := h
  have hz : sg.length ≤ 16777216 := by have := G.n5; omega
  have h64 : sg.length < 64 := by have := G.n5; omega
  have ht := srt_len sg
  refine i_lenS hz ⟨sg.length, n, rfl, by have := G.n5; omega, by omega, i_gtF (by omega) ⟨sz rfl, sz rfl, nofun, nofun, by omega, by omega, ?_⟩⟩
  refine for_rule (I := fun r σ => ∃ (k : Nat) (fd : List D) (lw : W) (lap lg wd sn : Option W), r.length + k = n ∧ fd = (wordsTo (srt sg) k).map sd ∧ (lw = .fr (.lst ((wordsOf (srt sg) k).map sd)) ∨ lw = .sh (.lst ((wordsOf (srt sg) k).map sd))) ∧
    σ = [some (.sh (sd sg)), some (.sh (.int n)), some (.sh (.int (geo sg.length (n + 1)))), some (.fr (.lst fd)), some lw, lap, lg, wd, sn]) ?_ ?_ _ _ ?_
  · rintro d r σ ⟨k, fd, lw, lap, lg, wd, sn, hk, rfl, hlw, rfl⟩ D' hnx _ _ _
    simp only [List.length_cons] at hk
    have hw : ∀ j, j ≤ n → (wordsOf (srt sg) j).length ≤ 20000 := fun j hj => by
      rw [wordsOf_len, ht]
      have := geo_mono (m := sg.length) (show j + 1 ≤ n + 1 by omega)
      rw [geo] at this; omega
    have hw2 : ∀ j, j ≤ n → (wordsTo (srt sg) j).length ≤ 20000 := fun j hj => by
      rw [wordsTo_len, ht]
      have := geo_mono (m := sg.length) (show j + 1 ≤ n + 1 by omega)
      omega
    have body : ∀ lap lg : Option W, dFor (dIt (dV 4)) (.nm 7) (dExtend 6 (dLc (dIt (dBlt fSorted (dCons (dV 0) (dNil)))) (.nm 8) (dYes) (dOp fAdd (dV 7) (dV 8)) [8]))
        { D' with nx := dSeq (dExtend 3 (dV 6)) (dFz 6 (dAsg (dV 6) 4)) D' }
        [some (.sh (sd sg)), some (.sh (.int n)), some (.sh (.int (geo sg.length (n + 1)))), some (.fr (.lst ((wordsTo (srt sg) k).map sd))), some (.sh (.lst ((wordsOf (srt sg) k).map sd))), lap, some (.fr (.lst [])), wd, sn] := by
      intro lap lg
      refine for_over sd (I := fun r σ => ∃ (pre : List (List Nat)) (wd sn : Option W), pre ++ r = wordsOf (srt sg) k ∧
        σ = [some (.sh (sd sg)), some (.sh (.int n)), some (.sh (.int (geo sg.length (n + 1)))), some (.fr (.lst ((wordsTo (srt sg) k).map sd))), some (.sh (.lst ((wordsOf (srt sg) k).map sd))), lap, some (.fr (.lst ((longer (srt sg) pre).map sd))), wd, sn]) ?_ ?_ _ _ ?_
      · rintro w r2 σ ⟨pre, wd, sn, hp, rfl⟩ D2 hnx2 _ _ _
        have hwl : w.length = k := wordsOf_wlen k w (by rw [← hp]; simp)
        refine ⟨⟨_, rfl⟩, i_sorted h64 ⟨szl (by rw [List.length_map, ht]; omega), lc_over sc (fun c => sd (w ++ [c])) _ ?_ ⟨szl ?_, hnx2 _ ⟨pre ++ [w], some (.sh (sd w)), sn, by rw [← hp]; simp, ?_⟩⟩⟩⟩
        · intro c hc R T hR
          exact i_addS (by simp [hwl]; omega) hR
        · have h1 : (longer (srt sg) (pre ++ [w])).length ≤ 20000 := by
            have h2 : (longer (srt sg) (wordsOf (srt sg) k)).length ≤ 20000 := hw (k + 1) (by omega)
            rw [← hp, List.append_cons, longer_app] at h2
            simp only [List.length_append] at h2
            omega
          rw [longer_app, longer_one] at h1
          simp only [List.length_append, List.length_map] at h1 ⊢
          omega
        · rw [longer_app, longer_one, List.map_append, List.map_map]; rfl
      · rintro σ ⟨pre, wd, sn, hp, rfl⟩
        rw [List.append_nil] at hp
        subst hp
        refine ⟨⟨_, rfl⟩, szl ?_, hnx _ ⟨k + 1, _, _, _, _, _, _, by omega, ?_, .inr rfl, rfl⟩⟩
        · have := hw2 (k + 1) (by omega)
          rw [wordsTo, List.length_append] at this
          simp only [List.length_map]
          exact Nat.le_trans this (by omega)
        · rw [wordsTo, List.map_append]; rfl
      · exact ⟨[], _, _, rfl, rfl⟩
    rcases hlw with rfl | rfl
    · exact ⟨sz rfl, body (some (.sh d)) none⟩
    · exact ⟨sz rfl, body (some (.sh d)) none⟩
  · rintro σ ⟨k, fd, lw, lap, lg, wd, sn, hk, rfl, hlw, rfl⟩
    have : k = n := by simpa using hk
    subst this
    exact q
  · exact ⟨0, _, _, none, none, none, none, by simp, rfl, .inl rfl, rfl⟩
def F_need_length : Fd := fun ws Q => ∃ n : Nat, ws = [.sh (.int n)] ∧ n ≤ 20 ∧ Q (.sh .non)
/-- need_length: slots 0 number; calls is_index -/
def d_need_length : DS := dIf (dNot (dTst (dCall F_is_index (dCons (dV 0) (dCons (dOp fAdd (dC c_MOST_LENGTH) (dC (.int 1))) (dNil)))))) (dNever) (dNx)
theorem r_need_length {ws : List W} {Q : W → Prop} (h : F_need_length ws Q) : d_need_length (ends Q) (startD ["number"] ws) := by
  obtain ⟨n, rfl, hn, q⟩ := h
  exact i_addI ⟨_, _, rfl, by omega, by omega, q⟩
def F_small_words : Fd := fun ws Q => ∃ (sg : List Nat) (n : Nat), SG sg ∧ n ≤ 20 ∧ geo sg.length (n + 1) ≤ 20000 ∧ ws = [.sh (sd sg), .sh (.int n)] ∧ Q (.sh (.tup ((wordsTo (srt sg) n).map sd)))
/-- small_words: slots 0 signs 1 number; calls need_signs need_length words_by -/
def d_small_words : DS := dSeq (dDrop (dCall F_need_signs (dCons (dV 0) (dNil)))) (dSeq (dDrop (dCall F_need_length (dCons (dV 1) (dNil)))) (dRet (dBlt fTuple (dCons (dCall F_words_by (dCons (dV 0) (dCons (dV 1) (dNil)))) (dNil)))))
theorem r_small_words {ws : List W} {Q : W → Prop} (h : F_small_words ws Q) : d_small_words (ends Q) (startD ["signs", "number"] ws) := by
  obtain ⟨sg, n, G, hn, hg, rfl, q⟩ := h
  exact ⟨sg, G, rfl, n, rfl, hn, sg, n, G, hn, hg, rfl, q⟩
def F_place_of_word : Fd := fun ws Q => ∃ sg w, SG sg ∧ WD sg w ∧ ws = [.sh (sd sg), .sh (sd w)] ∧ Q (.sh (.int (plc (srt sg) w)))
/-- place_of_word: slots 0 signs 1 word 2 told 3 own 4 sign; calls need_signs need_word_of words_count -/
def d_place_of_word : DS := dSeq (dDrop (dCall F_need_signs (dCons (dV 0) (dNil)))) (dSeq (dDrop (dCall F_need_word_of (dCons (dV 0) (dCons (dV 1) (dNil))))) (dSeq (dPar 2 3 (dCons (dBlt fSorted (dCons (dV 0) (dNil))) (dCons (dC (.int 0)) (dNil)))) (dSeq (dFor (dIt (dV 1)) (.nm 4) (dAsg (dOp fAdd (dOp fMul (dV 3) (dBlt fLen (dCons (dV 2) (dNil)))) (dMt "list" mIndex (dV 2) (dCons (dV 4) (dNil)))) 3)) (dRet (dOp fAdd (dV 3) (dIfE (dTru (dV 1)) (dCall F_words_count (dCons (dBlt fLen (dCons (dV 2) (dNil))) (dCons (dOp (fI (fun _ _ => True) fun i j => i - j) (dBlt fLen (dCons (dV 1) (dNil))) (dC (.int 1))) (dNil)))) (dC (.int 0))))))))
theorem r_place_of_word {ws : List W} {Q : W → Prop} (h : F_place_of_word ws Q) : d_place_of_word (ends Q) (startD ["signs", "word", "told", "own", "sign"] ws) := by
  obtain ⟨sg, w, G, hw, rfl, q⟩ := h
  have h64 : sg.length < 64 := by have := G.n5; omega
  have ht := srt_len sg
  have hwl := hw.1
  refine ⟨sg, G, rfl, sg, w, hw, rfl, i_sorted h64 ⟨nofun, nofun, ?_⟩⟩
  refine for_over sc (I := fun r σ => ∃ (pre : List Nat) (own : Int) (sn : Option W), pre ++ r = w ∧ own = (num (srt sg) pre : Nat) ∧ σ = [some (.sh (sd sg)), some (.sh (sd w)), some (.fr (.lst (told sg))), some (.sh (.int own)), sn]) ?_ ?_ _ _ ?_
  · rintro c r σ ⟨pre, own, sn, hp, ho, rfl⟩ D' hnx _ _ _
    refine i_lenD (.inl rfl) ⟨.inr ⟨by simp; omega, by simp; omega⟩, ⟨.inr (.inl ⟨rfl, _, rfl⟩), i_index rfl (srt_mem.mpr (hw.2 c (by rw [← hp]; simp))) (i_addI (hnx _ ⟨pre ++ [c], _, _, by rw [← hp]; simp, ?_, rfl⟩))⟩⟩
    rw [num_snoc, ho]; simp
  · rintro σ ⟨pre, own, sn, hp, ho, rfl⟩
    rw [List.append_nil] at hp
    subst hp
    refine ⟨S_len_le (by omega), ?_⟩
    rw [i_truE]
    cases pre with
    | nil =>
      refine i_addI ?_
      rw [plc_num] at q
      simpa [ho, geo, num] using q
    | cons c r =>
      refine i_lenD (.inl rfl) (i_lenS (by omega) ⟨trivial, sg.length, r.length, by simp [ht], by have := G.n5; omega, by simp at hwl; omega, i_addI ?_⟩)
      rw [plc_num, ht] at q
      simpa [ho] using q
  · exact ⟨[], 0, none, rfl, rfl, rfl⟩
def F_word_at : Fd := fun ws Q => ∃ (sg : List Nat) (p : Nat), SG sg ∧ p ≤ 1000000000 ∧ (sg.length = 1 → p ≤ 1000) ∧ ws = [.sh (sd sg), .sh (.int p)] ∧ Q (.sh (sd (wat (srt sg) p)))
/-- word_at: slots 0 signs 1 place 2 told 3 found; calls need_signs is_index -/
def d_word_at_a : DS := dSeq (dPar 2 3 (dCons (dBlt fSorted (dCons (dV 0) (dNil))) (dCons (dC (.str "")) (dNil)))) (dSeq (dWhile (dTst (dOp fGt (dV 1) (dC (.int 0)))) (dSeq (dAsg (dOp fAdd (dOp fIx (dV 2) (dOp (fI (fun _ j => 0 < j) fun i j => i % j) (dOp (fI (fun _ _ => True) fun i j => i - j) (dV 1) (dC (.int 1))) (dBlt fLen (dCons (dV 2) (dNil))))) (dV 3)) 3) (dAsg (dOp (fI CDiv fun i j => i / j) (dOp (fI (fun _ _ => True) fun i j => i - j) (dV 1) (dC (.int 1))) (dBlt fLen (dCons (dV 2) (dNil)))) 1))) (dRetV 3))
def d_word_at : DS := dSeq (dDrop (dCall F_need_signs (dCons (dV 0) (dNil)))) (dSeq (dIf (dOr (dNot (dTst (dCall F_is_index (dCons (dV 1) (dCons (dOp fAdd (dC c_MOST_PLACE) (dC (.int 1))) (dNil)))))) (dAnd (dTst (dOp (fEq false) (dBlt fLen (dCons (dV 0) (dNil))) (dC (.int 1)))) (dTst (dOp fGt (dV 1) (dC c_MOST_WORD))))) (dNever) (dNx)) (d_word_at_a))
theorem r_word_at_a {sg : List Nat} {p : Nat} {Q : W → Prop} (G : SG sg) (h1 : p ≤ 1000000000) (h2 : sg.length = 1 → p ≤ 1000) (q : Q (.sh (sd (wat (srt sg) p)))) : d_word_at_a (ends Q) [some (.sh (sd sg)), some (.sh (.int p)), none, none] := by
  have h64 : sg.length < 64 := by have := G.n5; omega
  have ht := srt_len sg
  have hpos : 0 < (srt sg).length := by have := G.n1; omega
  have hshort := wat_short hpos h1 (by rw [ht]; exact h2)
  refine i_sorted h64 ⟨nofun, nofun, fun m σ => ∃ (pi : Int) (w : List Nat), pi = (m : Nat) ∧ wat (srt sg) p = wat (srt sg) m ++ w ∧ σ = [some (.sh (sd sg)), some (.sh (.int pi)), some (.fr (.lst (told sg))), some (.sh (sd w))], ?_, ?_⟩
  · exact ⟨p, _, [], rfl, by simp, rfl⟩
  · rintro m σ ⟨pi, w, hpi, hw, rfl⟩
    subst hpi
    by_cases hm : 0 < m
    · refine i_gtT (by omega) ⟨trivial, i_lenD (.inl rfl) ?_⟩
      have hmod := Nat.mod_lt (m - 1) hpos
      have e1 : ((m : Int) - 1) % (((told sg).length : Nat) : Int) = (((m - 1) % (srt sg).length : Nat) : Int) := by
        rw [List.length_map, Int.natCast_emod]; congr 1; omega
      have e2 : ((m : Int) - 1) / (((told sg).length : Nat) : Int) = (((m - 1) / (srt sg).length : Nat) : Int) := by
        rw [List.length_map, Int.natCast_ediv]; congr 1; omega
      have hl : (wat (srt sg) m ++ w).length ≤ 1000 := by rw [← hw]; exact hshort
      rw [wat_pos hm hpos] at hl hw
      simp only [List.length_append, List.length_singleton] at hl
      refine ⟨by rw [List.length_map]; omega, ?_⟩
      refine i_ixLe e1 (d := sc ((srt sg).getD ((m - 1) % (srt sg).length) 0)) (.inl rfl) ?_ (i_addS (by simp; omega) ⟨trivial, i_lenD (.inl rfl) ⟨⟨by rw [List.length_map]; omega, by rw [List.length_map]; have := G.n5; omega⟩, _, ?_, _, _, e2, ?_, rfl⟩⟩)
      · rw [List.getElem?_map, List.getD_eq_getElem?_getD, List.getElem?_eq_getElem hmod]; rfl
      · have := Nat.div_le_self (m - 1) (srt sg).length
        omega
      · rw [hw, List.append_assoc]
    · have : m = 0 := by omega
      subst this
      refine i_gtF (by omega) ?_
      rw [wat_zero, List.nil_append] at hw
      rw [hw] at q
      exact q
theorem r_word_at {ws : List W} {Q : W → Prop} (h : F_word_at ws Q) : d_word_at (ends Q) (startD ["signs", "place", "told", "found"] ws) := by
  obtain ⟨sg, p, G, h1, h2, rfl, q⟩ := h
  have hz : sg.length ≤ 16777216 := by have := G.n5; omega
  have := r_word_at_a G h1 h2 q
  refine ⟨sg, G, rfl, i_addI ⟨_, _, rfl, by omega, by omega, i_lenS hz ?_⟩⟩
  by_cases e : sg.length = 1
  · exact i_eqT (by omega) (i_gtF (by have := h2 e; omega) this)
  · exact i_eqF (by omega) this
def F_turned_word : Fd := fun ws Q => ∃ sg w, SG sg ∧ WD sg w ∧ ws = [.sh (sd sg), .sh (sd w)] ∧ Q (.sh (sd w.reverse))
/-- turned_word: slots 0 signs 1 word; calls need_signs need_word_of -/
def d_turned_word : DS := dSeq (dDrop (dCall F_need_signs (dCons (dV 0) (dNil)))) (dRet (dRev (dCall F_need_word_of (dCons (dV 0) (dCons (dV 1) (dNil))))))
theorem r_turned_word {ws : List W} {Q : W → Prop} (h : F_turned_word ws Q) : d_turned_word (ends Q) (startD ["signs", "word"] ws) := by
  obtain ⟨sg, w, G, hw, rfl, q⟩ := h
  exact ⟨sg, G, rfl, sg, w, hw, rfl, i_rev (by have := hw.1; omega) q⟩
/-- how often signs stand in a word -/
def cts (sg w : List Nat) : List Int := sg.map fun c => ((w.count c : Nat) : Int)
def F_counts_of : Fd := fun ws Q => ∃ sg w, SG sg ∧ WD sg w ∧ ws = [.sh (sd sg), .sh (sd w)] ∧ Q (.sh (.tup ((cts sg w).map .int)))
/-- counts_of: slots 0 signs 1 word 2 sign; calls need_signs need_word_of -/
def d_counts_of : DS := dSeq (dDrop (dCall F_need_signs (dCons (dV 0) (dNil)))) (dSeq (dDrop (dCall F_need_word_of (dCons (dV 0) (dCons (dV 1) (dNil))))) (dRet (dBlt fTuple (dCons (dLc (dIt (dV 0)) (.nm 2) (dYes) (dMt "str" mCount (dV 1) (dCons (dV 2) (dNil))) [2]) (dNil)))))
theorem r_counts_of {ws : List W} {Q : W → Prop} (h : F_counts_of ws Q) : d_counts_of (ends Q) (startD ["signs", "word", "sign"] ws) := by
  obtain ⟨sg, w, G, hw, rfl, q⟩ := h
  refine ⟨sg, G, rfl, sg, w, hw, rfl, szl (by rw [signs_S, List.length_map]; have := G.n5; omega), lc_over sc (fun c => .int ((w.count c : Nat) : Int)) _ ?_ ?_⟩
  · intro c hc R T hR
    exact ⟨.inl ⟨rfl, _, rfl⟩, i_count hR⟩
  · show Q _
    unfold cts at q
    rw [List.map_map] at q
    exact q
end Dl
namespace Dl
open PySem PySem.Spec PyProof.Rows L2
def F__law_pick : Fd := fun ws Q => ∃ ds : List D, ws = [.pen, .sh (.lst ds)] ∧ 0 < ds.length ∧ ds.length ≤ 1000000 ∧ ∀ d ∈ ds, Q (.sh d)
/-- _law_pick: slots 0 pen 1 some; calls _law_draw -/
def d__law_pick : DS := dRet (dOp fIx (dV 1) (dCall F__law_draw (dCons (dV 0) (dCons (dBlt fLen (dCons (dV 1) (dNil))) (dNil)))))
theorem r__law_pick {ws : List W} {Q : W → Prop} (h : F__law_pick ws Q) : d__law_pick (ends Q) (startD ["pen", "some"] ws) := by
  obtain ⟨ds, rfl, h0, h1, q⟩ := h
  refine i_lenD (.inl rfl) ⟨_, rfl, by omega, by omega, fun k k0 k1 => ?_⟩
  have hk : k.toNat < ds.length := by omega
  exact i_ixLe (n := k.toNat) (by omega) (.inl rfl) (List.getElem?_eq_getElem hk) (q _ (List.getElem_mem hk))
theorem seqIx {k n : Nat} (h : k < n) : seqIndex? (k : Int) n = some k := by
  refine (ixN_seq ?_).1
  unfold ixN
  rw [if_pos (by omega), if_pos (by omega)]; simp
theorem perm_erase {α : Type} : ∀ {l : List α} {n : Nat} (h : n < l.length), (l[n] :: l.eraseIdx n).Perm l
  | x :: r, 0, _ => List.Perm.refl _
  | x :: r, n + 1, h => by
    have := perm_erase (l := r) (n := n) (by simpa using h)
    exact (List.Perm.swap x _ _).trans (this.cons x)
def F__law_shuffled : Fd := fun ws Q => ∃ ds : List D, ws = [.pen, .sh (.lst ds)] ∧ ds.length ≤ 1000000 ∧ ∀ es : List D, es.Perm ds → Q (.fr (.lst es))
/-- _law_shuffled: slots 0 pen 1 some 2 left 3 found 4 lap; calls _law_draw -/
def d__law_shuffled : DS := dSeq (dPar 2 3 (dCons (dBlt fList (dCons (dV 1) (dNil))) (dCons (dLst (dNil)) (dNil)))) (dSeq (dFor (dRng1 (dBlt fLen (dCons (dV 1) (dNil)))) (.nm 4) (dAppPop 3 2 (dCall F__law_draw (dCons (dV 0) (dCons (dBlt fLen (dCons (dV 2) (dNil))) (dNil)))))) (dRetV 3))
theorem r__law_shuffled {ws : List W} {Q : W → Prop} (h : F__law_shuffled ws Q) : d__law_shuffled (ends Q) (startD ["pen", "some", "left", "found", "lap"] ws) := by
  obtain ⟨ds, rfl, h1, q⟩ := h
  refine i_listD (.inl rfl) ⟨sz rfl, nofun, nofun, i_lenD (.inl rfl) ⟨by omega, by omega, ?_⟩⟩
  refine for_rule (I := fun r σ => ∃ (left found : List D) (lap : Option W), left.length = r.length ∧ (found ++ left).Perm ds ∧ σ = [some .pen, some (.sh (.lst ds)), some (.fr (.lst left)), some (.fr (.lst found)), lap]) ?_ ?_ _ _ ?_
  · rintro d r σ ⟨left, found, lap, hl, hp, rfl⟩ D' hnx _ _ _
    have hll := hp.length_eq
    rw [List.length_append] at hll
    refine ⟨by decide, ⟨_, rfl⟩, ⟨_, rfl⟩, i_lenD (.inl rfl) ⟨_, rfl, by simp at hl; omega, by omega, fun k k0 k1 => ?_⟩⟩
    obtain ⟨n, rfl⟩ : ∃ n : Nat, k = n := ⟨k.toNat, by omega⟩
    have hn : n < left.length := by omega
    refine ⟨⟨by omega, by omega⟩, Nat.lt_of_le_of_lt (show found.length ≤ 1000000 by omega) (by rw [sizeLine_eq]; omega), ?_⟩
    rw [seqIx hn]
    show (match left[n]? with | some x => _ | none => _)
    rw [List.getElem?_eq_getElem hn]
    refine hnx _ ⟨_, _, _, ?_, ?_, rfl⟩
    · rw [List.length_eraseIdx, if_pos hn, hl]; simp
    · refine List.Perm.trans ?_ hp
      rw [List.append_assoc]
      refine List.Perm.append_left _ ?_
      show ([left[n]] ++ left.eraseIdx n).Perm left
      exact perm_erase hn
  · rintro σ ⟨left, found, lap, hl, hp, rfl⟩
    have : left = [] := List.eq_nil_of_length_eq_zero (by simpa using hl)
    subst this
    rw [List.append_nil] at hp
    exact q _ hp
  · exact ⟨ds, [], none, by simp, by simp, rfl⟩
mutual
def D.pln : D → Bool
  | .non => true
  | .bl _ => true
  | .int _ => true
  | .str _ => true
  | .tup ds => Nat.ble ds.length 1000000 && D.plns ds
  | _ => false
def D.plns : List D → Bool
  | [] => true
  | d :: ds => D.pln d && D.plns ds
end
theorem plns_mem : ∀ {ds : List D} {d : D}, D.plns ds = true → d ∈ ds → d.pln = true
  | [], _, _, h => by simp at h
  | x :: r, d, h, hd => by
    unfold D.plns at h
    rw [Bool.and_eq_true] at h
    rcases List.mem_cons.mp hd with rfl | hd
    · exact h.1
    · exact plns_mem h.2 hd
theorem deps_mem : ∀ {ds : List D} {d : D}, d ∈ ds → d.dep ≤ D.deps ds
  | [], _, h => by simp at h
  | x :: r, d, hd => by
    unfold D.deps
    rcases List.mem_cons.mp hd with rfl | hd
    · omega
    · have := deps_mem hd; omega
/-- a row of plain things, so many rows deep at most, compared with itself -/
def F_is (n : Nat) : Fd := fun ws Q => ∃ d : D, ws = [.sh d, .sh d] ∧ d.pln = true ∧ d.dep < n ∧ Q (.sh (.bl true))
section
variable (F__law_is : Fd)
/-- _law_is: slots 0 told 1 due 2 at; calls _law_is -/
def d__law_is : DS := dSeq (dIf (dTst (dIsi "tuple" (dV 1))) (dSeq (dIf (dOr (dNot (dTst (dIsi "tuple" (dV 0)))) (dTst (dOp (fEq true) (dBlt fLen (dCons (dV 0) (dNil))) (dBlt fLen (dCons (dV 1) (dNil)))))) (dRet (dC (.bl false))) (dNx)) (dRet (dOp (fEq false) (dLc (dRng1 (dBlt fLen (dCons (dV 1) (dNil)))) (.nm 2) (dNot (dTst (dCall F__law_is (dCons (dOp fIx (dV 0) (dV 2)) (dCons (dOp fIx (dV 1) (dV 2)) (dNil)))))) (dV 2) [2]) (dLst (dNil))))) (dNx)) (dSeq (dIf (dTst (dOp (fIs false) (dV 1) (dC .non))) (dRet (dOp (fIs false) (dV 0) (dC .non))) (dNx)) (dSeq (dIf (dTst (dOp (fIs false) (dV 1) (dC (.bl true)))) (dRet (dOp (fIs false) (dV 0) (dC (.bl true)))) (dNx)) (dSeq (dIf (dTst (dOp (fIs false) (dV 1) (dC (.bl false)))) (dRet (dOp (fIs false) (dV 0) (dC (.bl false)))) (dNx)) (dSeq (dIf (dTst (dIsi "str" (dV 1))) (dRet (dAndV (dIsi "str" (dV 0)) (dOp (fEq false) (dV 0) (dV 1)))) (dNx)) (dRet (dAndV (dIsi "int" (dV 0)) (dAndV (dNotV (dIsi "bool" (dV 0))) (dOp (fEq false) (dV 0) (dV 1)))))))))
end
theorem i_is {b : Bool} {Q : W → Prop} {w u : W} (h : D.isS w.d u.d = some b) (q : Q (.sh (.bl b))) : fIs false w u Q := by
  unfold fIs
  rw [h]; exact q
theorem r__law_is {n : Nat} {ws : List W} {Q : W → Prop} (h : F_is (n + 1) ws Q) : d__law_is (F_is n) (ends Q) (startD ["told", "due", "at"] ws) := by
  obtain ⟨d, rfl, hp, hn, q⟩ := h
  cases d with
  | non => exact i_is rfl (i_is rfl q)
  | bl b =>
    refine i_is rfl ?_
    cases b with
    | true => exact i_is rfl (i_is rfl q)
    | false => exact i_is rfl (i_is rfl (i_is rfl q))
  | int i =>
    refine i_is rfl (i_is rfl (i_is rfl (i_eqT rfl q)))
  | str x =>
    refine i_is rfl (i_is rfl (i_is rfl ?_))
    rw [S_of x] at *
    exact i_eqS (by rw [decide_eq_true rfl]; exact q)
  | tup ds =>
    unfold D.pln at hp
    rw [Bool.and_eq_true] at hp
    have hl := Nat.le_of_ble_eq_true hp.1
    refine i_lenD (.inr rfl) (i_lenD (.inr rfl) (i_neF rfl (i_lenD (.inr rfl) ⟨by omega, by omega, szl (by simp; omega), lc_rule (fun _ => false) id _ [] ?_ ?_⟩)))
    · intro d hd R T _ hT
      obtain ⟨i, hi, rfl⟩ := List.mem_map.mp hd
      have hi : i < ds.length := by simpa using hi
      have e1 : (0 + (i : Int)) = ((i : Nat) : Int) := by omega
      refine i_ixLe e1 (.inr rfl) (List.getElem?_eq_getElem hi) (i_ixLe e1 (.inr rfl) (List.getElem?_eq_getElem hi) ⟨ds[i], rfl, plns_mem hp.2 (List.getElem_mem hi), ?_, hT rfl⟩)
      have := deps_mem (List.getElem_mem hi)
      unfold D.dep at hn
      omega
    · rw [List.filter_eq_nil_iff.mpr (by simp)]
      exact ⟨sz rfl, i_same rfl rfl rfl (by decide) q⟩
  | _ => simp [D.pln] at hp
def F__law_drawn_word : Fd := fun ws Q => ∃ (sg : List Nat) (m : Nat), ws = [.pen, .sh (sd sg), .sh (.int m)] ∧ 0 < sg.length ∧ sg.length ≤ 1000 ∧ m ≤ 1000 ∧ ∀ w : List Nat, w.length ≤ m → (∀ c ∈ w, c ∈ sg) → Q (.sh (sd w))
/-- _law_drawn_word: slots 0 pen 1 signs 2 most 3 lap; calls _law_draw _law_pick -/
def d__law_drawn_word : DS := dRet (dMt "str" mJoin (dC (.str "")) (dCons (dLc (dRng1 (dCall F__law_draw (dCons (dV 0) (dCons (dOp fAdd (dV 2) (dC (.int 1))) (dNil))))) (.nm 3) (dYes) (dCall F__law_pick (dCons (dV 0) (dCons (dBlt fList (dCons (dV 1) (dNil))) (dNil)))) [3]) (dNil)))
theorem sc_list {sg : List Nat} : ∀ {xs : List D}, (∀ x ∈ xs, x ∈ sg.map sc) → ∃ w : List Nat, xs = w.map sc ∧ ∀ c ∈ w, c ∈ sg
  | [], _ => ⟨[], rfl, by simp⟩
  | x :: r, h => by
    obtain ⟨c, hc, rfl⟩ := List.mem_map.mp (h x (List.mem_cons_self ..))
    obtain ⟨w, rfl, hw⟩ := sc_list (sg := sg) (xs := r) fun y hy => h y (List.mem_cons_of_mem _ hy)
    refine ⟨c :: w, rfl, fun d hd => ?_⟩
    rcases List.mem_cons.mp hd with rfl | hd
    · exact hc
    · exact hw d hd
theorem r__law_drawn_word {ws : List W} {Q : W → Prop} (h : F__law_drawn_word ws Q) : d__law_drawn_word (ends Q) (startD ["pen", "signs", "most", "lap"] ws) := by
  obtain ⟨sg, m, rfl, h0, h1, hm, q⟩ := h
  refine ⟨.inl ⟨rfl, _, rfl⟩, i_addI ⟨_, rfl, by omega, by omega, fun k k0 k1 => ⟨by omega, by omega, szl (by simp; omega), ?_⟩⟩⟩
  refine lc_some (fun x => x ∈ sg.map sc) _ _ ?_ ?_
  · intro d hd R T hR
    exact i_list (by omega) ⟨_, rfl, by simp; omega, by simp; omega, fun x hx => hR x hx⟩
  · intro xs hl hx
    obtain ⟨w, rfl, hw⟩ := sc_list hx
    have hwl : w.length ≤ m := by simp at hl; omega
    exact i_join (.inl rfl) (by omega) (q w hwl hw)
def F__law_power : Fd := fun ws Q => ∃ b n : Nat, ws = [.sh (.int b), .sh (.int n)] ∧ b ≤ 1000000 ∧ n ≤ 1000000 ∧ Q (.sh (.int ((b ^ n : Nat) : Int)))
/-- _law_power: slots 0 base 1 number 2 found 3 lap; calls  -/
def d__law_power : DS := dSeq (dAsg (dC (.int 1)) 2) (dSeq (dFor (dRng1 (dV 1)) (.nm 3) (dAsg (dOp fMul (dV 2) (dV 0)) 2)) (dRetV 2))
theorem r__law_power {ws : List W} {Q : W → Prop} (h : F__law_power ws Q) : d__law_power (ends Q) (startD ["base", "number", "found", "lap"] ws) := by
  obtain ⟨b, n, rfl, hb, hn, q⟩ := h
  refine ⟨by omega, by omega, for_rule (I := fun r σ => ∃ (k : Nat) (f : Int) (lap : Option W), r.length + k = n ∧ f = ((b ^ k : Nat) : Int) ∧ σ = [some (.sh (.int b)), some (.sh (.int n)), some (.sh (.int f)), lap]) ?_ ?_ _ _ ?_⟩
  · rintro d r σ ⟨k, f, lap, hk, hf, rfl⟩ D' hnx _ _ _
    refine ⟨.inr ⟨by omega, by omega⟩, hnx _ ⟨k + 1, _, _, by simp at hk; omega, ?_, rfl⟩⟩
    rw [hf, Nat.pow_succ]; simp
  · rintro σ ⟨k, f, lap, hk, hf, rfl⟩
    have : k = n := by simpa using hk
    subst this
    subst hf
    exact q
  · exact ⟨0, 1, none, by simp, by simp, rfl⟩
theorem geo_sum (m : Nat) : ∀ n, ((List.range n).map fun i => ((m ^ i : Nat) : Int)).sum = ((geo m n : Nat) : Int)
  | 0 => rfl
  | n + 1 => by
    rw [List.range_succ, List.map_append, List.sum_append, geo_sum m n, geo]; simp
def F__law_shorter : Fd := fun ws Q => ∃ m n : Nat, ws = [.sh (.int m), .sh (.int n)] ∧ m ≤ 1000000 ∧ n ≤ 1000000 ∧ Q (.sh (.int ((geo m n : Nat) : Int)))
/-- _law_shorter: slots 0 many 1 length 2 size; calls _law_power -/
def d__law_shorter : DS := dRet (dBlt fSum (dCons (dLc (dRng1 (dV 1)) (.nm 2) (dYes) (dCall F__law_power (dCons (dV 0) (dCons (dV 2) (dNil)))) [2]) (dNil)))
theorem r__law_shorter {ws : List W} {Q : W → Prop} (h : F__law_shorter ws Q) : d__law_shorter (ends Q) (startD ["many", "length", "size"] ws) := by
  obtain ⟨m, n, rfl, hm, hn, q⟩ := h
  refine ⟨by omega, by omega, szl (by simp; omega), lc_over (fun (i : Nat) => D.int (0 + (i : Int))) (fun i => .int ((m ^ i : Nat) : Int)) _ ?_ (i_sum (.inl rfl) ?_)⟩
  · intro i hi R T hR
    have hi : i < n := by simpa using hi
    exact ⟨m, i, by simp, hm, by omega, hR⟩
  · have : ((n : Nat) : Int).toNat = n := by omega
    rw [this, geo_sum]; exact q
def F__law_worth : Fd := fun ws Q => ∃ sg w, SG sg ∧ (∀ c ∈ w, c ∈ sg) ∧ ws = [.sh (sd sg), .sh (sd w)] ∧ Q (.sh (.int (num (srt sg) w)))
/-- _law_worth: slots 0 signs 1 word 2 order 3 found 4 sign; calls  -/
def d__law_worth : DS := dSeq (dPar 2 3 (dCons (dBlt fSorted (dCons (dV 0) (dNil))) (dCons (dC (.int 0)) (dNil)))) (dSeq (dFor (dIt (dV 1)) (.nm 4) (dAsg (dOp fAdd (dOp fMul (dV 3) (dBlt fLen (dCons (dV 2) (dNil)))) (dMt "list" mIndex (dV 2) (dCons (dV 4) (dNil)))) 3)) (dRetV 3))
theorem r__law_worth {ws : List W} {Q : W → Prop} (h : F__law_worth ws Q) : d__law_worth (ends Q) (startD ["signs", "word", "order", "found", "sign"] ws) := by
  obtain ⟨sg, w, G, hw, rfl, q⟩ := h
  have h64 : sg.length < 64 := by have := G.n5; omega
  have ht := srt_len sg
  refine i_sorted h64 ⟨nofun, nofun, ?_⟩
  refine for_over sc (I := fun r σ => ∃ (pre : List Nat) (own : Int) (sn : Option W), pre ++ r = w ∧ own = (num (srt sg) pre : Nat) ∧ σ = [some (.sh (sd sg)), some (.sh (sd w)), some (.fr (.lst (told sg))), some (.sh (.int own)), sn]) ?_ ?_ _ _ ?_
  · rintro c r σ ⟨pre, own, sn, hp, ho, rfl⟩ D' hnx _ _ _
    refine i_lenD (.inl rfl) ⟨.inr ⟨by simp; omega, by simp; omega⟩, ⟨.inr (.inl ⟨rfl, _, rfl⟩), i_index rfl (srt_mem.mpr (hw c (by rw [← hp]; simp))) (i_addI (hnx _ ⟨pre ++ [c], _, _, by rw [← hp]; simp, ?_, rfl⟩))⟩⟩
    rw [num_snoc, ho]; simp
  · rintro σ ⟨pre, own, sn, hp, ho, rfl⟩
    rw [List.append_nil] at hp
    subst hp ho
    exact q
  · exact ⟨[], 0, none, rfl, rfl, rfl⟩
theorem digs_cons (t : List Nat) : ∀ (l n : Nat), digs t n (l + 1) = t.getD (n / t.length ^ l % t.length) 0 :: digs t n l
  | 0, n => by simp [digs]
  | l + 1, n => by
    rw [digs, digs_cons t l (n / t.length), digs, List.cons_append, Nat.div_div_eq_div_mul, Nat.pow_succ, Nat.mul_comm t.length]
def F__law_digits : Fd := fun ws Q => ∃ (sg : List Nat) (n l : Nat), SG sg ∧ l ≤ 1000 ∧ ws = [.sh (sd sg), .sh (.int n), .sh (.int l)] ∧ Q (.sh (sd (digs (srt sg) n l)))
/-- _law_digits: slots 0 signs 1 number 2 length 3 order 4 word 5 lap; calls  -/
def d__law_digits : DS := dSeq (dPar 3 4 (dCons (dBlt fSorted (dCons (dV 0) (dNil))) (dCons (dC (.str "")) (dNil)))) (dSeq (dFor (dRng1 (dV 2)) (.nm 5) (dPar 4 1 (dCons (dOp fAdd (dOp fIx (dV 3) (dOp (fI (fun _ j => 0 < j) fun i j => i % j) (dBlt fInt (dCons (dV 1) (dNil))) (dBlt fLen (dCons (dV 3) (dNil))))) (dV 4)) (dCons (dOp (fI CDiv fun i j => i / j) (dBlt fInt (dCons (dV 1) (dNil))) (dBlt fLen (dCons (dV 3) (dNil)))) (dNil))))) (dRetV 4))
theorem r__law_digits {ws : List W} {Q : W → Prop} (h : F__law_digits ws Q) : d__law_digits (ends Q) (startD ["signs", "number", "length", "order", "word", "lap"] ws) := by
  obtain ⟨sg, n, l, G, hl, rfl, q⟩ := h
  have h64 : sg.length < 64 := by have := G.n5; omega
  have ht := srt_len sg
  have hpos : 0 < (srt sg).length := by have := G.n1; omega
  refine i_sorted h64 ⟨nofun, nofun, by omega, by omega, ?_⟩
  refine for_rule (I := fun r σ => ∃ (k : Nat) (m : Int) (w : List Nat) (lap : Option W), r.length + k = l ∧ m = ((n / (srt sg).length ^ k : Nat) : Int) ∧ w = digs (srt sg) n k ∧ σ = [some (.sh (sd sg)), some (.sh (.int m)), some (.sh (.int l)), some (.fr (.lst (told sg))), some (.sh (sd w)), lap]) ?_ ?_ _ _ ?_
  · rintro d r σ ⟨k, m, w, lap, hk, hm, hw, rfl⟩ D' hnx _ _ _
    simp only [List.length_cons] at hk
    have hmod := Nat.mod_lt (n / (srt sg).length ^ k) hpos
    have e1 : m % (((told sg).length : Nat) : Int) = ((n / (srt sg).length ^ k % (srt sg).length : Nat) : Int) := by
      rw [List.length_map, hm, Int.natCast_emod]
    have hwl : w.length = k := by rw [hw, digs_len]
    refine i_lenD (.inl rfl) ⟨by rw [List.length_map]; omega, i_ixLe e1 (d := sc ((srt sg).getD (n / (srt sg).length ^ k % (srt sg).length) 0)) (.inl rfl) ?_ (i_addS (by simp; omega) (i_lenD (.inl rfl) ⟨⟨by rw [List.length_map]; omega, by rw [List.length_map]; have := G.n5; omega⟩, nofun, nofun, hnx _ ⟨k + 1, _, _, _, by omega, ?_, ?_, rfl⟩⟩))⟩
    · rw [List.getElem?_map, List.getD_eq_getElem?_getD, List.getElem?_eq_getElem hmod]; rfl
    · show m / (((told sg).length : Nat) : Int) = _
      rw [List.length_map, hm, Nat.pow_succ, ← Nat.div_div_eq_div_mul, Int.natCast_ediv, Int.natCast_ediv, Int.natCast_ediv]
    · rw [hw, digs_cons]; rfl
  · rintro σ ⟨k, m, w, lap, hk, hm, hw, rfl⟩
    have : k = l := by simpa using hk
    subst this hw
    exact q
  · exact ⟨0, _, _, none, by simp, by simp, rfl, rfl⟩
end Dl
namespace Dl
open PySem PySem.Spec PyProof.Rows L2
abbrev F__law_is : Fd := F_is 2
/-- law: slots 0 script 1 pen 2 lap 3 signs 4 many 5 one 6 other 7 both 8 place 9 spot 10 length 11 ahead 12 own 13 due 14 sums 15 size 16 every 17 left 18 right 19 sign 20 at; calls _law_shuffled _law_draw _law_drawn_word _law_shorter _law_worth _law_power _law_is place_of_word is_word are_signs word_at _law_pick _law_digits turned_word counts_of small_words -/
def d_law_m : DS := dIf (dAnd (dTst (dOp (fEq true) (dV 7) (dC (.str "")))) (dTst (dOp (fEq true) (dOp (fI (fun _ _ => True) fun i j => i - j) (dCall F_place_of_word (dCons (dV 3) (dCons (dV 7) (dNil)))) (dCall F_place_of_word (dCons (dV 3) (dCons (dSl fSl (dV 7) (dP (dC (.int 1))) (dNoP)) (dNil))))) (dOp fMul (dCall F__law_power (dCons (dV 4) (dCons (dOp (fI (fun _ _ => True) fun i j => i - j) (dBlt fLen (dCons (dV 7) (dNil))) (dC (.int 1))) (dNil)))) (dOp fAdd (dC (.int 1)) (dMt "list" mIndex (dBlt fSorted (dCons (dV 3) (dNil))) (dCons (dOp fIx (dV 7) (dC (.int 0))) (dNil)))))))) (dRet (dC (.bl false))) (dNx)
def d_law_l : DS := dSeq (dAsg (dCall F_small_words (dCons (dV 3) (dCons (dV 15) (dNil)))) 16) (dSeq (dIf (dOr (dTst (dOp (fEq true) (dBlt fLen (dCons (dV 16) (dNil))) (dCall F__law_shorter (dCons (dV 4) (dCons (dOp fAdd (dV 15) (dC (.int 1))) (dNil)))))) (dTst (dOp (fEq true) (dV 16) (dBlt fTuple (dCons (dLc (dRng1 (dBlt fLen (dCons (dV 16) (dNil)))) (.nm 20) (dYes) (dCall F_word_at (dCons (dV 3) (dCons (dV 20) (dNil)))) [20]) (dNil)))))) (dRet (dC (.bl false))) (dNx)) (d_law_m))
def d_law_k : DS := dSeq (dAsg (dCall F__law_draw (dCons (dV 1) (dCons (dC (.int 4)) (dNil)))) 15) (d_law_l)
def d_law_j : DS := dSeq (dAsg (dBlt fTuple (dCons (dLc (dZip (dCall F_counts_of (dCons (dV 3) (dCons (dV 5) (dNil)))) (dCall F_counts_of (dCons (dV 3) (dCons (dV 6) (dNil))))) (.tp [17, 18]) (dYes) (dOp fAdd (dV 17) (dV 18)) [17, 18]) (dNil))) 14) (dSeq (dIf (dOr (dTst (dOp (fEq true) (dCall F_counts_of (dCons (dV 3) (dCons (dV 7) (dNil)))) (dV 14))) (dOr (dTst (dOp (fEq true) (dBlt fSum (dCons (dV 14) (dNil))) (dBlt fLen (dCons (dV 7) (dNil))))) (dOr (dTst (dOp (fEq true) (dCall F_counts_of (dCons (dV 3) (dCons (dV 7) (dNil)))) (dBlt fTuple (dCons (dLc (dIt (dV 3)) (.nm 19) (dYes) (dMt "str" mCount (dV 7) (dCons (dV 19) (dNil))) [19]) (dNil))))) (dTst (dOp (fEq true) (dCall F_counts_of (dCons (dV 3) (dCons (dRev (dV 7)) (dNil)))) (dV 14)))))) (dRet (dC (.bl false))) (dNx)) (d_law_k))
def d_law_i : DS := dSeq (dIf (dTst (dOp (fEq true) (dCall F_turned_word (dCons (dV 3) (dCons (dV 7) (dNil)))) (dOp fAdd (dCall F_turned_word (dCons (dV 3) (dCons (dV 6) (dNil)))) (dCall F_turned_word (dCons (dV 3) (dCons (dV 5) (dNil))))))) (dRet (dC (.bl false))) (dNx)) (d_law_j)
def d_law_h : DS := dSeq (dIf (dOr (dTst (dOp (fEq true) (dCall F_word_at (dCons (dV 3) (dCons (dV 9) (dNil)))) (dV 13))) (dOr (dTst (dOp (fEq true) (dCall F_place_of_word (dCons (dV 3) (dCons (dV 13) (dNil)))) (dV 9))) (dOr (dTst (dOp (fEq true) (dCall F_turned_word (dCons (dV 3) (dCons (dV 13) (dNil)))) (dRev (dV 13)))) (dTst (dOp (fEq true) (dCall F_turned_word (dCons (dV 3) (dCons (dCall F_turned_word (dCons (dV 3) (dCons (dV 13) (dNil)))) (dNil)))) (dV 13)))))) (dRet (dC (.bl false))) (dNx)) (d_law_i)
def d_law_g : DS := dSeq (dAsg (dCall F__law_digits (dCons (dV 3) (dCons (dOp (fI (fun _ _ => True) fun i j => i - j) (dV 9) (dV 11)) (dCons (dV 10) (dNil))))) 13) (d_law_h)
def d_law_f : DS := dSeq (dWhile (dTst (dOp fLe (dOp fAdd (dV 11) (dV 12)) (dV 9))) (dPar3 10 11 12 (dCons (dOp fAdd (dV 10) (dC (.int 1))) (dCons (dOp fAdd (dV 11) (dV 12)) (dCons (dOp fMul (dV 12) (dV 4)) (dNil)))))) (d_law_g)
def d_law_e : DS := dSeq (dAsgT (dTup (dCons (dCall F__law_draw (dCons (dV 1) (dCons (dIfE (dTst (dOp (fEq false) (dV 4) (dC (.int 1)))) (dC (.int 201)) (dCall F__law_pick (dCons (dV 1) (dCons (dLst (dCons (dC (.int 10)) (dCons (dC (.int 1000)) (dCons (dOp (fI CPow fun i j => i ^ j.toNat) (dC (.int 10)) (dC (.int 6))) (dCons (dOp (fI CPow fun i j => i ^ j.toNat) (dC (.int 10)) (dC (.int 9))) (dNil)))))) (dNil))))) (dNil)))) (dCons (dC (.int 0)) (dCons (dC (.int 0)) (dCons (dC (.int 1)) (dNil)))))) (.tp [9, 10, 11, 12])) (d_law_f)
def d_law_d : DS := dSeq (dIf (dAnd (dTst (dOp fLe (dV 8) (dIfE (dTst (dOp (fEq false) (dV 4) (dC (.int 1)))) (dC (.int 200)) (dOp (fI CPow fun i j => i ^ j.toNat) (dC (.int 10)) (dC (.int 9)))))) (dTst (dOp (fEq true) (dCall F_word_at (dCons (dV 3) (dCons (dV 8) (dNil)))) (dV 7)))) (dRet (dC (.bl false))) (dNx)) (d_law_e)
def d_law_c : DS := dSeq (dIf (dNot (dTst (dCall F__law_is (dCons (dTup (dCons (dCall F_are_signs (dCons (dV 3) (dNil))) (dCons (dCall F_is_word (dCons (dV 3) (dCons (dV 7) (dNil)))) (dCons (dCall F_place_of_word (dCons (dV 3) (dCons (dV 7) (dNil)))) (dNil))))) (dCons (dTup (dCons (dC (.bl true)) (dCons (dC (.bl true)) (dCons (dV 8) (dNil))))) (dNil)))))) (dRet (dC (.bl false))) (dNx)) (d_law_d)
def d_law_b : DS := dSeq (dAsg (dOp fAdd (dV 5) (dV 6)) 7) (dSeq (dAsg (dOp fAdd (dOp fAdd (dCall F__law_shorter (dCons (dV 4) (dCons (dBlt fLen (dCons (dV 7) (dNil))) (dNil)))) (dOp fMul (dCall F__law_worth (dCons (dV 3) (dCons (dV 5) (dNil)))) (dCall F__law_power (dCons (dV 4) (dCons (dBlt fLen (dCons (dV 6) (dNil))) (dNil)))))) (dCall F__law_worth (dCons (dV 3) (dCons (dV 6) (dNil))))) 8) (d_law_c))
def d_law_a : DS := dSeq (dPar 5 6 (dCons (dCall F__law_drawn_word (dCons (dV 1) (dCons (dV 3) (dCons (dC (.int 9)) (dNil))))) (dCons (dCall F__law_drawn_word (dCons (dV 1) (dCons (dV 3) (dCons (dC (.int 9)) (dNil))))) (dNil)))) (d_law_b)
def d_law : DS := dSeq (dFor (dRng1 (dC (.int 6))) (.nm 2) (dSeq (dAsg (dMt "str" mJoin (dC (.str "")) (dCons (dSl fSl (dCall F__law_shuffled (dCons (dV 1) (dCons (dBlt fList (dCons (dC (.str "abcdefghijklmnopqrstuvwxyz")) (dNil))) (dNil)))) (dNoP) (dP (dOp fAdd (dC (.int 1)) (dCall F__law_draw (dCons (dV 1) (dCons (dC (.int 5)) (dNil))))))) (dNil))) 3) (dSeq (dAsg (dBlt fLen (dCons (dV 3) (dNil))) 4) (d_law_a)))) (dRet (dC (.bl true)))
abbrev st (x2 x3 x4 x5 x6 x7 x8 x9 x10 x11 x12 x13 x14 x15 x16 : Option W) : DSt := [none, some .pen, x2, x3, x4, x5, x6, x7, x8, x9, x10, x11, x12, x13, x14, x15, x16, none, none, none, none]
def LI (σ : DSt) : Prop := ∃ x2 x3 x4 x5 x6 x7 x8 x9 x10 x11 x12 x13 x14 x15 x16 : Option W, σ = st x2 x3 x4 x5 x6 x7 x8 x9 x10 x11 x12 x13 x14 x15 x16
theorem LI.i {x2 x3 x4 x5 x6 x7 x8 x9 x10 x11 x12 x13 x14 x15 x16 : Option W} : LI (st x2 x3 x4 x5 x6 x7 x8 x9 x10 x11 x12 x13 x14 x15 x16) := ⟨_, _, _, _, _, _, _, _, _, _, _, _, _, _, _, rfl⟩
abbrev wi (n : Nat) : Option W := some (.sh (.int (n : Int)))
abbrev ww (w : List Nat) : Option W := some (.sh (sd w))
/-- what is drawn: signs, two words of them -/
structure Dr (sg a b : List Nat) : Prop where
  G : SG sg
  la : a.length ≤ 9
  lb : b.length ≤ 9
  ma : ∀ c ∈ a, c ∈ sg
  mb : ∀ c ∈ b, c ∈ sg
section
variable {sg a b : List Nat}
theorem Dr.mab (d : Dr sg a b) : ∀ c ∈ a ++ b, c ∈ sg := fun c hc => by
  rcases List.mem_append.mp hc with h | h
  · exact d.ma c h
  · exact d.mb c h
theorem Dr.lab (d : Dr sg a b) : (a ++ b).length ≤ 18 := by have := d.la; have := d.lb; rw [List.length_append]; omega
theorem Dr.wa (d : Dr sg a b) : WD sg a := ⟨by have := d.la; omega, d.ma⟩
theorem Dr.wb (d : Dr sg a b) : WD sg b := ⟨by have := d.lb; omega, d.mb⟩
theorem Dr.wab (d : Dr sg a b) : WD sg (a ++ b) := ⟨by have := d.lab; omega, d.mab⟩
theorem Dr.n64 (d : Dr sg a b) : sg.length < 64 := by have := d.G.n5; omega
variable {x2 x3 x4 x5 x6 x7 x8 x9 x10 x11 x12 x13 x14 x15 x16 : Option W} {E : DEnds}
theorem r_law_m (d : Dr sg a b) (hD : ∀ σ, LI σ → E.nx σ) : d_law_m E (st x2 (ww sg) (wi sg.length) x5 x6 (ww (a ++ b)) x8 x9 x10 x11 x12 x13 x14 x15 x16) := by
  have hw := d.wab
  have hl := d.lab
  have ht := srt_len sg
  cases e : a ++ b with
  | nil => exact i_neSF rfl (hD _ LI.i)
  | cons c r =>
    rw [e] at hw hl
    have hr : WD sg r := ⟨by have := hw.1; simp at this; omega, fun x hx => hw.2 x (by simp [hx])⟩
    have hc : c ∈ srt sg := srt_mem.mpr (hw.2 c (by simp))
    refine i_neST (b := []) (by simp) ⟨sg, c :: r, d.G, hw, rfl, i_slSFrom (k := 1) (by omega) rfl ⟨sg, r, d.G, hr, rfl, trivial, i_lenS (by omega) ⟨trivial, sg.length, r.length, ?_, by have := d.G.n5; omega, by have := hr.1; omega, i_sorted d.n64 ⟨.inr (.inl ⟨rfl, _, rfl⟩), i_ixS (n := 0) (by omega) rfl (i_index rfl hc (i_addI ⟨.inr ?_, i_neF ?_ (hD _ LI.i)⟩))⟩⟩⟩⟩
    · show [W.sh (.int ((sg.length : Nat) : Int)), W.sh (.int ((((c :: r).length : Nat) : Int) - 1))] = _
      rw [List.length_cons]; congr 4; omega
    · have : ix (srt sg) c < (srt sg).length := List.idxOf_lt_length_of_mem hc
      have := d.G.n5
      exact ⟨by omega, by omega⟩
    · show ((plc (srt sg) (c :: r) : Nat) : Int) - ((plc (srt sg) r : Nat) : Int) = ((sg.length ^ r.length : Nat) : Int) * (1 + ((ix (srt sg) c : Nat) : Int))
      rw [plc_cons, ht]; push_cast; omega
theorem sg_strOk (G : SG sg) {w : List Nat} (h : ∀ c ∈ w, c ∈ sg) : (sd w).flat = true := by
  show PyData.strOk (S w) = true
  refine strOk_S fun c hc => ?_
  have := G.az c (h c hc)
  unfold azL at this
  rw [List.mem_range'] at this
  obtain ⟨i, h1, h2⟩ := this
  omega
theorem geo_small {m n : Nat} (hm : m ≤ 5) (hn : n ≤ 4) : geo m n ≤ 156 := by
  have h1 : geo m n ≤ geo m 4 := geo_mono hn
  have h2 : geo m 4 ≤ 156 := by
    have hb : ∀ k : Nat, k < 6 → geo k 4 ≤ 156 := by decide
    exact hb m (by omega)
  omega
theorem r_law_l (d : Dr sg a b) {size : Nat} (hs : size < 4) (hD : ∀ σ, LI σ → E.nx σ) : d_law_l E (st x2 (ww sg) (wi sg.length) x5 x6 (ww (a ++ b)) x8 x9 x10 x11 x12 x13 x14 (wi size) x16) := by
  have ht := srt_len sg
  have h5 := d.G.n5
  have hpos : 0 < (srt sg).length := by have := d.G.n1; omega
  have hg : geo sg.length (size + 1) ≤ 156 := geo_small h5 (by omega)
  refine ⟨sg, size, d.G, by omega, by omega, rfl, i_lenD (.inr rfl) (i_addI ⟨sg.length, size + 1, rfl, by omega, by omega, i_neF ?_ (i_lenD (.inr rfl) ⟨?_, ?_, szl ?_, ?_⟩)⟩)⟩
  · rw [List.length_map, wordsTo_len, ht]
  · rw [List.length_map, wordsTo_len, ht]; omega
  · rw [List.length_map, wordsTo_len, ht]; omega
  · rw [List.length_map, List.length_range, List.length_map, wordsTo_len, ht]; omega
  · refine lc_over (fun (i : Nat) => D.int (0 + (i : Int))) (fun i => sd (wat (srt sg) i)) _ ?_ ?_
    · intro i hi R T hR
      rw [List.length_map, wordsTo_len, ht] at hi
      have hi : i < geo sg.length (size + 1) := by simpa using hi
      exact ⟨sg, i, d.G, by omega, fun _ => by omega, by simp, hR⟩
    · have e : ((wordsTo (srt sg) size).map sd) = (List.range (((((wordsTo (srt sg) size).map sd).length : Nat) : Int).toNat)).map fun i => sd (wat (srt sg) i) := by
        rw [List.length_map, wordsTo_len, Int.toNat_natCast, wordsTo_row hpos, List.map_map]; rfl
      refine i_other (d := .tup ((wordsTo (srt sg) size).map sd)) rfl (by rw [← e]; rfl) (flat_tup ?_) (Nat.le_trans (dep_tup (n := 0) ?_) (by omega)) (r_law_m d hD)
      · intro x hx
        rw [wordsTo_row hpos, List.map_map] at hx
        obtain ⟨i, _, rfl⟩ := List.mem_map.mp hx
        exact sg_strOk d.G fun c hc => srt_mem.mp (wat_mem hpos i c hc)
      · intro x hx
        obtain ⟨i, _, rfl⟩ := List.mem_map.mp hx
        exact Nat.le_refl _
theorem r_law_k (d : Dr sg a b) (hD : ∀ σ, LI σ → E.nx σ) : d_law_k E (st x2 (ww sg) (wi sg.length) x5 x6 (ww (a ++ b)) x8 x9 x10 x11 x12 x13 x14 x15 x16) := by
  refine ⟨4, rfl, by omega, by omega, fun k h0 h1 => ?_⟩
  obtain ⟨n, rfl⟩ : ∃ n : Nat, k = n := ⟨k.toNat, by omega⟩
  exact r_law_l d (by omega) hD
theorem sum_cts : ∀ {w : List Nat}, sg.Nodup → (∀ c ∈ w, c ∈ sg) → (cts sg w).sum = (w.length : Nat)
  | [], _, _ => by
    have : ∀ l : List Nat, (l.map fun c => ((([] : List Nat).count c : Nat) : Int)).sum = 0 := fun l => by
      induction l with
      | nil => rfl
      | cons x r ih => rw [List.map_cons, List.sum_cons, ih]; simp
    exact this sg
  | x :: w, nd, h => by
    have ih := sum_cts (w := w) nd fun c hc => h c (by simp [hc])
    have step : ∀ l : List Nat, l.Nodup → (l.map fun c => (((x :: w).count c : Nat) : Int)).sum = (l.map fun c => ((w.count c : Nat) : Int)).sum + (if x ∈ l then 1 else 0) := fun l => by
      induction l with
      | nil => intro _; rfl
      | cons y r ih2 =>
        intro hn
        rw [List.map_cons, List.sum_cons, List.map_cons, List.sum_cons, ih2 (List.nodup_cons.mp hn).2, List.count_cons]
        by_cases e : x = y
        · subst e
          have := (List.nodup_cons.mp hn).1
          simp [this]; omega
        · have e2 : ¬ (y = x) := fun q => e q.symm
          by_cases hm : x ∈ r <;> simp [e, e2, hm] <;> omega
    unfold cts at ih ⊢
    rw [step sg nd, ih, if_pos (h x (by simp)), List.length_cons]; push_cast; omega
theorem r_law_j (d : Dr sg a b) (hD : ∀ σ, LI σ → E.nx σ) : d_law_j E (st x2 (ww sg) (wi sg.length) (ww a) (ww b) (ww (a ++ b)) x8 x9 x10 x11 x12 x13 x14 x15 x16) := by
  have h5 := d.G.n5
  have hab := d.lab
  have hrev : WD sg (a ++ b).reverse := ⟨by rw [List.length_reverse]; exact d.wab.1, fun c hc => d.mab c (List.mem_reverse.mp hc)⟩
  have hz : zipD ((cts sg a).map .int) ((cts sg b).map .int) = sg.map fun c => .tup [.int ((a.count c : Nat) : Int), .int ((b.count c : Nat) : Int)] := by
    have : ∀ l : List Nat, zipD ((l.map fun c => ((a.count c : Nat) : Int)).map .int) ((l.map fun c => ((b.count c : Nat) : Int)).map .int) = l.map fun c => D.tup [.int ((a.count c : Nat) : Int), .int ((b.count c : Nat) : Int)] := fun l => by
      induction l with
      | nil => rfl
      | cons c r ih => simp only [List.map_cons, zipD, ih]
    exact this sg
  have hs : (sg.map fun c => D.int (((a.count c : Nat) : Int) + ((b.count c : Nat) : Int))) = (cts sg (a ++ b)).map .int := by
    unfold cts
    rw [List.map_map]
    refine List.map_congr_left fun c _ => ?_
    show _ = D.int (((a ++ b).count c : Nat) : Int)
    rw [List.count_append]; push_cast; rfl
  have fl : (D.tup ((cts sg (a ++ b)).map .int)).flat = true := flat_tup fun x hx => by
    obtain ⟨i, _, rfl⟩ := List.mem_map.mp hx
    rfl
  have dp : (D.tup ((cts sg (a ++ b)).map .int)).dep ≤ 64 := Nat.le_trans (dep_tup (n := 0) fun x hx => by
    obtain ⟨i, _, rfl⟩ := List.mem_map.mp hx
    exact Nat.le_refl _) (by omega)
  refine ⟨sg, a, d.G, d.wa, rfl, sg, b, d.G, d.wb, rfl, ?_⟩
  refine ⟨by rw [hz]; exact szl (by rw [List.length_map]; omega), ?_⟩
  rw [hz]
  refine lc_over _ (fun c => D.int (((a.count c : Nat) : Int) + ((b.count c : Nat) : Int))) _ ?_ ?_
  · intro c hc R T hR
    exact ⟨rfl, i_addI hR⟩
  · rw [hs]
    refine ⟨sg, a ++ b, d.G, d.wab, rfl, i_other rfl rfl fl dp (i_sum (l := cts sg (a ++ b)) (g := id) (.inr rfl) (i_lenS (by omega) (i_neF ?_ ⟨sg, a ++ b, d.G, d.wab, rfl, szl (by rw [signs_S, List.length_map]; omega),
      lc_over sc (fun c => .int (((a ++ b).count c : Nat) : Int)) _ ?_ (i_other (d := .tup ((cts sg (a ++ b)).map .int)) rfl ?_ fl dp ⟨S_len_le (by omega), sg, (a ++ b).reverse, d.G, hrev, rfl, i_other (d := .tup ((cts sg (a ++ b)).map .int)) ?_ rfl fl dp (r_law_k d hD)⟩)⟩)))⟩
    · rw [List.map_id]; exact sum_cts d.G.nd d.mab
    · intro c hc R T hR
      exact ⟨.inl ⟨rfl, _, rfl⟩, i_count hR⟩
    · unfold cts; rw [List.map_map]; rfl
    · show D.tup ((cts sg (a ++ b).reverse).map .int) = _
      have : cts sg (a ++ b).reverse = cts sg (a ++ b) := List.map_congr_left fun c _ => by rw [List.count_reverse]
      rw [this]
theorem r_law_i (d : Dr sg a b) (hD : ∀ σ, LI σ → E.nx σ) : d_law_i E (st x2 (ww sg) (wi sg.length) (ww a) (ww b) (ww (a ++ b)) x8 x9 x10 x11 x12 x13 x14 x15 x16) := by
  have := d.la
  have := d.lb
  refine ⟨sg, a ++ b, d.G, d.wab, rfl, sg, b, d.G, d.wb, rfl, sg, a, d.G, d.wa, rfl, i_addS (by simp; omega) (i_neSF (by simp) (r_law_j d hD))⟩
/-- a place as it is told: so many shorter ones, and the number -/
structure Plc (sg : List Nat) (spot len n : Nat) : Prop where
  e : spot = n + geo sg.length len
  lt : n < sg.length ^ len
  le : spot ≤ 1000000000
  one : sg.length = 1 → spot ≤ 1000
theorem Plc.len {spot len n : Nat} (G : SG sg) (h : Plc sg spot len n) : len ≤ 1000 := by
  have h1 := h.e
  by_cases e : sg.length = 1
  · have := h.one e
    rw [e, geo_one] at h1
    omega
  · have h2 := two_geo (m := sg.length) (by have := G.n1; omega) len
    have h3 := h.le
    rcases Nat.lt_or_ge 30 len with h4 | h4
    · have : 2 ^ 31 ≤ 2 ^ len := Nat.pow_le_pow_right (by omega) h4
      have e2 : (2 : Nat) ^ 31 = 2147483648 := by decide
      omega
    · omega
theorem r_law_h (d : Dr sg a b) {spot len n : Nat} (h : Plc sg spot len n) (hE : ∀ σ, LI σ → E.nx σ) : d_law_h E (st x2 (ww sg) (wi sg.length) (ww a) (ww b) (ww (a ++ b)) x8 (wi spot) x10 x11 x12 (ww (digs (srt sg) n len)) x14 x15 x16) := by
  have ht := srt_len sg
  have hpos : 0 < (srt sg).length := by have := d.G.n1; omega
  have hl := h.len d.G
  have nd := srt_nodup d.G.nd
  have hlt : n < (srt sg).length ^ len := by rw [ht]; exact h.lt
  have hwd : WD sg (digs (srt sg) n len) := ⟨by rw [digs_len]; exact hl, fun c hc => srt_mem.mp (digs_mem hpos len n c hc)⟩
  have hrv : WD sg (digs (srt sg) n len).reverse := ⟨by rw [List.length_reverse]; exact hwd.1, fun c hc => hwd.2 c (List.mem_reverse.mp hc)⟩
  refine ⟨sg, spot, d.G, h.le, h.one, rfl, i_neSF ?_ ⟨sg, _, d.G, hwd, rfl, i_neF ?_ ⟨sg, _, d.G, hwd, rfl, S_len_le (by have := hwd.1; omega), i_neSF rfl ⟨sg, _, d.G, hwd, rfl, sg, _, d.G, hrv, rfl, i_neSF (List.reverse_reverse _) (r_law_i d hE)⟩⟩⟩⟩
  · rw [h.e, ← ht]; exact digs_wat nd hpos hlt
  · rw [digs_plc nd hpos hlt, h.e, ht]
theorem r_law_g (d : Dr sg a b) {spot len n : Nat} {ah : Int} (h : Plc sg spot len n) (ha : ah = (geo sg.length len : Nat)) (hE : ∀ σ, LI σ → E.nx σ) : d_law_g E (st x2 (ww sg) (wi sg.length) (ww a) (ww b) (ww (a ++ b)) x8 (wi spot) (wi len) (some (.sh (.int ah))) x12 x13 x14 x15 x16) := by
  have hl := h.len d.G
  refine ⟨trivial, sg, n, len, d.G, hl, ?_, r_law_h d h hE⟩
  show [W.sh (sd sg), W.sh (.int (((spot : Nat) : Int) - ah)), W.sh (.int ((len : Nat) : Int))] = _
  have := h.e
  rw [show ((spot : Nat) : Int) - ah = ((n : Nat) : Int) by omega]
theorem r_law_f (d : Dr sg a b) {spot : Nat} (h1 : spot ≤ 1000000000) (h2 : sg.length = 1 → spot ≤ 1000) (hE : ∀ σ, LI σ → E.nx σ) : d_law_f E (st x2 (ww sg) (wi sg.length) (ww a) (ww b) (ww (a ++ b)) x8 (wi spot) (some (.sh (.int 0))) (some (.sh (.int 0))) (some (.sh (.int 1))) x13 x14 x15 x16) := by
  have h0 := d.G.n1
  have h5 := d.G.n5
  refine ⟨fun m σ => ∃ (len : Nat) (l ah ow : Int), geo sg.length len ≤ spot ∧ m = spot - geo sg.length len ∧ l = (len : Nat) ∧ ah = (geo sg.length len : Nat) ∧ ow = (sg.length ^ len : Nat) ∧
    σ = st x2 (ww sg) (wi sg.length) (ww a) (ww b) (ww (a ++ b)) x8 (wi spot) (some (.sh (.int l))) (some (.sh (.int ah))) (some (.sh (.int ow))) x13 x14 x15 x16, ⟨spot, 0, 0, 0, 1, by simp [geo], by simp [geo], rfl, by simp [geo], by simp, rfl⟩, ?_⟩
  rintro m σ ⟨len, l, ah, ow, hg, hm, hl, ha, ho, rfl⟩
  have hp : 0 < sg.length ^ len := Nat.pow_pos h0
  by_cases c : geo sg.length len + sg.length ^ len ≤ spot
  · refine i_addI (i_leT (by omega) (i_addI (i_addI ⟨.inr ⟨by omega, by omega⟩, _, ?_, len + 1, _, _, _, ?_, rfl, ?_, ?_, ?_, rfl⟩)))
    · rw [geo]; omega
    · rw [geo]; exact c
    · rw [hl]; push_cast; rfl
    · rw [ha, ho, geo]; push_cast; rfl
    · rw [ho, Nat.pow_succ]; push_cast; rfl
  · refine i_addI (i_leF (by omega) ?_)
    subst hl
    exact r_law_g d (n := spot - geo sg.length len) ⟨by omega, by omega, h1, h2⟩ ha hE
theorem r_law_e (d : Dr sg a b) (hE : ∀ σ, LI σ → E.nx σ) : d_law_e E (st x2 (ww sg) (wi sg.length) (ww a) (ww b) (ww (a ++ b)) x8 x9 x10 x11 x12 x13 x14 x15 x16) := by
  by_cases e : sg.length = 1
  · refine i_eqT (by omega) ⟨201, rfl, by omega, by omega, fun k k0 k1 => ⟨sz rfl, rfl, ?_⟩⟩
    obtain ⟨n, rfl⟩ : ∃ n : Nat, k = n := ⟨k.toNat, by omega⟩
    exact r_law_f d (by omega) (fun _ => by omega) hE
  · refine i_eqF (by omega) ⟨⟨by decide, by decide, by decide⟩, ⟨by decide, by decide, by decide⟩, sz rfl, _, rfl, by simp, by simp, fun x hx => ?_⟩
    obtain ⟨m, rfl, hm0, hm1⟩ : ∃ m : Nat, x = .int (m : Int) ∧ 0 < m ∧ m ≤ 1000000000 := by
      simp only [List.mem_cons, List.not_mem_nil, or_false] at hx
      rcases hx with rfl | rfl | rfl | rfl
      · exact ⟨10, rfl, by omega, by omega⟩
      · exact ⟨1000, rfl, by omega, by omega⟩
      · exact ⟨1000000, rfl, by omega, by omega⟩
      · exact ⟨1000000000, rfl, by omega, by omega⟩
    refine ⟨m, rfl, by omega, by omega, fun k k0 k1 => ⟨sz rfl, rfl, ?_⟩⟩
    obtain ⟨n, rfl⟩ : ∃ n : Nat, k = n := ⟨k.toNat, by omega⟩
    exact r_law_f d (by omega) (fun q => absurd q e) hE
theorem r_law_d (d : Dr sg a b) {p : Nat} (hp : p = plc (srt sg) (a ++ b)) (hE : ∀ σ, LI σ → E.nx σ) : d_law_d E (st x2 (ww sg) (wi sg.length) (ww a) (ww b) (ww (a ++ b)) (wi p) x9 x10 x11 x12 x13 x14 x15 x16) := by
  have ht := srt_len sg
  have hpos : 0 < (srt sg).length := by have := d.G.n1; omega
  have hw : wat (srt sg) p = a ++ b := by rw [hp]; exact wat_plc hpos _ fun c hc => srt_mem.mpr (d.mab c hc)
  by_cases e : sg.length = 1
  · refine i_eqT (by omega) ?_
    by_cases c : p ≤ 200
    · exact i_leT (by omega) ⟨sg, p, d.G, by omega, fun _ => by omega, rfl, i_neSF hw (r_law_e d hE)⟩
    · exact i_leF (by omega) (r_law_e d hE)
  · refine i_eqF (by omega) ⟨⟨by decide, by decide, by decide⟩, ?_⟩
    have e9 : (10 : Int) ^ (9 : Int).toNat = 1000000000 := by decide
    by_cases c : p ≤ 1000000000
    · exact i_leT (by show ((p : Nat) : Int) ≤ (10 : Int) ^ (9 : Int).toNat; omega) ⟨sg, p, d.G, by omega, fun q => absurd q e, rfl, i_neSF hw (r_law_e d hE)⟩
    · exact i_leF (by show ¬ ((p : Nat) : Int) ≤ (10 : Int) ^ (9 : Int).toNat; omega) (r_law_e d hE)
theorem r_law_c (d : Dr sg a b) {p : Nat} (hp : p = plc (srt sg) (a ++ b)) (hE : ∀ σ, LI σ → E.nx σ) : d_law_c E (st x2 (ww sg) (wi sg.length) (ww a) (ww b) (ww (a ++ b)) (wi p) x9 x10 x11 x12 x13 x14 x15 x16) := by
  subst hp
  exact ⟨sg, d.G, rfl, sg, _, d.G, d.wab, rfl, sg, _, d.G, d.wab, rfl, sz rfl, sz rfl, _, rfl, rfl, Nat.lt_succ_self 1, r_law_d d rfl hE⟩
theorem r_law_b (d : Dr sg a b) (hE : ∀ σ, LI σ → E.nx σ) : d_law_b E (st x2 (ww sg) (wi sg.length) (ww a) (ww b) x7 x8 x9 x10 x11 x12 x13 x14 x15 x16) := by
  have h1 := d.la
  have h2 := d.lb
  have h3 := d.lab
  have h5 := d.G.n5
  have ht := srt_len sg
  have hb : sg.length ^ b.length ≤ 5 ^ 9 := Nat.le_trans (Nat.pow_le_pow_left h5 _) (Nat.pow_le_pow_right (by omega) h2)
  have e59 : (5 : Nat) ^ 9 = 1953125 := by decide
  refine i_addS (by omega) (i_lenS (by omega) ⟨sg.length, (a ++ b).length, rfl, by omega, by omega, sg, a, d.G, d.ma, rfl, i_lenS (by omega) ⟨sg.length, b.length, rfl, by omega, by omega, .inr ⟨by omega, by omega⟩, i_addI ⟨sg, b, d.G, d.mb, rfl, i_addI ?_⟩⟩⟩)
  have e : ((geo sg.length (a ++ b).length : Nat) : Int) + ((num (srt sg) a : Nat) : Int) * ((sg.length ^ b.length : Nat) : Int) + ((num (srt sg) b : Nat) : Int) = ((plc (srt sg) (a ++ b) : Nat) : Int) := by
    rw [plc_num, num_app, ht]; push_cast; omega
  have := r_law_c (x2 := x2) (x9 := x9) (x10 := x10) (x11 := x11) (x12 := x12) (x13 := x13) (x14 := x14) (x15 := x15) (x16 := x16) d rfl hE
  unfold wi at this
  rw [← e] at this
  exact this
theorem r_law_a (G : SG sg) (hE : ∀ σ, LI σ → E.nx σ) : d_law_a E (st x2 (ww sg) (wi sg.length) x5 x6 x7 x8 x9 x10 x11 x12 x13 x14 x15 x16) := by
  have h1 := G.n1
  have h5 := G.n5
  refine ⟨sg, 9, rfl, by omega, by omega, by omega, fun a la ma => ⟨sg, 9, rfl, by omega, by omega, by omega, fun b lb mb => ⟨nofun, nofun, r_law_b ⟨G, la, lb, ma, mb⟩ hE⟩⟩⟩
end
theorem perm_sc {es : List D} (h : es.Perm (azL.map sc)) : ∃ l : List Nat, es = l.map sc ∧ l.Perm azL := by
  obtain ⟨l, rfl, _⟩ := sc_list (sg := azL) (xs := es) fun x hx => h.mem_iff.mp hx
  refine ⟨l, rfl, ?_⟩
  let g : D → Nat := fun d => match d with | .str z => z.cps.toList.headD 0 | _ => 0
  have := h.map g
  rw [List.map_map, List.map_map] at this
  have e : (g ∘ sc) = id := by funext c; rfl
  rwa [e, List.map_id, List.map_id] at this
theorem r_law {Q : W → Prop} (q : Q (.sh (.bl true))) : d_law (ends Q) (st none none none none none none none none none none none none none none none) := by
  refine ⟨by decide, by decide, for_rule (I := fun _ σ => LI σ) ?_ (fun _ _ => q) _ _ LI.i⟩
  rintro d r σ ⟨x2, x3, x4, x5, x6, x7, x8, x9, x10, x11, x12, x13, x14, x15, x16, rfl⟩ D' hnx _ _ _
  have e : fList [.sh (.str "abcdefghijklmnopqrstuvwxyz")] = fList [.sh (sd azL)] := by rw [az_S]
  refine ⟨.inl ⟨rfl, _, rfl⟩, ?_⟩
  show fList [.sh (.str "abcdefghijklmnopqrstuvwxyz")] _
  rw [e]
  refine i_list (by decide) ⟨_, rfl, by decide, fun es hes => ⟨5, rfl, by omega, by omega, fun k k0 k1 => i_addI (i_slTo (k := 1 + k.toNat) (by omega) rfl ?_)⟩⟩
  obtain ⟨l, rfl, hl⟩ := perm_sc hes
  have hlen : l.length = 26 := hl.length_eq
  have G : SG (l.take (1 + k.toNat)) := ⟨by rw [List.length_take]; omega, by rw [List.length_take]; omega, (hl.nodup_iff.mpr (by decide)).sublist (List.take_sublist ..), fun c hc => hl.mem_iff.mp (List.mem_of_mem_take hc)⟩
  refine i_join (w := l.take (1 + k.toNat)) (.inl (by show D.lst _ = _; rw [List.map_take])) (by rw [List.length_take]; omega) (i_lenS (by rw [List.length_take]; omega) (r_law_a G hnx))
end Dl
open PySem PySem.Spec PyProof.Rows L2
namespace Dl
def top (i : Nat) : Stmt := PySem.Challenge.pw_seenparts_k00_words_as_numbers.main.body.getD i (.Pass ⟨0, 0, 0, 0⟩)
end Dl
namespace Dl
abbrev s__law_pen : Stmt := top 29
abbrev s__law_draw : Stmt := top 30
theorem sc__law_draw : FnScope ["pen", "many", "cell", "digit", "blend"] ["pen", "many"] (defScope s__law_draw) := ⟨rfl, rfl, rfl, by decide +kernel, rfl, by decide +kernel, by decide +kernel⟩
structure PenT (mg : Str → Option Value) : Prop where
  n_len : mg "len" = none
  n_int : mg "int" = none
  n_list : mg "list" = none
section
variable {P : Program} {w : World} {mg : Str → Option Value} {base : Heap} {G : Gx}
theorem ok__law_draw {k : Nat} {f : Addr} {fd : FuncData} (Fu : Fun G.K "_law_draw" "_law_draw" s__law_draw f fd) (T : PenT mg) : FnOk P w G.K mg base CX0 (k + 1) f fd ["pen", "many"] (spD G F__law_draw) := by
  have nd := sc__law_draw.nd
  refine Fu.ok sc__law_draw (fun vs H Q E h => ?_) fun cdv A outer s H vs Q E hr h => ?_
  · obtain ⟨p, B, ws, Qd, _, _, ha, ⟨m, rfl, _⟩, _⟩ := h
    exact ha.len
  · obtain ⟨p, B, ws, Qd, hs, hk, ha, ⟨m, rfl, hm0, hm1, hQ⟩, k⟩ := h
    obtain ⟨v, r, rfl, ⟨a, rfl, hp⟩, v2, r2, rfl, h2, hr2⟩ := ha
    cases hr2
    have e2 : v2 = .int m := by have := h2; unfold AR1 Has at this; exact this
    subst e2
    have hu := hu_of hr
    obtain ⟨hb0, c, ns, x, d, n, g, hH, hc, hx, hd⟩ := hk a hp
    subst hp
    have fin : ∀ (x d n g r : Int), 0 ≤ x → 0 ≤ d → 0 ≤ r → r < m → Q (.int r) (upd H a (.dK (penD c x d n g))) := fun x d n g r h1 h2 h3 h4 =>
      k (.sh (.int r)) _ B _ (Grow.pen_to hs hb0 (by rw [hH]; simp) hc h1 h2) (by show Has G B (.int r) (.int r); unfold Has; rfl) (fun d e => by cases e) (hQ r h3 h4)
    have hcells : ∀ x d n g, SqL G.K (upd H a (.dK (penD c x d n g))) c (List.map V.int ns) := fun x d n g =>
      Evl.ex_l (fun b o e => by rw [upd_ne (fun q => by rw [q, hb0] at e; cases e)]; exact hs b o e) hc
    have atS : ∀ i : Int, 0 ≤ i → i < (ns.length : Int) → ∃ z, atI (List.map V.int ns) i = some (V.int z) := fun i h1 h2 => by
      have h3 : i.toNat < ns.length := by omega
      refine ⟨ns[i.toNat], ?_⟩
      unfold atI ixN
      rw [if_pos h1, List.length_map, if_pos h2]
      simp [h3]
    obtain ⟨tR, hR, sR⟩ : ∃ t, PSs (cxOf CX0 P w G.K mg base ["pen", "many", "cell", "digit", "blend"] "_law_draw" (defScope s__law_draw) f cdv A outer s H E).nox ((defBody s__law_draw).drop 2) t ∧ ∀ (x d n g : Int) (v2 : Option V) (D : Ends), D.rt = Q → 0 ≤ x → 0 ≤ d → t D [some (.ref a), some (.int m), v2, none, none] (upd H a (.dK (penD c x d n g))) := by
      refine ⟨_, (pss_cons (ps_if (pt_cmpR op_gt (pe_dget hu (pv 0) pe_str (fun _ _ => rfl)) pe_int (nomark _))
        (pss_cons (ps_set (i := 3) nd rfl (Or.inl rfl) (pe_op op_mod (pe_callTy call_int1 (by rfl) T.n_int (by decide +kernel) (pa_cons (pe_dget hu (pv 0) pe_str (fun _ _ => rfl)) pa_nil)) (pv 1)))
        (pss_cons (ps_dput hu (pv 0) pe_str (pe_op op_fdiv (pe_dget hu (pv 0) pe_str (fun _ _ => rfl)) (pv 1)) rfl)
        (pss_one (ps_ret (pv 3))))) pss_nil)
      (pss_cons (ps_set (i := 4) nd rfl (Or.inl rfl) (pe_op op_mod (pe_callTy call_int1 (by rfl) T.n_int (by decide +kernel) (pa_cons (pe_op op_add (pe_op op_add (pe_op op_mul (pe_dget hu (pv 0) pe_str (fun _ _ => rfl)) pe_int) (pe_op op_mul (pe_dget hu (pv 0) pe_str (fun _ _ => rfl)) pe_int)) pe_int) pa_nil)) pe_int))
      (pss_cons (ps_set (i := 4) nd rfl (Or.inl rfl) (pe_op op_mod (pe_callTy call_int1 (by rfl) T.n_int (by decide +kernel) (pa_cons (pe_op op_add (pe_op op_add (pe_op op_mul (pv 4) (pv 4)) (pe_op op_mul pe_int (pv 4))) (pe_dget hu (pv 0) pe_str (fun _ _ => rfl))) pa_nil)) pe_int))
      (pss_cons (ps_dput hu (pv 0) pe_str (pe_op op_mod (pe_callTy call_int1 (by rfl) T.n_int (by decide +kernel) (pa_cons (pe_op op_add (pe_op op_mul (pv 4) pe_int) pe_int) pa_nil)) pe_int) rfl)
      (pss_one (ps_ret (pe_op op_mod (pe_callTy call_int1 (by rfl) T.n_int (by decide +kernel) (pa_cons (pe_op op_fdiv (pv 4) pe_int) pa_nil)) (pv 1)))))))), ?_⟩
      intro x d n g v2 D hD hx hd
      refine rdp rfl upd_same pg_d ⟨_, _, rfl, rfl, _, rfl, ite2 (fun c1 => ?_) (fun c1 => ?_)⟩
      · have c2 : 0 < d := by simpa using c1
        refine rdp rfl upd_same pg_d (.inl ⟨_, rfl, _, rfl, _, _, rfl, rfl, hm0, rdp rfl upd_same pg_d ⟨_, rfl, _, _, rfl, rfl, ⟨hm0, hm1⟩, _, rfl, a, _, rfl, DPut.k (k := kd) upd_same pen_len, ?_⟩⟩)
        rw [upd_upd, pp_d]
        refine ⟨_, rfl, ?_⟩
        show D.rt _ _
        rw [hD]
        exact fin _ _ _ _ _ hx (Int.ediv_nonneg hd (by omega)) (Int.emod_nonneg _ (by omega)) (Int.emod_lt_of_pos _ hm0)
      · refine rdp rfl upd_same pg_f ?_
        refine ⟨_, _, rfl, rfl, .inr ⟨by decide, by decide⟩, rdp rfl upd_same pg_n ⟨_, _, rfl, rfl, .inr ⟨by decide, by decide⟩, _, _, rfl, rfl, _, _, rfl, rfl, .inl ⟨_, rfl, _, _, rfl, rfl, (show (0 : Int) < 2147483647 by decide), ?_⟩⟩⟩
        have big : ∀ z : Int, 0 ≤ z % 2147483647 ∧ z % 2147483647 < 2147483647 := fun z => ⟨Int.emod_nonneg _ (by decide), Int.emod_lt_of_pos _ (by decide)⟩
        have hb := big (g * 48271 + n * 7919 + 13)
        generalize (g * 48271 + n * 7919 + 13) % 2147483647 = b at hb ⊢
        refine ⟨_, rfl, _, rfl, _, _, rfl, rfl, .inl ⟨by omega, by omega⟩, _, rfl, _, _, rfl, rfl, .inl ⟨by decide, by decide⟩, _, _, rfl, rfl, rdp rfl upd_same pg_n ⟨_, _, rfl, rfl, .inl ⟨_, rfl, _, _, rfl, rfl, (show (0 : Int) < 2147483629 by decide), ?_⟩⟩⟩
        have hb2 : 0 ≤ (b * b + 31 * b + n) % 2147483629 := Int.emod_nonneg _ (by decide)
        generalize (b * b + 31 * b + n) % 2147483629 = b2 at hb2 ⊢
        refine ⟨_, rfl, _, _, rfl, rfl, .inr ⟨by decide, by decide⟩, _, _, rfl, rfl, .inl ⟨_, rfl, _, _, rfl, rfl, (show (0 : Int) < 2147483647 by decide), _, rfl, a, _, rfl, DPut.k (k := kf) upd_same pen_len, ?_⟩⟩
        rw [upd_upd, pp_f]
        refine ⟨_, rfl, _, _, rfl, rfl, ⟨by decide, by decide⟩, .inl ⟨_, rfl, _, rfl, _, _, rfl, rfl, hm0, ?_⟩⟩
        show D.rt _ _
        rw [hD]
        exact fin _ _ _ _ _ hx hd (Int.emod_nonneg _ (by omega)) (Int.emod_lt_of_pos _ hm0)
    refine ⟨_, pss_cons (ps_dput hu (pv 0) pe_str (pe_op op_add (pe_dget hu (pv 0) pe_str (fun _ _ => rfl)) pe_int) rfl)
      (pss_cons (ps_if (PW.pt (pw_and (pt_cmpR op_eq (pe_dget hu (pv 0) pe_str (fun _ _ => rfl)) pe_int (nomark _)) (pw_and1 (pt_cmpR op_lt (pe_dget hu (pv 0) pe_str (fun _ _ => rfl)) (pe_callB call_len_seq (by rfl) T.n_len (by decide +kernel) (pa_cons (pe_dget hu (pv 0) pe_str (fun _ _ => rfl)) pa_nil)) (nomark _)))))
        (pss_cons (ps_set (i := 2) nd rfl (Or.inl rfl) (pe_ix ix_list (pe_dget hu (pv 0) pe_str (fun _ _ => rfl)) (pe_dget hu (pv 0) pe_str (fun _ _ => rfl)) (fun _ _ => rfl)))
        (pss_cons (ps_dput hu (pv 0) pe_str (pe_op op_add (pe_dget hu (pv 0) pe_str (fun _ _ => rfl)) pe_int) rfl)
        (pss_one (ps_if (pt_cmpR op_ge (pv 2) (pe_op op_pow pe_int pe_int) (nomark _))
          (pss_one (ps_dput hu (pv 0) pe_str (pe_op op_sub (pv 2) (pe_op op_pow pe_int pe_int)) rfl))
          (pss_one (ps_dput hu (pv 0) pe_str (pe_op op_mod (pe_callTy call_int1 (by rfl) T.n_int (by decide +kernel) (pa_cons (pe_op op_add (pe_op op_mul (pe_dget hu (pv 0) pe_str (fun _ _ => rfl)) pe_int) (pv 2)) pa_nil)) pe_int) rfl)))))) pss_nil) hR), ?_⟩
    refine rdp rfl hH pg_n ⟨_, _, rfl, rfl, _, rfl, a, _, rfl, DPut.k (k := kn) hH pen_len, ?_⟩
    rw [pp_n]
    refine rdp rfl upd_same pg_d ⟨rfl, _, rfl, ite2 (fun c1 => ?_) (fun c1 => ?_)⟩
    · refine rdp rfl upd_same pg_a (rdp rfl upd_same pg_c ⟨_, _, rfl, .inl (hcells _ _ _ _), _, _, rfl, rfl, _, rfl, ite2 (fun c2 => ?_) (fun c2 => ?_)⟩)
      · have c3 : x < (ns.length : Int) := by simpa using c2
        obtain ⟨z, hz⟩ := atS x hx c3
        refine rdp rfl upd_same pg_c (rdp rfl upd_same pg_a ⟨_, _, _, _, rfl, rfl, hcells _ _ _ _, hz, ?_⟩)
        refine rdp rfl upd_same pg_a ⟨_, _, rfl, rfl, _, rfl, a, _, rfl, DPut.k (k := ka) upd_same pen_len, ?_⟩
        rw [upd_upd, pp_a]
        refine ⟨_, rfl, _, _, rfl, rfl, ⟨by decide, by decide, by decide⟩, _, _, rfl, rfl, _, rfl, ite2 (fun c4 => ?_) (fun c4 => ?_)⟩
        · refine ⟨_, rfl, _, _, rfl, rfl, ⟨by decide, by decide, by decide⟩, _, _, rfl, rfl, _, rfl, a, _, rfl, DPut.k (k := kd) upd_same pen_len, ?_⟩
          rw [upd_upd, pp_d]
          refine sR _ _ _ _ _ _ rfl (by omega) ?_
          have c5 : (10 : Int) ^ (18 : Int).toNat ≤ z := of_decide_eq_true c4
          show 0 ≤ z - (10 : Int) ^ (18 : Int).toNat
          omega
        · refine rdp rfl upd_same pg_f ⟨_, _, rfl, rfl, .inr ⟨by decide, by decide⟩, _, rfl, _, _, rfl, rfl, .inl ⟨_, rfl, _, _, rfl, rfl, (show (0 : Int) < 2147483587 by decide), _, rfl, a, _, rfl, DPut.k (k := kf) upd_same pen_len, ?_⟩⟩
          rw [upd_upd, pp_f]
          exact sR _ _ _ _ _ _ rfl (by omega) hd
      · exact sR _ _ _ _ _ _ rfl hx hd
    · exact sR _ _ _ _ _ _ rfl hx hd
theorem sc__law_pen : FnScope ["script", "fold", "cell"] ["script"] (defScope s__law_pen) := ⟨rfl, rfl, rfl, by decide +kernel, rfl, by decide +kernel, by decide +kernel⟩
theorem ok__law_pen {k : Nat} {f : Addr} {fd : FuncData} (Fu : Fun G.K "_law_pen" "_law_pen" s__law_pen f fd) (T : PenT mg) : FnOk P w G.K mg base CX0 (k + 1) f fd ["script"] (spPen G.K) := by
  have nd := sc__law_pen.nd
  refine Fu.ok sc__law_pen (fun vs H Q E h => ?_) fun cdv A outer s H vs Q E hr h => ?_
  · obtain ⟨a, ns, rfl, _⟩ := h
    rfl
  · obtain ⟨a, ns, rfl, hS, k⟩ := h
    refine ⟨_, pss_cons (ps_set (i := 1) nd rfl (Or.inl rfl) pe_int)
      (pss_cons (ps_for PassesOwn.never rfl (pi_list (pv 0)) (pg_name (i := 2) nd rfl (Or.inl rfl))
        (pss_one (ps_set (i := 1) nd rfl (Or.inl rfl) (pe_op op_mod (pe_callTy call_int1 (by rfl) T.n_int (by decide +kernel) (pa_cons (pe_op op_add (pe_op op_mul (pv 1) pe_int) (pv 2)) pa_nil)) pe_int))))
      (pss_one (ps_ret (pe_disp (pps_cons pe_str (pe_callTy call_list_of (by rfl) T.n_list (by decide +kernel) (pa_cons (pv 0) pa_nil)) (pps_cons pe_str pe_int (pps_cons pe_str pe_int (pps_cons pe_str pe_int (pps_cons pe_str (pv 1) pps_nil))))) rfl rfl (List.cons_ne_nil _ _) (Nat.le_of_ble_eq_true rfl))))), ?_⟩
    refine ⟨_, rfl, a, rfl, ⟨_, hS⟩, for_list (K := G.K) (a := a) (xs := List.map V.int ns) (fun i σ H' => ∃ (c : Int) (v : Option V), H' = H ∧ σ = [some (.ref a), some (.int c), v]) ⟨0, none, rfl, rfl⟩ (fun i σ H' _ ⟨_, _, e, _⟩ => by rw [e]; exact hS) ?_ ?_⟩
    · rintro i y σ H' hi ⟨c, v, rfl, rfl⟩
      obtain ⟨u, rfl⟩ : ∃ u, y = V.int u := by
        rw [List.getElem?_map] at hi
        cases e : ns[i]? with
        | none => rw [e] at hi; cases hi
        | some u => rw [e] at hi; exact ⟨u, (Option.some.inj hi).symm⟩
      exact ⟨_, rfl, _, _, rfl, rfl, .inr ⟨by decide, by decide⟩, _, rfl, _, _, rfl, rfl, .inl ⟨_, rfl, _, _, rfl, rfl, (show (0 : Int) < 1000000007 by decide), _, _, rfl, rfl⟩⟩
    · rintro σ H' ⟨c, v, rfl, rfl⟩
      intro x hx
      refine ⟨_, rfl, _, _, rfl, .inl (Evl.ex_l (fun b o e => by rw [upd_ne (ne_of_none e hx)]; exact e) hS), fun l hl => ?_⟩
      have nxl : x ≠ l := fun q => by rw [q, upd_same] at hl; cases hl
      have hl0 : H' l = none := by rw [upd_ne (Ne.symm nxl)] at hl; exact hl
      refine ⟨_, rfl, by rw [upd_ne nxl, upd_same], penD l 0 0 0 c, rfl, Nat.le_of_ble_eq_true rfl, ?_⟩
      rw [pen_merge]
      refine k x l c _ (fun b o e => ?_) nxl upd_same (by rw [upd_ne (Ne.symm nxl), upd_same])
      rw [upd_ne (ne_of_none e hx), upd_ne (ne_of_none e hl0), upd_ne (ne_of_none e hx)]; exact e
end
end Dl
open PySem PySem.Spec PyProof.Rows L2
namespace Dl
section
variable {G : Gx} {p : Option Addr} {B0 H0 : Hp} {X : Cx}
theorem has_int_ {i : Int} (B : Hp) : Has G B (.int i) (.int i) := by unfold Has; rfl
theorem has_str_ {i : Str} (B : Hp) : Has G B (.str i) (.str i) := by unfold Has; rfl
theorem de_gl {x : Str} {v : V} {d : D} {pos : Pos} (hg : Gl X x) (h : ∃ u, X.mg x = some u ∧ RelV v u) (hd : ∀ B, Has G B d v) (hdb : (x == ("__debug__" : Str)) = false := by decide) : DEj G p B0 H0 X (.Name x pos) (dC d) := by
  obtain ⟨u, h1, h2⟩ := h
  exact de_glob hg h1 h2 hd hdb
end
/-- a promise that is never asked for -/
theorem no_ok {P : Program} {w : World} {K : PySem.W.Frag} {mg : Str → Option Value} {base : Heap} {G : Gx} {k : Nat} {f : Addr} {fd : FuncData} {ps : List Str} {F : Fd} (h : ∀ ws Q, F ws Q → False) : FnOk P w K mg base CX0 k f fd ps (spD G F) :=
  ⟨fun vs H Q E ⟨_, _, ws, Qd, _, _, _, q, _⟩ => (h ws Qd q).elim, fun A outer s H args us vs Q E _ _ _ _ ⟨_, _, ws, Qd, _, _, _, q, _⟩ => (h ws Qd q).elim⟩
end Dl
namespace Dl
abbrev s_is_whole : Stmt := top 6
abbrev N_is_whole : List Str := ["value"]
theorem sc_is_whole : FnScope N_is_whole ["value"] (defScope s_is_whole) := ⟨rfl, rfl, rfl, by decide +kernel, rfl, by decide +kernel, by decide +kernel⟩
abbrev s_is_index : Stmt := top 7
abbrev N_is_index : List Str := ["value", "many"]
theorem sc_is_index : FnScope N_is_index ["value", "many"] (defScope s_is_index) := ⟨rfl, rfl, rfl, by decide +kernel, rfl, by decide +kernel, by decide +kernel⟩
abbrev s_are_signs : Stmt := top 15
abbrev N_are_signs : List Str := ["value", "sign"]
theorem sc_are_signs : FnScope N_are_signs ["value"] (defScope s_are_signs) := ⟨rfl, rfl, rfl, by decide +kernel, rfl, by decide +kernel, by decide +kernel⟩
abbrev s_need_signs : Stmt := top 16
abbrev N_need_signs : List Str := ["value"]
theorem sc_need_signs : FnScope N_need_signs ["value"] (defScope s_need_signs) := ⟨rfl, rfl, rfl, by decide +kernel, rfl, by decide +kernel, by decide +kernel⟩
abbrev s_is_word_by : Stmt := top 17
abbrev N_is_word_by : List Str := ["signs", "value", "sign"]
theorem sc_is_word_by : FnScope N_is_word_by ["signs", "value"] (defScope s_is_word_by) := ⟨rfl, rfl, rfl, by decide +kernel, rfl, by decide +kernel, by decide +kernel⟩
abbrev s_is_word : Stmt := top 18
abbrev N_is_word : List Str := ["signs", "value"]
theorem sc_is_word : FnScope N_is_word ["signs", "value"] (defScope s_is_word) := ⟨rfl, rfl, rfl, by decide +kernel, rfl, by decide +kernel, by decide +kernel⟩
abbrev s_need_word_of : Stmt := top 19
abbrev N_need_word_of : List Str := ["signs", "word"]
theorem sc_need_word_of : FnScope N_need_word_of ["signs", "word"] (defScope s_need_word_of) := ⟨rfl, rfl, rfl, by decide +kernel, rfl, by decide +kernel, by decide +kernel⟩
abbrev s_words_count : Stmt := top 20
abbrev N_words_count : List Str := ["many", "number", "total", "power", "lap"]
theorem sc_words_count : FnScope N_words_count ["many", "number"] (defScope s_words_count) := ⟨rfl, rfl, rfl, by decide +kernel, rfl, by decide +kernel, by decide +kernel⟩
abbrev s_words_by : Stmt := top 21
abbrev N_words_by : List Str := ["signs", "number", "many", "found", "last", "lap", "longer", "word", "sign"]
theorem sc_words_by : FnScope N_words_by ["signs", "number"] (defScope s_words_by) := ⟨rfl, rfl, rfl, by decide +kernel, rfl, by decide +kernel, by decide +kernel⟩
abbrev s_need_length : Stmt := top 22
abbrev N_need_length : List Str := ["number"]
theorem sc_need_length : FnScope N_need_length ["number"] (defScope s_need_length) := ⟨rfl, rfl, rfl, by decide +kernel, rfl, by decide +kernel, by decide +kernel⟩
abbrev s_small_words : Stmt := top 23
abbrev N_small_words : List Str := ["signs", "number"]
theorem sc_small_words : FnScope N_small_words ["signs", "number"] (defScope s_small_words) := ⟨rfl, rfl, rfl, by decide +kernel, rfl, by decide +kernel, by decide +kernel⟩
abbrev s_place_of_word : Stmt := top 24
abbrev N_place_of_word : List Str := ["signs", "word", "told", "own", "sign"]
theorem sc_place_of_word : FnScope N_place_of_word ["signs", "word"] (defScope s_place_of_word) := ⟨rfl, rfl, rfl, by decide +kernel, rfl, by decide +kernel, by decide +kernel⟩
abbrev s_word_at : Stmt := top 25
abbrev N_word_at : List Str := ["signs", "place", "told", "found"]
theorem sc_word_at : FnScope N_word_at ["signs", "place"] (defScope s_word_at) := ⟨rfl, rfl, rfl, by decide +kernel, rfl, by decide +kernel, by decide +kernel⟩
abbrev s_turned_word : Stmt := top 26
abbrev N_turned_word : List Str := ["signs", "word"]
theorem sc_turned_word : FnScope N_turned_word ["signs", "word"] (defScope s_turned_word) := ⟨rfl, rfl, rfl, by decide +kernel, rfl, by decide +kernel, by decide +kernel⟩
abbrev s_counts_of : Stmt := top 27
abbrev N_counts_of : List Str := ["signs", "word", "sign"]
theorem sc_counts_of : FnScope N_counts_of ["signs", "word"] (defScope s_counts_of) := ⟨rfl, rfl, rfl, by decide +kernel, rfl, by decide +kernel, by decide +kernel⟩
abbrev s__law_pick : Stmt := top 31
abbrev N__law_pick : List Str := ["pen", "some"]
theorem sc__law_pick : FnScope N__law_pick ["pen", "some"] (defScope s__law_pick) := ⟨rfl, rfl, rfl, by decide +kernel, rfl, by decide +kernel, by decide +kernel⟩
abbrev s__law_shuffled : Stmt := top 32
abbrev N__law_shuffled : List Str := ["pen", "some", "left", "found", "lap"]
theorem sc__law_shuffled : FnScope N__law_shuffled ["pen", "some"] (defScope s__law_shuffled) := ⟨rfl, rfl, rfl, by decide +kernel, rfl, by decide +kernel, by decide +kernel⟩
abbrev s__law_is : Stmt := top 33
abbrev N__law_is : List Str := ["told", "due", "at"]
theorem sc__law_is : FnScope N__law_is ["told", "due"] (defScope s__law_is) := ⟨rfl, rfl, rfl, by decide +kernel, rfl, by decide +kernel, by decide +kernel⟩
abbrev s__law_drawn_word : Stmt := top 34
abbrev N__law_drawn_word : List Str := ["pen", "signs", "most", "lap"]
theorem sc__law_drawn_word : FnScope N__law_drawn_word ["pen", "signs", "most"] (defScope s__law_drawn_word) := ⟨rfl, rfl, rfl, by decide +kernel, rfl, by decide +kernel, by decide +kernel⟩
abbrev s__law_power : Stmt := top 35
abbrev N__law_power : List Str := ["base", "number", "found", "lap"]
theorem sc__law_power : FnScope N__law_power ["base", "number"] (defScope s__law_power) := ⟨rfl, rfl, rfl, by decide +kernel, rfl, by decide +kernel, by decide +kernel⟩
abbrev s__law_shorter : Stmt := top 36
abbrev N__law_shorter : List Str := ["many", "length", "size"]
theorem sc__law_shorter : FnScope N__law_shorter ["many", "length"] (defScope s__law_shorter) := ⟨rfl, rfl, rfl, by decide +kernel, rfl, by decide +kernel, by decide +kernel⟩
abbrev s__law_worth : Stmt := top 37
abbrev N__law_worth : List Str := ["signs", "word", "order", "found", "sign"]
theorem sc__law_worth : FnScope N__law_worth ["signs", "word"] (defScope s__law_worth) := ⟨rfl, rfl, rfl, by decide +kernel, rfl, by decide +kernel, by decide +kernel⟩
abbrev s__law_digits : Stmt := top 38
abbrev N__law_digits : List Str := ["signs", "number", "length", "order", "word", "lap"]
theorem sc__law_digits : FnScope N__law_digits ["signs", "number", "length"] (defScope s__law_digits) := ⟨rfl, rfl, rfl, by decide +kernel, rfl, by decide +kernel, by decide +kernel⟩
abbrev s_law : Stmt := top 39
abbrev N_law : List Str := ["script", "pen", "lap", "signs", "many", "one", "other", "both", "place", "spot", "length", "ahead", "own", "due", "sums", "size", "every", "left", "right", "sign", "at"]
theorem sc_law : FnScope N_law ["script"] (defScope s_law) := ⟨rfl, rfl, rfl, by decide +kernel, rfl, by decide +kernel, by decide +kernel⟩
structure Tx (mg : Str → Option Value) : Prop where
  n_isinstance : mg "isinstance" = none
  n_int : mg "int" = none
  n_bool : mg "bool" = none
  n_all : mg "all" = none
  n_str : mg "str" = none
  n_len : mg "len" = none
  n_range : mg "range" = none
  n_sorted : mg "sorted" = none
  n_tuple : mg "tuple" = none
  n_list : mg "list" = none
  n_sum : mg "sum" = none
  n_zip : mg "zip" = none
  g_MOST_SIGNS : ∃ u, mg "MOST_SIGNS" = some u ∧ RelV (.int 5) u
  g_LETTERS : ∃ u, mg "LETTERS" = some u ∧ RelV (.str "abcdefghijklmnopqrstuvwxyz") u
  g_MOST_WORD : ∃ u, mg "MOST_WORD" = some u ∧ RelV (.int 1000) u
  g_MOST_WORDS : ∃ u, mg "MOST_WORDS" = some u ∧ RelV (.int 20000) u
  g_MOST_LENGTH : ∃ u, mg "MOST_LENGTH" = some u ∧ RelV (.int 20) u
  g_MOST_PLACE : ∃ u, mg "MOST_PLACE" = some u ∧ RelV (.int 1000000000) u
theorem Tx.pen {mg : Str → Option Value} (T : Tx mg) : PenT mg := ⟨T.n_len, T.n_int, T.n_list⟩
section
variable {P : Program} {w : World} {mg : Str → Option Value} {base : Heap} {G : Gx}
theorem ok_is_whole {f : Addr} {fd : FuncData} (Fu : Fun G.K "is_whole" "is_whole" s_is_whole f fd) (T : Tx mg) : FnOk P w G.K mg base CX0 1 f fd ["value"] (spD G F_is_whole) :=
  okD Fu sc_is_whole (fun ws Q h => by obtain ⟨_, rfl, _⟩ := h; rfl) fun p B0 cdv A outer s H E hr => ⟨d_is_whole, (dss_one (ds_ret (de_and (de_isi rfl (T := "int") (by decide) (by rfl) T.n_isinstance (by rfl) T.n_int (by decide +kernel) (de_n 0)) (de_one (de_not (de_isi rfl (T := "bool") (by decide) (by rfl) T.n_isinstance (by rfl) T.n_bool (by decide +kernel) (de_n 0))))))), fun ws Q h => r_is_whole h⟩
theorem ok_is_index {f : Addr} {fd : FuncData} (Fu : Fun G.K "is_index" "is_index" s_is_index f fd) (T : Tx mg) {f_is_whole : Addr} {fd_is_whole : FuncData} (C_is_whole : Cal P w G.K mg base "is_whole" 1 ["value"] (spD G F_is_whole) f_is_whole fd_is_whole) : FnOk P w G.K mg base CX0 2 f fd ["value", "many"] (spD G F_is_index) :=
  okD Fu sc_is_index (fun ws Q h => by obtain ⟨_, _, rfl, _⟩ := h; rfl) fun p B0 cdv A outer s H E hr => ⟨d_is_index, (dss_one (ds_ret (de_and (de_call C_is_whole.ok (hr.mono (by omega)) (by rfl) C_is_whole.g C_is_whole.kp C_is_whole.b pass0 (da_cons (de_n 0) da_nil)) (de_one (de_chain opd_le opd_lt de_int (de_n 0) (de_n 1)))))), fun ws Q h => r_is_index h⟩
theorem ok_are_signs {f : Addr} {fd : FuncData} (Fu : Fun G.K "are_signs" "are_signs" s_are_signs f fd) (T : Tx mg) : FnOk P w G.K mg base CX0 1 f fd ["value"] (spD G F_are_signs) :=
  okD Fu sc_are_signs (fun ws Q h => by obtain ⟨_, _, rfl, _⟩ := h; rfl) fun p B0 cdv A outer s H E hr => ⟨d_are_signs, (dss_cons (ds_if (dt_w (dw_or (dt_not (dt_val (de_isi rfl (T := "str") (by decide) (by rfl) T.n_isinstance (by rfl) T.n_str (by decide +kernel) (de_n 0)))) (dw_or1 (dt_not (dt_chain opd_le opd_le de_int (de_blt (bd_len rfl) (by rfl) T.n_len (by decide +kernel) (da_cons (de_n 0) da_nil)) (de_gl (by rfl) T.g_MOST_SIGNS has_int_)))))) (dss_one (ds_ret de_bl)) dss_nil) (dss_one (ds_ret (de_and (de_cmp (opd_eq rfl (hr.units)) (de_blt (bd_len rfl) (by rfl) T.n_len (by decide +kernel) (da_cons (de_dc (g := .nm 1) (own := [("sign", 1)]) rfl sc_are_signs.nd (di_it rfl (de_n 0)) (blkOk_by (N := N_are_signs) (sc := defScope s_are_signs) (own := [("sign", 1)]) (by decide +kernel)) rfl (by decide) (fun _ _ _ _ _ => (pgn sc_are_signs.nd 1)) (fun _ _ _ _ _ => dts_nil) (fun _ _ _ _ _ => (de_n 1)) (fun _ _ _ _ _ => de_bl)) da_nil)) (de_blt (bd_len rfl) (by rfl) T.n_len (by decide +kernel) (da_cons (de_n 0) da_nil)) (nomark _)) (de_one (de_blt (bd_all rfl) (by rfl) T.n_all (by decide +kernel) (da_cons (de_lc (g := .nm 1) (own := [("sign", 1)]) rfl sc_are_signs.nd (di_it rfl (de_n 0)) (blkOk_by (N := N_are_signs) (sc := defScope s_are_signs) (own := [("sign", 1)]) (by decide +kernel)) rfl (by decide) (fun _ _ _ _ _ => (pgn sc_are_signs.nd 1)) (fun _ _ _ _ _ => dts_nil) (fun _ _ _ _ _ => (de_cmp (opd_in rfl) (de_n 1) (de_gl (by rfl) T.g_LETTERS has_str_) (by rfl)))) da_nil))))))), fun ws Q h => r_are_signs h⟩
theorem ok_need_signs {f : Addr} {fd : FuncData} (Fu : Fun G.K "need_signs" "need_signs" s_need_signs f fd) (T : Tx mg) {f_are_signs : Addr} {fd_are_signs : FuncData} (C_are_signs : Cal P w G.K mg base "are_signs" 1 ["value"] (spD G F_are_signs) f_are_signs fd_are_signs) : FnOk P w G.K mg base CX0 2 f fd ["value"] (spD G F_need_signs) :=
  okD Fu sc_need_signs (fun ws Q h => by obtain ⟨_, _, rfl, _⟩ := h; rfl) fun p B0 cdv A outer s H E hr => ⟨d_need_signs, (dss_cons (ds_if (dt_not (dt_val (de_call C_are_signs.ok (hr.mono (by omega)) (by rfl) C_are_signs.g C_are_signs.kp C_are_signs.b pass0 (da_cons (de_n 0) da_nil)))) dss_never dss_nil) (dss_one (ds_retn_ 0))), fun ws Q h => r_need_signs h⟩
theorem ok_is_word_by {f : Addr} {fd : FuncData} (Fu : Fun G.K "is_word_by" "is_word_by" s_is_word_by f fd) (T : Tx mg) : FnOk P w G.K mg base CX0 1 f fd ["signs", "value"] (spD G F_is_word_by) :=
  okD Fu sc_is_word_by (fun ws Q h => by obtain ⟨_, _, _, rfl, _⟩ := h; rfl) fun p B0 cdv A outer s H E hr => ⟨d_is_word_by, (dss_one (ds_ret (de_and (de_isi rfl (T := "str") (by decide) (by rfl) T.n_isinstance (by rfl) T.n_str (by decide +kernel) (de_n 1)) (de_and (de_cmp opd_le (de_blt (bd_len rfl) (by rfl) T.n_len (by decide +kernel) (da_cons (de_n 1) da_nil)) (de_gl (by rfl) T.g_MOST_WORD has_int_) (nomark _)) (de_one (de_blt (bd_all rfl) (by rfl) T.n_all (by decide +kernel) (da_cons (de_lc (g := .nm 2) (own := [("sign", 2)]) rfl sc_is_word_by.nd (di_it rfl (de_n 1)) (blkOk_by (N := N_is_word_by) (sc := defScope s_is_word_by) (own := [("sign", 2)]) (by decide +kernel)) rfl (by decide) (fun _ _ _ _ _ => (pgn sc_is_word_by.nd 2)) (fun _ _ _ _ _ => dts_nil) (fun _ _ _ _ _ => (de_cmp (opd_in rfl) (de_n 2) (de_n 0) (by rfl)))) da_nil))))))), fun ws Q h => r_is_word_by h⟩
theorem ok_is_word {f : Addr} {fd : FuncData} (Fu : Fun G.K "is_word" "is_word" s_is_word f fd) (T : Tx mg) {f_is_word_by : Addr} {fd_is_word_by : FuncData} (C_is_word_by : Cal P w G.K mg base "is_word_by" 1 ["signs", "value"] (spD G F_is_word_by) f_is_word_by fd_is_word_by) {f_need_signs : Addr} {fd_need_signs : FuncData} (C_need_signs : Cal P w G.K mg base "need_signs" 2 ["value"] (spD G F_need_signs) f_need_signs fd_need_signs) : FnOk P w G.K mg base CX0 3 f fd ["signs", "value"] (spD G F_is_word) :=
  okD Fu sc_is_word (fun ws Q h => by obtain ⟨_, _, _, _, rfl, _⟩ := h; rfl) fun p B0 cdv A outer s H E hr => ⟨d_is_word, (dss_one (ds_ret (de_call C_is_word_by.ok (hr.mono (by omega)) (by rfl) C_is_word_by.g C_is_word_by.kp C_is_word_by.b pass0 (da_cons (de_call C_need_signs.ok (hr.mono (by omega)) (by rfl) C_need_signs.g C_need_signs.kp C_need_signs.b pass0 (da_cons (de_n 0) da_nil)) (da_cons (de_n 1) da_nil))))), fun ws Q h => r_is_word h⟩
theorem ok_need_word_of {f : Addr} {fd : FuncData} (Fu : Fun G.K "need_word_of" "need_word_of" s_need_word_of f fd) (T : Tx mg) {f_is_word_by : Addr} {fd_is_word_by : FuncData} (C_is_word_by : Cal P w G.K mg base "is_word_by" 1 ["signs", "value"] (spD G F_is_word_by) f_is_word_by fd_is_word_by) : FnOk P w G.K mg base CX0 2 f fd ["signs", "word"] (spD G F_need_word_of) :=
  okD Fu sc_need_word_of (fun ws Q h => by obtain ⟨_, _, _, rfl, _⟩ := h; rfl) fun p B0 cdv A outer s H E hr => ⟨d_need_word_of, (dss_cons (ds_if (dt_not (dt_val (de_call C_is_word_by.ok (hr.mono (by omega)) (by rfl) C_is_word_by.g C_is_word_by.kp C_is_word_by.b pass0 (da_cons (de_n 0) (da_cons (de_n 1) da_nil))))) dss_never dss_nil) (dss_one (ds_retn_ 1))), fun ws Q h => r_need_word_of h⟩
theorem ok_words_count {f : Addr} {fd : FuncData} (Fu : Fun G.K "words_count" "words_count" s_words_count f fd) (T : Tx mg) : FnOk P w G.K mg base CX0 1 f fd ["many", "number"] (spD G F_words_count) :=
  okD Fu sc_words_count (fun ws Q h => by obtain ⟨_, _, rfl, _⟩ := h; rfl) fun p B0 cdv A outer s H E hr => ⟨d_words_count, (dss_cons (ds_asgT (g := .tp [2, 3]) (de_tup (da_cons de_int (da_cons de_int da_nil))) rfl (pg_tup rfl (pgs_cons (pgn sc_words_count.nd 2) (pgs_cons (pgn sc_words_count.nd 3) pgs_nil)))) (dss_cons (ds_for (g := .nm 4) PassesOwn.never rfl (di_rng1 (by rfl) T.n_range (de_n 1)) (pgn sc_words_count.nd 4) rfl (dss_cons (ds_set_ sc_words_count.nd 3 (de_op opd_mul (de_n 3) (de_n 0))) (dss_one (ds_set_ sc_words_count.nd 2 (de_op (opd_add rfl) (de_n 2) (de_n 3)))))) (dss_one (ds_retn_ 2)))), fun ws Q h => r_words_count h⟩
theorem ok_words_by {f : Addr} {fd : FuncData} (Fu : Fun G.K "words_by" "words_by" s_words_by f fd) (T : Tx mg) {f_words_count : Addr} {fd_words_count : FuncData} (C_words_count : Cal P w G.K mg base "words_count" 1 ["many", "number"] (spD G F_words_count) f_words_count fd_words_count) : FnOk P w G.K mg base CX0 2 f fd ["signs", "number"] (spD G F_words_by) :=
  okD Fu sc_words_by (fun ws Q h => by obtain ⟨_, _, _, _, _, rfl, _⟩ := h; rfl) fun p B0 cdv A outer s H E hr => ⟨d_words_by, (dss_cons (ds_set_ sc_words_by.nd 2 (de_call C_words_count.ok (hr.mono (by omega)) (by rfl) C_words_count.g C_words_count.kp C_words_count.b pass0 (da_cons (de_blt (bd_len rfl) (by rfl) T.n_len (by decide +kernel) (da_cons (de_n 0) da_nil)) (da_cons (de_n 1) da_nil)))) (dss_cons (ds_if (dt_cmp opd_gt (de_n 2) (de_gl (by rfl) T.g_MOST_WORDS has_int_) (nomark _)) dss_never dss_nil) (dss_cons (ds_par (i := 3) (j := 4) rfl sc_words_by.nd rfl rfl (by decide) rfl rfl (da_cons (de_lst (da_cons de_str da_nil)) (da_cons (de_lst (da_cons de_str da_nil)) da_nil)) (by rfl)) (dss_cons (ds_for (g := .nm 5) PassesOwn.never rfl (di_rng1 (by rfl) T.n_range (de_n 1)) (pgn sc_words_by.nd 5) rfl (dss_cons (ds_set_ sc_words_by.nd 6 (de_lst da_nil)) (dss_fz 4 (dss_cons (ds_for (g := .nm 7) PassesOwn.never rfl (di_it rfl (de_n 4)) (pgn sc_words_by.nd 7) rfl (dss_one (ds_extend_ 6 (de_lc (g := .nm 8) (own := [("sign", 8)]) rfl sc_words_by.nd (di_it rfl (de_blt (bd_sorted rfl) (by rfl) T.n_sorted (by decide +kernel) (da_cons (de_n 0) da_nil))) (blkOk_by (N := N_words_by) (sc := defScope s_words_by) (own := [("sign", 8)]) (by decide +kernel)) rfl (by decide) (fun _ _ _ _ _ => (pgn sc_words_by.nd 8)) (fun _ _ _ _ _ => dts_nil) (fun _ _ _ _ _ => (de_op (opd_add rfl) (de_n 7) (de_n 8))))))) (dss_cons (ds_extend_ 3 (de_n 6)) (dss_fz 6 (dss_one (ds_set_ sc_words_by.nd 4 (de_n 6))))))))) (dss_one (ds_retn_ 3)))))), fun ws Q h => r_words_by h⟩
theorem ok_need_length {f : Addr} {fd : FuncData} (Fu : Fun G.K "need_length" "need_length" s_need_length f fd) (T : Tx mg) {f_is_index : Addr} {fd_is_index : FuncData} (C_is_index : Cal P w G.K mg base "is_index" 2 ["value", "many"] (spD G F_is_index) f_is_index fd_is_index) : FnOk P w G.K mg base CX0 3 f fd ["number"] (spD G F_need_length) :=
  okD Fu sc_need_length (fun ws Q h => by obtain ⟨_, rfl, _⟩ := h; rfl) fun p B0 cdv A outer s H E hr => ⟨d_need_length, (dss_one (ds_if (dt_not (dt_val (de_call C_is_index.ok (hr.mono (by omega)) (by rfl) C_is_index.g C_is_index.kp C_is_index.b pass0 (da_cons (de_n 0) (da_cons (de_op (opd_add rfl) (de_gl (by rfl) T.g_MOST_LENGTH has_int_) de_int) da_nil))))) dss_never dss_nil)), fun ws Q h => r_need_length h⟩
theorem ok_small_words {f : Addr} {fd : FuncData} (Fu : Fun G.K "small_words" "small_words" s_small_words f fd) (T : Tx mg) {f_need_signs : Addr} {fd_need_signs : FuncData} (C_need_signs : Cal P w G.K mg base "need_signs" 2 ["value"] (spD G F_need_signs) f_need_signs fd_need_signs) {f_need_length : Addr} {fd_need_length : FuncData} (C_need_length : Cal P w G.K mg base "need_length" 3 ["number"] (spD G F_need_length) f_need_length fd_need_length) {f_words_by : Addr} {fd_words_by : FuncData} (C_words_by : Cal P w G.K mg base "words_by" 2 ["signs", "number"] (spD G F_words_by) f_words_by fd_words_by) : FnOk P w G.K mg base CX0 4 f fd ["signs", "number"] (spD G F_small_words) :=
  okD Fu sc_small_words (fun ws Q h => by obtain ⟨_, _, _, _, _, rfl, _⟩ := h; rfl) fun p B0 cdv A outer s H E hr => ⟨d_small_words, (dss_cons (ds_expr (de_call C_need_signs.ok (hr.mono (by omega)) (by rfl) C_need_signs.g C_need_signs.kp C_need_signs.b pass0 (da_cons (de_n 0) da_nil))) (dss_cons (ds_expr (de_call C_need_length.ok (hr.mono (by omega)) (by rfl) C_need_length.g C_need_length.kp C_need_length.b pass0 (da_cons (de_n 1) da_nil))) (dss_one (ds_ret (de_ty (bd_tuple rfl) (by rfl) T.n_tuple (by decide +kernel) (da_cons (de_call C_words_by.ok (hr.mono (by omega)) (by rfl) C_words_by.g C_words_by.kp C_words_by.b pass0 (da_cons (de_n 0) (da_cons (de_n 1) da_nil))) da_nil)))))), fun ws Q h => r_small_words h⟩
theorem ok_place_of_word {f : Addr} {fd : FuncData} (Fu : Fun G.K "place_of_word" "place_of_word" s_place_of_word f fd) (T : Tx mg) {f_need_signs : Addr} {fd_need_signs : FuncData} (C_need_signs : Cal P w G.K mg base "need_signs" 2 ["value"] (spD G F_need_signs) f_need_signs fd_need_signs) {f_need_word_of : Addr} {fd_need_word_of : FuncData} (C_need_word_of : Cal P w G.K mg base "need_word_of" 2 ["signs", "word"] (spD G F_need_word_of) f_need_word_of fd_need_word_of) {f_words_count : Addr} {fd_words_count : FuncData} (C_words_count : Cal P w G.K mg base "words_count" 1 ["many", "number"] (spD G F_words_count) f_words_count fd_words_count) : FnOk P w G.K mg base CX0 3 f fd ["signs", "word"] (spD G F_place_of_word) :=
  okD Fu sc_place_of_word (fun ws Q h => by obtain ⟨_, _, _, _, rfl, _⟩ := h; rfl) fun p B0 cdv A outer s H E hr => ⟨d_place_of_word, (dss_cons (ds_expr (de_call C_need_signs.ok (hr.mono (by omega)) (by rfl) C_need_signs.g C_need_signs.kp C_need_signs.b pass0 (da_cons (de_n 0) da_nil))) (dss_cons (ds_expr (de_call C_need_word_of.ok (hr.mono (by omega)) (by rfl) C_need_word_of.g C_need_word_of.kp C_need_word_of.b pass0 (da_cons (de_n 0) (da_cons (de_n 1) da_nil)))) (dss_cons (ds_par (i := 2) (j := 3) rfl sc_place_of_word.nd rfl rfl (by decide) rfl rfl (da_cons (de_blt (bd_sorted rfl) (by rfl) T.n_sorted (by decide +kernel) (da_cons (de_n 0) da_nil)) (da_cons de_int da_nil)) (by rfl)) (dss_cons (ds_for (g := .nm 4) PassesOwn.never rfl (di_it rfl (de_n 1)) (pgn sc_place_of_word.nd 4) rfl (dss_one (ds_set_ sc_place_of_word.nd 3 (de_op (opd_add rfl) (de_op opd_mul (de_n 3) (de_blt (bd_len rfl) (by rfl) T.n_len (by decide +kernel) (da_cons (de_n 2) da_nil))) (de_mt rfl PySem.F.plainAttrs_list PySem.F.slot_list_index PySem.F.type_list_index ms_index (de_n 2) (da_cons (de_n 4) da_nil)))))) (dss_one (ds_ret (de_op (opd_add rfl) (de_n 3) (de_if (dt_tru rfl (de_n 1)) (de_call C_words_count.ok (hr.mono (by omega)) (by rfl) C_words_count.g C_words_count.kp C_words_count.b pass0 (da_cons (de_blt (bd_len rfl) (by rfl) T.n_len (by decide +kernel) (da_cons (de_n 2) da_nil)) (da_cons (de_op opd_sub (de_blt (bd_len rfl) (by rfl) T.n_len (by decide +kernel) (da_cons (de_n 1) da_nil)) de_int) da_nil))) de_int)))))))), fun ws Q h => r_place_of_word h⟩
theorem ok_word_at {f : Addr} {fd : FuncData} (Fu : Fun G.K "word_at" "word_at" s_word_at f fd) (T : Tx mg) {f_need_signs : Addr} {fd_need_signs : FuncData} (C_need_signs : Cal P w G.K mg base "need_signs" 2 ["value"] (spD G F_need_signs) f_need_signs fd_need_signs) {f_is_index : Addr} {fd_is_index : FuncData} (C_is_index : Cal P w G.K mg base "is_index" 2 ["value", "many"] (spD G F_is_index) f_is_index fd_is_index) : FnOk P w G.K mg base CX0 3 f fd ["signs", "place"] (spD G F_word_at) :=
  okD Fu sc_word_at (fun ws Q h => by obtain ⟨_, _, _, _, _, rfl, _⟩ := h; rfl) fun p B0 cdv A outer s H E hr => ⟨d_word_at, (dss_cons (ds_expr (de_call C_need_signs.ok (hr.mono (by omega)) (by rfl) C_need_signs.g C_need_signs.kp C_need_signs.b pass0 (da_cons (de_n 0) da_nil))) (dss_cons (ds_if (dt_w (dw_or (dt_not (dt_val (de_call C_is_index.ok (hr.mono (by omega)) (by rfl) C_is_index.g C_is_index.kp C_is_index.b pass0 (da_cons (de_n 1) (da_cons (de_op (opd_add rfl) (de_gl (by rfl) T.g_MOST_PLACE has_int_) de_int) da_nil))))) (dw_or1 (dt_w (dw_and (dt_cmp (opd_eq rfl (hr.units)) (de_blt (bd_len rfl) (by rfl) T.n_len (by decide +kernel) (da_cons (de_n 0) da_nil)) de_int (nomark _)) (dw_and1 (dt_cmp opd_gt (de_n 1) (de_gl (by rfl) T.g_MOST_WORD has_int_) (nomark _)))))))) dss_never dss_nil) (dss_cons (ds_par (i := 2) (j := 3) rfl sc_word_at.nd rfl rfl (by decide) rfl rfl (da_cons (de_blt (bd_sorted rfl) (by rfl) T.n_sorted (by decide +kernel) (da_cons (de_n 0) da_nil)) (da_cons de_str da_nil)) (by rfl)) (dss_cons (ds_while PassesOwn.never (dt_cmp opd_gt (de_n 1) de_int (nomark _)) (dss_cons (ds_set_ sc_word_at.nd 3 (de_op (opd_add rfl) (de_ix (ixd rfl) (de_n 2) (de_op opd_mod (de_op opd_sub (de_n 1) de_int) (de_blt (bd_len rfl) (by rfl) T.n_len (by decide +kernel) (da_cons (de_n 2) da_nil))) (fun _ _ => rfl)) (de_n 3))) (dss_one (ds_set_ sc_word_at.nd 1 (de_op opd_div (de_op opd_sub (de_n 1) de_int) (de_blt (bd_len rfl) (by rfl) T.n_len (by decide +kernel) (da_cons (de_n 2) da_nil))))))) (dss_one (ds_retn_ 3)))))), fun ws Q h => r_word_at h⟩
theorem ok_turned_word {f : Addr} {fd : FuncData} (Fu : Fun G.K "turned_word" "turned_word" s_turned_word f fd) (T : Tx mg) {f_need_signs : Addr} {fd_need_signs : FuncData} (C_need_signs : Cal P w G.K mg base "need_signs" 2 ["value"] (spD G F_need_signs) f_need_signs fd_need_signs) {f_need_word_of : Addr} {fd_need_word_of : FuncData} (C_need_word_of : Cal P w G.K mg base "need_word_of" 2 ["signs", "word"] (spD G F_need_word_of) f_need_word_of fd_need_word_of) : FnOk P w G.K mg base CX0 3 f fd ["signs", "word"] (spD G F_turned_word) :=
  okD Fu sc_turned_word (fun ws Q h => by obtain ⟨_, _, _, _, rfl, _⟩ := h; rfl) fun p B0 cdv A outer s H E hr => ⟨d_turned_word, (dss_cons (ds_expr (de_call C_need_signs.ok (hr.mono (by omega)) (by rfl) C_need_signs.g C_need_signs.kp C_need_signs.b pass0 (da_cons (de_n 0) da_nil))) (dss_one (ds_ret (de_rev rfl (de_call C_need_word_of.ok (hr.mono (by omega)) (by rfl) C_need_word_of.g C_need_word_of.kp C_need_word_of.b pass0 (da_cons (de_n 0) (da_cons (de_n 1) da_nil))))))), fun ws Q h => r_turned_word h⟩
theorem ok_counts_of {f : Addr} {fd : FuncData} (Fu : Fun G.K "counts_of" "counts_of" s_counts_of f fd) (T : Tx mg) {f_need_signs : Addr} {fd_need_signs : FuncData} (C_need_signs : Cal P w G.K mg base "need_signs" 2 ["value"] (spD G F_need_signs) f_need_signs fd_need_signs) {f_need_word_of : Addr} {fd_need_word_of : FuncData} (C_need_word_of : Cal P w G.K mg base "need_word_of" 2 ["signs", "word"] (spD G F_need_word_of) f_need_word_of fd_need_word_of) : FnOk P w G.K mg base CX0 3 f fd ["signs", "word"] (spD G F_counts_of) :=
  okD Fu sc_counts_of (fun ws Q h => by obtain ⟨_, _, _, _, rfl, _⟩ := h; rfl) fun p B0 cdv A outer s H E hr => ⟨d_counts_of, (dss_cons (ds_expr (de_call C_need_signs.ok (hr.mono (by omega)) (by rfl) C_need_signs.g C_need_signs.kp C_need_signs.b pass0 (da_cons (de_n 0) da_nil))) (dss_cons (ds_expr (de_call C_need_word_of.ok (hr.mono (by omega)) (by rfl) C_need_word_of.g C_need_word_of.kp C_need_word_of.b pass0 (da_cons (de_n 0) (da_cons (de_n 1) da_nil)))) (dss_one (ds_ret (de_ty (bd_tuple rfl) (by rfl) T.n_tuple (by decide +kernel) (da_cons (de_lc (g := .nm 2) (own := [("sign", 2)]) rfl sc_counts_of.nd (di_it rfl (de_n 0)) (blkOk_by (N := N_counts_of) (sc := defScope s_counts_of) (own := [("sign", 2)]) (by decide +kernel)) rfl (by decide) (fun _ _ _ _ _ => (pgn sc_counts_of.nd 2)) (fun _ _ _ _ _ => dts_nil) (fun _ _ _ _ _ => (de_mt rfl PySem.F.plainAttrs_str PySem.F.slot_str_count PySem.F.type_str_count ms_count (de_n 1) (da_cons (de_n 2) da_nil)))) da_nil)))))), fun ws Q h => r_counts_of h⟩
theorem ok__law_pick {f : Addr} {fd : FuncData} (Fu : Fun G.K "_law_pick" "_law_pick" s__law_pick f fd) (T : Tx mg) {f__law_draw : Addr} {fd__law_draw : FuncData} (C__law_draw : Cal P w G.K mg base "_law_draw" 1 ["pen", "many"] (spD G F__law_draw) f__law_draw fd__law_draw) : FnOk P w G.K mg base CX0 2 f fd ["pen", "some"] (spD G F__law_pick) :=
  okD Fu sc__law_pick (fun ws Q h => by obtain ⟨_, rfl, _⟩ := h; rfl) fun p B0 cdv A outer s H E hr => ⟨d__law_pick, (dss_one (ds_ret (de_ix (ixd rfl) (de_n 1) (de_call C__law_draw.ok (hr.mono (by omega)) (by rfl) C__law_draw.g C__law_draw.kp C__law_draw.b pass0 (da_cons (de_n 0) (da_cons (de_blt (bd_len rfl) (by rfl) T.n_len (by decide +kernel) (da_cons (de_n 1) da_nil)) da_nil))) (fun _ _ => rfl)))), fun ws Q h => r__law_pick h⟩
theorem ok__law_shuffled {f : Addr} {fd : FuncData} (Fu : Fun G.K "_law_shuffled" "_law_shuffled" s__law_shuffled f fd) (T : Tx mg) {f__law_draw : Addr} {fd__law_draw : FuncData} (C__law_draw : Cal P w G.K mg base "_law_draw" 1 ["pen", "many"] (spD G F__law_draw) f__law_draw fd__law_draw) : FnOk P w G.K mg base CX0 2 f fd ["pen", "some"] (spD G F__law_shuffled) :=
  okD Fu sc__law_shuffled (fun ws Q h => by obtain ⟨_, rfl, _⟩ := h; rfl) fun p B0 cdv A outer s H E hr => ⟨d__law_shuffled, (dss_cons (ds_par (i := 2) (j := 3) rfl sc__law_shuffled.nd rfl rfl (by decide) rfl rfl (da_cons (de_ty (bd_list rfl rfl) (by rfl) T.n_list (by decide +kernel) (da_cons (de_n 1) da_nil)) (da_cons (de_lst da_nil) da_nil)) (by rfl)) (dss_cons (ds_for (g := .nm 4) PassesOwn.never rfl (di_rng1 (by rfl) T.n_range (de_blt (bd_len rfl) (by rfl) T.n_len (by decide +kernel) (da_cons (de_n 1) da_nil))) (pgn sc__law_shuffled.nd 4) rfl (dss_one (ds_appPop_ 3 2 (de_call C__law_draw.ok (hr.mono (by omega)) (by rfl) C__law_draw.g C__law_draw.kp C__law_draw.b pass0 (da_cons (de_n 0) (da_cons (de_blt (bd_len rfl) (by rfl) T.n_len (by decide +kernel) (da_cons (de_n 2) da_nil)) da_nil)))))) (dss_one (ds_retn_ 3)))), fun ws Q h => r__law_shuffled h⟩
theorem ok__law_is {f : Addr} {fd : FuncData} (Fu : Fun G.K "_law_is" "_law_is" s__law_is f fd) (T : Tx mg) {n : Nat} (C__law_is : Cal P w G.K mg base "_law_is" (0 + n) ["told", "due"] (spD G (F_is n)) f fd) : FnOk P w G.K mg base CX0 (0 + n + 1) f fd ["told", "due"] (spD G (F_is (n + 1))) :=
  okD Fu sc__law_is (fun ws Q h => by obtain ⟨_, rfl, _⟩ := h; rfl) fun p B0 cdv A outer s H E hr => ⟨d__law_is (F_is n), (dss_cons (ds_if (dt_val (de_isi rfl (T := "tuple") (by decide) (by rfl) T.n_isinstance (by rfl) T.n_tuple (by decide +kernel) (de_n 1))) (dss_cons (ds_if (dt_w (dw_or (dt_not (dt_val (de_isi rfl (T := "tuple") (by decide) (by rfl) T.n_isinstance (by rfl) T.n_tuple (by decide +kernel) (de_n 0)))) (dw_or1 (dt_cmp (opd_ne rfl (hr.units)) (de_blt (bd_len rfl) (by rfl) T.n_len (by decide +kernel) (da_cons (de_n 0) da_nil)) (de_blt (bd_len rfl) (by rfl) T.n_len (by decide +kernel) (da_cons (de_n 1) da_nil)) (nomark _))))) (dss_one (ds_ret de_bl)) dss_nil) (dss_one (ds_ret (de_cmp (opd_eq rfl (hr.units)) (de_lc (g := .nm 2) (own := [("at", 2)]) rfl sc__law_is.nd (di_rng1 (by rfl) T.n_range (de_blt (bd_len rfl) (by rfl) T.n_len (by decide +kernel) (da_cons (de_n 1) da_nil))) (blkOk_by (N := N__law_is) (sc := defScope s__law_is) (own := [("at", 2)]) (by decide +kernel)) rfl (by decide) (fun _ _ _ _ _ => (pgn sc__law_is.nd 2)) (fun _ _ _ _ _ => (dts_one (dt_not (dt_val (de_call C__law_is.ok (hr.mono (by omega)) (by rfl) C__law_is.g C__law_is.kp C__law_is.b pass0 (da_cons (de_ix (ixd rfl) (de_n 0) (de_n 2) (fun _ _ => rfl)) (da_cons (de_ix (ixd rfl) (de_n 1) (de_n 2) (fun _ _ => rfl)) da_nil))))))) (fun _ _ _ _ _ => (de_n 2))) (de_lst da_nil) (nomark _))))) dss_nil) (dss_cons (ds_if (dt_cmp opd_is (de_n 1) de_non (nomark _)) (dss_one (ds_ret (de_cmp opd_is (de_n 0) de_non (nomark _)))) dss_nil) (dss_cons (ds_if (dt_cmp opd_is (de_n 1) de_bl (nomark _)) (dss_one (ds_ret (de_cmp opd_is (de_n 0) de_bl (nomark _)))) dss_nil) (dss_cons (ds_if (dt_cmp opd_is (de_n 1) de_bl (nomark _)) (dss_one (ds_ret (de_cmp opd_is (de_n 0) de_bl (nomark _)))) dss_nil) (dss_cons (ds_if (dt_val (de_isi rfl (T := "str") (by decide) (by rfl) T.n_isinstance (by rfl) T.n_str (by decide +kernel) (de_n 1))) (dss_one (ds_ret (de_and (de_isi rfl (T := "str") (by decide) (by rfl) T.n_isinstance (by rfl) T.n_str (by decide +kernel) (de_n 0)) (de_one (de_cmp (opd_eq rfl (hr.units)) (de_n 0) (de_n 1) (nomark _)))))) dss_nil) (dss_one (ds_ret (de_and (de_isi rfl (T := "int") (by decide) (by rfl) T.n_isinstance (by rfl) T.n_int (by decide +kernel) (de_n 0)) (de_and (de_not (de_isi rfl (T := "bool") (by decide) (by rfl) T.n_isinstance (by rfl) T.n_bool (by decide +kernel) (de_n 0))) (de_one (de_cmp (opd_eq rfl (hr.units)) (de_n 0) (de_n 1) (nomark _)))))))))))), fun ws Q h => r__law_is h⟩
theorem ok__law_drawn_word {f : Addr} {fd : FuncData} (Fu : Fun G.K "_law_drawn_word" "_law_drawn_word" s__law_drawn_word f fd) (T : Tx mg) {f__law_draw : Addr} {fd__law_draw : FuncData} (C__law_draw : Cal P w G.K mg base "_law_draw" 1 ["pen", "many"] (spD G F__law_draw) f__law_draw fd__law_draw) {f__law_pick : Addr} {fd__law_pick : FuncData} (C__law_pick : Cal P w G.K mg base "_law_pick" 2 ["pen", "some"] (spD G F__law_pick) f__law_pick fd__law_pick) : FnOk P w G.K mg base CX0 3 f fd ["pen", "signs", "most"] (spD G F__law_drawn_word) :=
  okD Fu sc__law_drawn_word (fun ws Q h => by obtain ⟨_, _, rfl, _⟩ := h; rfl) fun p B0 cdv A outer s H E hr => ⟨d__law_drawn_word, (dss_one (ds_ret (de_mt rfl PySem.F.plainAttrs_str PySem.F.slot_str_join PySem.F.type_str_join (ms_join rfl) de_str (da_cons (de_lc (g := .nm 3) (own := [("lap", 3)]) rfl sc__law_drawn_word.nd (di_rng1 (by rfl) T.n_range (de_call C__law_draw.ok (hr.mono (by omega)) (by rfl) C__law_draw.g C__law_draw.kp C__law_draw.b pass0 (da_cons (de_n 0) (da_cons (de_op (opd_add rfl) (de_n 2) de_int) da_nil)))) (blkOk_by (N := N__law_drawn_word) (sc := defScope s__law_drawn_word) (own := [("lap", 3)]) (by decide +kernel)) rfl (by decide) (fun _ _ _ _ _ => (pgn sc__law_drawn_word.nd 3)) (fun _ _ _ _ _ => dts_nil) (fun _ _ _ _ _ => (de_call C__law_pick.ok (hr.mono (by omega)) (by rfl) C__law_pick.g C__law_pick.kp C__law_pick.b pass0 (da_cons (de_n 0) (da_cons (de_ty (bd_list rfl rfl) (by rfl) T.n_list (by decide +kernel) (da_cons (de_n 1) da_nil)) da_nil))))) da_nil)))), fun ws Q h => r__law_drawn_word h⟩
theorem ok__law_power {f : Addr} {fd : FuncData} (Fu : Fun G.K "_law_power" "_law_power" s__law_power f fd) (T : Tx mg) : FnOk P w G.K mg base CX0 1 f fd ["base", "number"] (spD G F__law_power) :=
  okD Fu sc__law_power (fun ws Q h => by obtain ⟨_, _, rfl, _⟩ := h; rfl) fun p B0 cdv A outer s H E hr => ⟨d__law_power, (dss_cons (ds_set_ sc__law_power.nd 2 de_int) (dss_cons (ds_for (g := .nm 3) PassesOwn.never rfl (di_rng1 (by rfl) T.n_range (de_n 1)) (pgn sc__law_power.nd 3) rfl (dss_one (ds_set_ sc__law_power.nd 2 (de_op opd_mul (de_n 2) (de_n 0))))) (dss_one (ds_retn_ 2)))), fun ws Q h => r__law_power h⟩
theorem ok__law_shorter {f : Addr} {fd : FuncData} (Fu : Fun G.K "_law_shorter" "_law_shorter" s__law_shorter f fd) (T : Tx mg) {f__law_power : Addr} {fd__law_power : FuncData} (C__law_power : Cal P w G.K mg base "_law_power" 1 ["base", "number"] (spD G F__law_power) f__law_power fd__law_power) : FnOk P w G.K mg base CX0 2 f fd ["many", "length"] (spD G F__law_shorter) :=
  okD Fu sc__law_shorter (fun ws Q h => by obtain ⟨_, _, rfl, _⟩ := h; rfl) fun p B0 cdv A outer s H E hr => ⟨d__law_shorter, (dss_one (ds_ret (de_blt (bd_sum rfl rfl) (by rfl) T.n_sum (by decide +kernel) (da_cons (de_lc (g := .nm 2) (own := [("size", 2)]) rfl sc__law_shorter.nd (di_rng1 (by rfl) T.n_range (de_n 1)) (blkOk_by (N := N__law_shorter) (sc := defScope s__law_shorter) (own := [("size", 2)]) (by decide +kernel)) rfl (by decide) (fun _ _ _ _ _ => (pgn sc__law_shorter.nd 2)) (fun _ _ _ _ _ => dts_nil) (fun _ _ _ _ _ => (de_call C__law_power.ok (hr.mono (by omega)) (by rfl) C__law_power.g C__law_power.kp C__law_power.b pass0 (da_cons (de_n 0) (da_cons (de_n 2) da_nil))))) da_nil)))), fun ws Q h => r__law_shorter h⟩
theorem ok__law_worth {f : Addr} {fd : FuncData} (Fu : Fun G.K "_law_worth" "_law_worth" s__law_worth f fd) (T : Tx mg) : FnOk P w G.K mg base CX0 1 f fd ["signs", "word"] (spD G F__law_worth) :=
  okD Fu sc__law_worth (fun ws Q h => by obtain ⟨_, _, _, _, rfl, _⟩ := h; rfl) fun p B0 cdv A outer s H E hr => ⟨d__law_worth, (dss_cons (ds_par (i := 2) (j := 3) rfl sc__law_worth.nd rfl rfl (by decide) rfl rfl (da_cons (de_blt (bd_sorted rfl) (by rfl) T.n_sorted (by decide +kernel) (da_cons (de_n 0) da_nil)) (da_cons de_int da_nil)) (by rfl)) (dss_cons (ds_for (g := .nm 4) PassesOwn.never rfl (di_it rfl (de_n 1)) (pgn sc__law_worth.nd 4) rfl (dss_one (ds_set_ sc__law_worth.nd 3 (de_op (opd_add rfl) (de_op opd_mul (de_n 3) (de_blt (bd_len rfl) (by rfl) T.n_len (by decide +kernel) (da_cons (de_n 2) da_nil))) (de_mt rfl PySem.F.plainAttrs_list PySem.F.slot_list_index PySem.F.type_list_index ms_index (de_n 2) (da_cons (de_n 4) da_nil)))))) (dss_one (ds_retn_ 3)))), fun ws Q h => r__law_worth h⟩
theorem ok__law_digits {f : Addr} {fd : FuncData} (Fu : Fun G.K "_law_digits" "_law_digits" s__law_digits f fd) (T : Tx mg) : FnOk P w G.K mg base CX0 1 f fd ["signs", "number", "length"] (spD G F__law_digits) :=
  okD Fu sc__law_digits (fun ws Q h => by obtain ⟨_, _, _, _, _, rfl, _⟩ := h; rfl) fun p B0 cdv A outer s H E hr => ⟨d__law_digits, (dss_cons (ds_par (i := 3) (j := 4) rfl sc__law_digits.nd rfl rfl (by decide) rfl rfl (da_cons (de_blt (bd_sorted rfl) (by rfl) T.n_sorted (by decide +kernel) (da_cons (de_n 0) da_nil)) (da_cons de_str da_nil)) (by rfl)) (dss_cons (ds_for (g := .nm 5) PassesOwn.never rfl (di_rng1 (by rfl) T.n_range (de_n 2)) (pgn sc__law_digits.nd 5) rfl (dss_one (ds_par (i := 4) (j := 1) rfl sc__law_digits.nd rfl rfl (by decide) rfl rfl (da_cons (de_op (opd_add rfl) (de_ix (ixd rfl) (de_n 3) (de_op opd_mod (de_ty bd_int (by rfl) T.n_int (by decide +kernel) (da_cons (de_n 1) da_nil)) (de_blt (bd_len rfl) (by rfl) T.n_len (by decide +kernel) (da_cons (de_n 3) da_nil))) (fun _ _ => rfl)) (de_n 4)) (da_cons (de_op opd_div (de_ty bd_int (by rfl) T.n_int (by decide +kernel) (da_cons (de_n 1) da_nil)) (de_blt (bd_len rfl) (by rfl) T.n_len (by decide +kernel) (da_cons (de_n 3) da_nil))) da_nil)) (by rfl)))) (dss_one (ds_retn_ 4)))), fun ws Q h => r__law_digits h⟩
def spLaw (K : PySem.W.Frag) : Sp := fun vs H Q _ => ∃ (a : Addr) (ns : List Int), vs = [.ref a] ∧ SqL K H a (ns.map V.int) ∧ ∀ H', Q (.bl true) H'
theorem ok_law {f : Addr} {fd : FuncData} (Fu : Fun G.K "law" "law" s_law f fd) (T : Tx mg) {f__law_pen : Addr} {fd__law_pen : FuncData} (C__law_pen : Cal P w G.K mg base "_law_pen" 1 ["script"] (spPen G.K) f__law_pen fd__law_pen) {f__law_shuffled : Addr} {fd__law_shuffled : FuncData} (C__law_shuffled : Cal P w G.K mg base "_law_shuffled" 2 ["pen", "some"] (spD G F__law_shuffled) f__law_shuffled fd__law_shuffled) {f__law_draw : Addr} {fd__law_draw : FuncData} (C__law_draw : Cal P w G.K mg base "_law_draw" 1 ["pen", "many"] (spD G F__law_draw) f__law_draw fd__law_draw) {f__law_drawn_word : Addr} {fd__law_drawn_word : FuncData} (C__law_drawn_word : Cal P w G.K mg base "_law_drawn_word" 3 ["pen", "signs", "most"] (spD G F__law_drawn_word) f__law_drawn_word fd__law_drawn_word) {f__law_shorter : Addr} {fd__law_shorter : FuncData} (C__law_shorter : Cal P w G.K mg base "_law_shorter" 2 ["many", "length"] (spD G F__law_shorter) f__law_shorter fd__law_shorter) {f__law_worth : Addr} {fd__law_worth : FuncData} (C__law_worth : Cal P w G.K mg base "_law_worth" 1 ["signs", "word"] (spD G F__law_worth) f__law_worth fd__law_worth) {f__law_power : Addr} {fd__law_power : FuncData} (C__law_power : Cal P w G.K mg base "_law_power" 1 ["base", "number"] (spD G F__law_power) f__law_power fd__law_power) {f__law_is : Addr} {fd__law_is : FuncData} (C__law_is : Cal P w G.K mg base "_law_is" 2 ["told", "due"] (spD G F__law_is) f__law_is fd__law_is) {f_place_of_word : Addr} {fd_place_of_word : FuncData} (C_place_of_word : Cal P w G.K mg base "place_of_word" 3 ["signs", "word"] (spD G F_place_of_word) f_place_of_word fd_place_of_word) {f_is_word : Addr} {fd_is_word : FuncData} (C_is_word : Cal P w G.K mg base "is_word" 3 ["signs", "value"] (spD G F_is_word) f_is_word fd_is_word) {f_are_signs : Addr} {fd_are_signs : FuncData} (C_are_signs : Cal P w G.K mg base "are_signs" 1 ["value"] (spD G F_are_signs) f_are_signs fd_are_signs) {f_word_at : Addr} {fd_word_at : FuncData} (C_word_at : Cal P w G.K mg base "word_at" 3 ["signs", "place"] (spD G F_word_at) f_word_at fd_word_at) {f__law_pick : Addr} {fd__law_pick : FuncData} (C__law_pick : Cal P w G.K mg base "_law_pick" 2 ["pen", "some"] (spD G F__law_pick) f__law_pick fd__law_pick) {f__law_digits : Addr} {fd__law_digits : FuncData} (C__law_digits : Cal P w G.K mg base "_law_digits" 1 ["signs", "number", "length"] (spD G F__law_digits) f__law_digits fd__law_digits) {f_turned_word : Addr} {fd_turned_word : FuncData} (C_turned_word : Cal P w G.K mg base "turned_word" 3 ["signs", "word"] (spD G F_turned_word) f_turned_word fd_turned_word) {f_counts_of : Addr} {fd_counts_of : FuncData} (C_counts_of : Cal P w G.K mg base "counts_of" 3 ["signs", "word"] (spD G F_counts_of) f_counts_of fd_counts_of) {f_small_words : Addr} {fd_small_words : FuncData} (C_small_words : Cal P w G.K mg base "small_words" 4 ["signs", "number"] (spD G F_small_words) f_small_words fd_small_words) : FnOk P w G.K mg base CX0 5 f fd ["script"] (spLaw G.K) := by
  refine Fu.ok sc_law (fun vs H Q E h => ?_) fun cdv A outer s H vs Q E hr h => ?_
  · obtain ⟨a, ns, rfl, _⟩ := h
    rfl
  · obtain ⟨a, ns, rfl, hS, hq⟩ := h
    refine ⟨_, pss_cons (ps_set (i := 1) sc_law.nd rfl (Or.inl rfl) (pe_call (dvs := []) C__law_pen.ok (hr.mono (by omega)) (by rfl) C__law_pen.g C__law_pen.kp C__law_pen.b .nil pass0 (pa_cons (pv 0) pa_nil)))
      (dss_ex (d := d_law) fun p B0 H0 => (dss_cons (ds_for (g := .nm 2) PassesOwn.never rfl (di_rng1 (by rfl) T.n_range de_int) (pgn sc_law.nd 2) rfl (dss_cons (ds_set_ sc_law.nd 3 (de_mt rfl PySem.F.plainAttrs_str PySem.F.slot_str_join PySem.F.type_str_join (ms_join rfl) de_str (da_cons (de_sl (sld rfl) (de_call C__law_shuffled.ok (hr.mono (by omega)) (by rfl) C__law_shuffled.g C__law_shuffled.kp C__law_shuffled.b pass0 (da_cons (de_n 1) (da_cons (de_ty (bd_list rfl rfl) (by rfl) T.n_list (by decide +kernel) (da_cons de_str da_nil)) da_nil))) do_none (do_some (de_op (opd_add rfl) de_int (de_call C__law_draw.ok (hr.mono (by omega)) (by rfl) C__law_draw.g C__law_draw.kp C__law_draw.b pass0 (da_cons (de_n 1) (da_cons de_int da_nil)))))) da_nil))) (dss_cons (ds_set_ sc_law.nd 4 (de_blt (bd_len rfl) (by rfl) T.n_len (by decide +kernel) (da_cons (de_n 3) da_nil))) (dss_cons (ds_par (i := 5) (j := 6) rfl sc_law.nd rfl rfl (by decide) rfl rfl (da_cons (de_call C__law_drawn_word.ok (hr.mono (by omega)) (by rfl) C__law_drawn_word.g C__law_drawn_word.kp C__law_drawn_word.b pass0 (da_cons (de_n 1) (da_cons (de_n 3) (da_cons de_int da_nil)))) (da_cons (de_call C__law_drawn_word.ok (hr.mono (by omega)) (by rfl) C__law_drawn_word.g C__law_drawn_word.kp C__law_drawn_word.b pass0 (da_cons (de_n 1) (da_cons (de_n 3) (da_cons de_int da_nil)))) da_nil)) (by rfl)) (dss_cons (ds_set_ sc_law.nd 7 (de_op (opd_add rfl) (de_n 5) (de_n 6))) (dss_cons (ds_set_ sc_law.nd 8 (de_op (opd_add rfl) (de_op (opd_add rfl) (de_call C__law_shorter.ok (hr.mono (by omega)) (by rfl) C__law_shorter.g C__law_shorter.kp C__law_shorter.b pass0 (da_cons (de_n 4) (da_cons (de_blt (bd_len rfl) (by rfl) T.n_len (by decide +kernel) (da_cons (de_n 7) da_nil)) da_nil))) (de_op opd_mul (de_call C__law_worth.ok (hr.mono (by omega)) (by rfl) C__law_worth.g C__law_worth.kp C__law_worth.b pass0 (da_cons (de_n 3) (da_cons (de_n 5) da_nil))) (de_call C__law_power.ok (hr.mono (by omega)) (by rfl) C__law_power.g C__law_power.kp C__law_power.b pass0 (da_cons (de_n 4) (da_cons (de_blt (bd_len rfl) (by rfl) T.n_len (by decide +kernel) (da_cons (de_n 6) da_nil)) da_nil))))) (de_call C__law_worth.ok (hr.mono (by omega)) (by rfl) C__law_worth.g C__law_worth.kp C__law_worth.b pass0 (da_cons (de_n 3) (da_cons (de_n 6) da_nil))))) (dss_cons (ds_if (dt_not (dt_val (de_call C__law_is.ok (hr.mono (by omega)) (by rfl) C__law_is.g C__law_is.kp C__law_is.b pass0 (da_cons (de_tup (da_cons (de_call C_are_signs.ok (hr.mono (by omega)) (by rfl) C_are_signs.g C_are_signs.kp C_are_signs.b pass0 (da_cons (de_n 3) da_nil)) (da_cons (de_call C_is_word.ok (hr.mono (by omega)) (by rfl) C_is_word.g C_is_word.kp C_is_word.b pass0 (da_cons (de_n 3) (da_cons (de_n 7) da_nil))) (da_cons (de_call C_place_of_word.ok (hr.mono (by omega)) (by rfl) C_place_of_word.g C_place_of_word.kp C_place_of_word.b pass0 (da_cons (de_n 3) (da_cons (de_n 7) da_nil))) da_nil)))) (da_cons (de_tup (da_cons de_bl (da_cons de_bl (da_cons (de_n 8) da_nil)))) da_nil))))) (dss_one (ds_ret de_bl)) dss_nil) (dss_cons (ds_if (dt_w (dw_and (dt_cmp opd_le (de_n 8) (de_if (dt_cmp (opd_eq rfl (hr.units)) (de_n 4) de_int (nomark _)) de_int (de_op opd_pow de_int de_int)) (nomark _)) (dw_and1 (dt_cmp (opd_ne rfl (hr.units)) (de_call C_word_at.ok (hr.mono (by omega)) (by rfl) C_word_at.g C_word_at.kp C_word_at.b pass0 (da_cons (de_n 3) (da_cons (de_n 8) da_nil))) (de_n 7) (nomark _))))) (dss_one (ds_ret de_bl)) dss_nil) (dss_cons (ds_asgT (g := .tp [9, 10, 11, 12]) (de_tup (da_cons (de_call C__law_draw.ok (hr.mono (by omega)) (by rfl) C__law_draw.g C__law_draw.kp C__law_draw.b pass0 (da_cons (de_n 1) (da_cons (de_if (dt_cmp (opd_eq rfl (hr.units)) (de_n 4) de_int (nomark _)) de_int (de_call C__law_pick.ok (hr.mono (by omega)) (by rfl) C__law_pick.g C__law_pick.kp C__law_pick.b pass0 (da_cons (de_n 1) (da_cons (de_lst (da_cons de_int (da_cons de_int (da_cons (de_op opd_pow de_int de_int) (da_cons (de_op opd_pow de_int de_int) da_nil))))) da_nil)))) da_nil))) (da_cons de_int (da_cons de_int (da_cons de_int da_nil))))) rfl (pg_tup rfl (pgs_cons (pgn sc_law.nd 9) (pgs_cons (pgn sc_law.nd 10) (pgs_cons (pgn sc_law.nd 11) (pgs_cons (pgn sc_law.nd 12) pgs_nil)))))) (dss_cons (ds_while PassesOwn.never (dt_cmp opd_le (de_op (opd_add rfl) (de_n 11) (de_n 12)) (de_n 9) (nomark _)) (dss_one (ds_par3 (i := 10) (j := 11) (l := 12) rfl sc_law.nd rfl rfl rfl (by decide) (by decide) (by decide) rfl rfl rfl (da_cons (de_op (opd_add rfl) (de_n 10) de_int) (da_cons (de_op (opd_add rfl) (de_n 11) (de_n 12)) (da_cons (de_op opd_mul (de_n 12) (de_n 4)) da_nil))) (by rfl)))) (dss_cons (ds_set_ sc_law.nd 13 (de_call C__law_digits.ok (hr.mono (by omega)) (by rfl) C__law_digits.g C__law_digits.kp C__law_digits.b pass0 (da_cons (de_n 3) (da_cons (de_op opd_sub (de_n 9) (de_n 11)) (da_cons (de_n 10) da_nil))))) (dss_cons (ds_if (dt_w (dw_or (dt_cmp (opd_ne rfl (hr.units)) (de_call C_word_at.ok (hr.mono (by omega)) (by rfl) C_word_at.g C_word_at.kp C_word_at.b pass0 (da_cons (de_n 3) (da_cons (de_n 9) da_nil))) (de_n 13) (nomark _)) (dw_or (dt_cmp (opd_ne rfl (hr.units)) (de_call C_place_of_word.ok (hr.mono (by omega)) (by rfl) C_place_of_word.g C_place_of_word.kp C_place_of_word.b pass0 (da_cons (de_n 3) (da_cons (de_n 13) da_nil))) (de_n 9) (nomark _)) (dw_or (dt_cmp (opd_ne rfl (hr.units)) (de_call C_turned_word.ok (hr.mono (by omega)) (by rfl) C_turned_word.g C_turned_word.kp C_turned_word.b pass0 (da_cons (de_n 3) (da_cons (de_n 13) da_nil))) (de_rev rfl (de_n 13)) (nomark _)) (dw_or1 (dt_cmp (opd_ne rfl (hr.units)) (de_call C_turned_word.ok (hr.mono (by omega)) (by rfl) C_turned_word.g C_turned_word.kp C_turned_word.b pass0 (da_cons (de_n 3) (da_cons (de_call C_turned_word.ok (hr.mono (by omega)) (by rfl) C_turned_word.g C_turned_word.kp C_turned_word.b pass0 (da_cons (de_n 3) (da_cons (de_n 13) da_nil))) da_nil))) (de_n 13) (nomark _))))))) (dss_one (ds_ret de_bl)) dss_nil) (dss_cons (ds_if (dt_cmp (opd_ne rfl (hr.units)) (de_call C_turned_word.ok (hr.mono (by omega)) (by rfl) C_turned_word.g C_turned_word.kp C_turned_word.b pass0 (da_cons (de_n 3) (da_cons (de_n 7) da_nil))) (de_op (opd_add rfl) (de_call C_turned_word.ok (hr.mono (by omega)) (by rfl) C_turned_word.g C_turned_word.kp C_turned_word.b pass0 (da_cons (de_n 3) (da_cons (de_n 6) da_nil))) (de_call C_turned_word.ok (hr.mono (by omega)) (by rfl) C_turned_word.g C_turned_word.kp C_turned_word.b pass0 (da_cons (de_n 3) (da_cons (de_n 5) da_nil)))) (nomark _)) (dss_one (ds_ret de_bl)) dss_nil) (dss_cons (ds_set_ sc_law.nd 14 (de_ty (bd_tuple rfl) (by rfl) T.n_tuple (by decide +kernel) (da_cons (de_lc (g := .tp [17, 18]) (own := [("left", 17), ("right", 18)]) rfl sc_law.nd (di_zip rfl (by rfl) T.n_zip (de_call C_counts_of.ok (hr.mono (by omega)) (by rfl) C_counts_of.g C_counts_of.kp C_counts_of.b pass0 (da_cons (de_n 3) (da_cons (de_n 5) da_nil))) (de_call C_counts_of.ok (hr.mono (by omega)) (by rfl) C_counts_of.g C_counts_of.kp C_counts_of.b pass0 (da_cons (de_n 3) (da_cons (de_n 6) da_nil)))) (blkOk_by (N := N_law) (sc := defScope s_law) (own := [("left", 17), ("right", 18)]) (by decide +kernel)) rfl (by decide) (fun _ _ _ _ _ => (pg_tup rfl (pgs_cons (pgn sc_law.nd 17) (pgs_cons (pgn sc_law.nd 18) pgs_nil)))) (fun _ _ _ _ _ => dts_nil) (fun _ _ _ _ _ => (de_op (opd_add rfl) (de_n 17) (de_n 18)))) da_nil))) (dss_cons (ds_if (dt_w (dw_or (dt_cmp (opd_ne rfl (hr.units)) (de_call C_counts_of.ok (hr.mono (by omega)) (by rfl) C_counts_of.g C_counts_of.kp C_counts_of.b pass0 (da_cons (de_n 3) (da_cons (de_n 7) da_nil))) (de_n 14) (nomark _)) (dw_or (dt_cmp (opd_ne rfl (hr.units)) (de_blt (bd_sum rfl rfl) (by rfl) T.n_sum (by decide +kernel) (da_cons (de_n 14) da_nil)) (de_blt (bd_len rfl) (by rfl) T.n_len (by decide +kernel) (da_cons (de_n 7) da_nil)) (nomark _)) (dw_or (dt_cmp (opd_ne rfl (hr.units)) (de_call C_counts_of.ok (hr.mono (by omega)) (by rfl) C_counts_of.g C_counts_of.kp C_counts_of.b pass0 (da_cons (de_n 3) (da_cons (de_n 7) da_nil))) (de_ty (bd_tuple rfl) (by rfl) T.n_tuple (by decide +kernel) (da_cons (de_lc (g := .nm 19) (own := [("sign", 19)]) rfl sc_law.nd (di_it rfl (de_n 3)) (blkOk_by (N := N_law) (sc := defScope s_law) (own := [("sign", 19)]) (by decide +kernel)) rfl (by decide) (fun _ _ _ _ _ => (pgn sc_law.nd 19)) (fun _ _ _ _ _ => dts_nil) (fun _ _ _ _ _ => (de_mt rfl PySem.F.plainAttrs_str PySem.F.slot_str_count PySem.F.type_str_count ms_count (de_n 7) (da_cons (de_n 19) da_nil)))) da_nil)) (nomark _)) (dw_or1 (dt_cmp (opd_ne rfl (hr.units)) (de_call C_counts_of.ok (hr.mono (by omega)) (by rfl) C_counts_of.g C_counts_of.kp C_counts_of.b pass0 (da_cons (de_n 3) (da_cons (de_rev rfl (de_n 7)) da_nil))) (de_n 14) (nomark _))))))) (dss_one (ds_ret de_bl)) dss_nil) (dss_cons (ds_set_ sc_law.nd 15 (de_call C__law_draw.ok (hr.mono (by omega)) (by rfl) C__law_draw.g C__law_draw.kp C__law_draw.b pass0 (da_cons (de_n 1) (da_cons de_int da_nil)))) (dss_cons (ds_set_ sc_law.nd 16 (de_call C_small_words.ok (hr.mono (by omega)) (by rfl) C_small_words.g C_small_words.kp C_small_words.b pass0 (da_cons (de_n 3) (da_cons (de_n 15) da_nil)))) (dss_cons (ds_if (dt_w (dw_or (dt_cmp (opd_ne rfl (hr.units)) (de_blt (bd_len rfl) (by rfl) T.n_len (by decide +kernel) (da_cons (de_n 16) da_nil)) (de_call C__law_shorter.ok (hr.mono (by omega)) (by rfl) C__law_shorter.g C__law_shorter.kp C__law_shorter.b pass0 (da_cons (de_n 4) (da_cons (de_op (opd_add rfl) (de_n 15) de_int) da_nil))) (nomark _)) (dw_or1 (dt_cmp (opd_ne rfl (hr.units)) (de_n 16) (de_ty (bd_tuple rfl) (by rfl) T.n_tuple (by decide +kernel) (da_cons (de_lc (g := .nm 20) (own := [("at", 20)]) rfl sc_law.nd (di_rng1 (by rfl) T.n_range (de_blt (bd_len rfl) (by rfl) T.n_len (by decide +kernel) (da_cons (de_n 16) da_nil))) (blkOk_by (N := N_law) (sc := defScope s_law) (own := [("at", 20)]) (by decide +kernel)) rfl (by decide) (fun _ _ _ _ _ => (pgn sc_law.nd 20)) (fun _ _ _ _ _ => dts_nil) (fun _ _ _ _ _ => (de_call C_word_at.ok (hr.mono (by omega)) (by rfl) C_word_at.g C_word_at.kp C_word_at.b pass0 (da_cons (de_n 3) (da_cons (de_n 20) da_nil))))) da_nil)) (nomark _))))) (dss_one (ds_ret de_bl)) dss_nil) (dss_one (ds_if (dt_w (dw_and (dt_cmp (opd_ne rfl (hr.units)) (de_n 7) de_str (nomark _)) (dw_and1 (dt_cmp (opd_ne rfl (hr.units)) (de_op opd_sub (de_call C_place_of_word.ok (hr.mono (by omega)) (by rfl) C_place_of_word.g C_place_of_word.kp C_place_of_word.b pass0 (da_cons (de_n 3) (da_cons (de_n 7) da_nil))) (de_call C_place_of_word.ok (hr.mono (by omega)) (by rfl) C_place_of_word.g C_place_of_word.kp C_place_of_word.b pass0 (da_cons (de_n 3) (da_cons (de_sl (sld rfl) (de_n 7) (do_some de_int) do_none) da_nil)))) (de_op opd_mul (de_call C__law_power.ok (hr.mono (by omega)) (by rfl) C__law_power.g C__law_power.kp C__law_power.b pass0 (da_cons (de_n 4) (da_cons (de_op opd_sub (de_blt (bd_len rfl) (by rfl) T.n_len (by decide +kernel) (da_cons (de_n 7) da_nil)) de_int) da_nil))) (de_op (opd_add rfl) de_int (de_mt rfl PySem.F.plainAttrs_list PySem.F.slot_list_index PySem.F.type_list_index ms_index (de_blt (bd_sorted rfl) (by rfl) T.n_sorted (by decide +kernel) (da_cons (de_n 3) da_nil)) (da_cons (de_ix (ixd rfl) (de_n 7) de_int (fun _ _ => rfl)) da_nil)))) (nomark _))))) (dss_one (ds_ret de_bl)) dss_nil)))))))))))))))))))) (dss_one (ds_ret de_bl)))), ?_⟩
    refine ⟨_, rfl, a, ns, rfl, hS, fun x c f H' hsame hxc hx hc => ?_⟩
    exact pen_rest (σd := st none none none none none none none none none none none none none none none) hx hxc hc rfl (fun i w e => by
      match i, e with
      | 0, e => cases e
      | 1, e => cases e; exact ⟨rfl, rfl⟩
      | 2, e => cases e
      | 3, e => cases e
      | 4, e => cases e
      | 5, e => cases e
      | 6, e => cases e
      | 7, e => cases e
      | 8, e => cases e
      | 9, e => cases e
      | 10, e => cases e
      | 11, e => cases e
      | 12, e => cases e
      | 13, e => cases e
      | 14, e => cases e
      | 15, e => cases e
      | 16, e => cases e
      | 17, e => cases e
      | 18, e => cases e
      | 19, e => cases e
      | 20, e => cases e
      | i + 21, e => cases e) (r_law rfl) hq
theorem no__law_is {f : Addr} {fd : FuncData} : FnOk P w G.K mg base CX0 (0 + 0) f fd ["told", "due"] (spD G (F_is 0)) := no_ok fun ws Q h => by obtain ⟨_, _, _, h, _⟩ := h; exact absurd h (Nat.not_lt_zero _)
end
end Dl
open PySem PySem.Spec PyProof.Rows L2
namespace Dl
structure DfK (K : PySem.W.Frag) (mg : Str → Option Value) (x : Str) (st : Stmt) (f : Addr) (fd : FuncData) : Prop where
  g : mg x = some (.ref f)
  F : Fun K x x st f fd
section
variable {P : Program} {w : World} {mg : Str → Option Value} {base : Heap} {K : PySem.W.Frag} {f : Addr} {fd : FuncData}
theorem DfK.cal {x : Str} {st : Stmt} {k : Nat} {ps : List Str} {sp : L2.Sp} (d : DfK K mg x st f fd) (h : FnOk P w K mg base CX0 k f fd ps sp) (b : Binds K fd ps []) : Cal P w K mg base x k ps sp f fd := ⟨h, d.g, d.F.kp, b⟩
end
theorem all_ok {P : Program} {w : World} {mg : Str → Option Value} {base : Heap} {K : PySem.W.Frag} (T : Tx mg)
    {f_is_whole : Addr} {e_is_whole : FuncData} (D_is_whole : DfK K mg "is_whole" s_is_whole f_is_whole e_is_whole)
    {f_is_index : Addr} {e_is_index : FuncData} (D_is_index : DfK K mg "is_index" s_is_index f_is_index e_is_index)
    {f_are_signs : Addr} {e_are_signs : FuncData} (D_are_signs : DfK K mg "are_signs" s_are_signs f_are_signs e_are_signs)
    {f_need_signs : Addr} {e_need_signs : FuncData} (D_need_signs : DfK K mg "need_signs" s_need_signs f_need_signs e_need_signs)
    {f_is_word_by : Addr} {e_is_word_by : FuncData} (D_is_word_by : DfK K mg "is_word_by" s_is_word_by f_is_word_by e_is_word_by)
    {f_is_word : Addr} {e_is_word : FuncData} (D_is_word : DfK K mg "is_word" s_is_word f_is_word e_is_word)
    {f_need_word_of : Addr} {e_need_word_of : FuncData} (D_need_word_of : DfK K mg "need_word_of" s_need_word_of f_need_word_of e_need_word_of)
    {f_words_count : Addr} {e_words_count : FuncData} (D_words_count : DfK K mg "words_count" s_words_count f_words_count e_words_count)
    {f_words_by : Addr} {e_words_by : FuncData} (D_words_by : DfK K mg "words_by" s_words_by f_words_by e_words_by)
    {f_need_length : Addr} {e_need_length : FuncData} (D_need_length : DfK K mg "need_length" s_need_length f_need_length e_need_length)
    {f_small_words : Addr} {e_small_words : FuncData} (D_small_words : DfK K mg "small_words" s_small_words f_small_words e_small_words)
    {f_place_of_word : Addr} {e_place_of_word : FuncData} (D_place_of_word : DfK K mg "place_of_word" s_place_of_word f_place_of_word e_place_of_word)
    {f_word_at : Addr} {e_word_at : FuncData} (D_word_at : DfK K mg "word_at" s_word_at f_word_at e_word_at)
    {f_turned_word : Addr} {e_turned_word : FuncData} (D_turned_word : DfK K mg "turned_word" s_turned_word f_turned_word e_turned_word)
    {f_counts_of : Addr} {e_counts_of : FuncData} (D_counts_of : DfK K mg "counts_of" s_counts_of f_counts_of e_counts_of)
    {f__law_pen : Addr} {e__law_pen : FuncData} (D__law_pen : DfK K mg "_law_pen" s__law_pen f__law_pen e__law_pen)
    {f__law_draw : Addr} {e__law_draw : FuncData} (D__law_draw : DfK K mg "_law_draw" s__law_draw f__law_draw e__law_draw)
    {f__law_pick : Addr} {e__law_pick : FuncData} (D__law_pick : DfK K mg "_law_pick" s__law_pick f__law_pick e__law_pick)
    {f__law_shuffled : Addr} {e__law_shuffled : FuncData} (D__law_shuffled : DfK K mg "_law_shuffled" s__law_shuffled f__law_shuffled e__law_shuffled)
    {f__law_is : Addr} {e__law_is : FuncData} (D__law_is : DfK K mg "_law_is" s__law_is f__law_is e__law_is)
    {f__law_drawn_word : Addr} {e__law_drawn_word : FuncData} (D__law_drawn_word : DfK K mg "_law_drawn_word" s__law_drawn_word f__law_drawn_word e__law_drawn_word)
    {f__law_power : Addr} {e__law_power : FuncData} (D__law_power : DfK K mg "_law_power" s__law_power f__law_power e__law_power)
    {f__law_shorter : Addr} {e__law_shorter : FuncData} (D__law_shorter : DfK K mg "_law_shorter" s__law_shorter f__law_shorter e__law_shorter)
    {f__law_worth : Addr} {e__law_worth : FuncData} (D__law_worth : DfK K mg "_law_worth" s__law_worth f__law_worth e__law_worth)
    {f__law_digits : Addr} {e__law_digits : FuncData} (D__law_digits : DfK K mg "_law_digits" s__law_digits f__law_digits e__law_digits)
    {f_law : Addr} {e_law : FuncData} (D_law : DfK K mg "law" s_law f_law e_law)
    : FnOk P w K mg base CX0 5 f_law e_law ["script"] (spLaw K) := by
  let G : Gx := ⟨K, fun _ => 0⟩
  have b_is_whole : Binds G.K e_is_whole ["value"] [] := D_is_whole.F.binds (ps := ["value"]) fun _ _ _ _ _ _ us hl => match us, hl with | [_], _ => rfl
  have C_is_whole : Cal P w G.K mg base "is_whole" 1 ["value"] (spD G F_is_whole) f_is_whole e_is_whole := D_is_whole.cal (ok_is_whole (G := G) D_is_whole.F T) b_is_whole
  have b_are_signs : Binds G.K e_are_signs ["value"] [] := D_are_signs.F.binds (ps := ["value"]) fun _ _ _ _ _ _ us hl => match us, hl with | [_], _ => rfl
  have C_are_signs : Cal P w G.K mg base "are_signs" 1 ["value"] (spD G F_are_signs) f_are_signs e_are_signs := D_are_signs.cal (ok_are_signs (G := G) D_are_signs.F T) b_are_signs
  have b_is_word_by : Binds G.K e_is_word_by ["signs", "value"] [] := D_is_word_by.F.binds (ps := ["signs", "value"]) fun _ _ _ _ _ _ us hl => match us, hl with | [_, _], _ => rfl
  have C_is_word_by : Cal P w G.K mg base "is_word_by" 1 ["signs", "value"] (spD G F_is_word_by) f_is_word_by e_is_word_by := D_is_word_by.cal (ok_is_word_by (G := G) D_is_word_by.F T) b_is_word_by
  have b_words_count : Binds G.K e_words_count ["many", "number"] [] := D_words_count.F.binds (ps := ["many", "number"]) fun _ _ _ _ _ _ us hl => match us, hl with | [_, _], _ => rfl
  have C_words_count : Cal P w G.K mg base "words_count" 1 ["many", "number"] (spD G F_words_count) f_words_count e_words_count := D_words_count.cal (ok_words_count (G := G) D_words_count.F T) b_words_count
  have b__law_pen : Binds G.K e__law_pen ["script"] [] := D__law_pen.F.binds (ps := ["script"]) fun _ _ _ _ _ _ us hl => match us, hl with | [_], _ => rfl
  have C__law_pen : Cal P w G.K mg base "_law_pen" 1 ["script"] (spPen G.K) f__law_pen e__law_pen := D__law_pen.cal (ok__law_pen (G := G) (k := 0) D__law_pen.F T.pen) b__law_pen
  have b__law_draw : Binds G.K e__law_draw ["pen", "many"] [] := D__law_draw.F.binds (ps := ["pen", "many"]) fun _ _ _ _ _ _ us hl => match us, hl with | [_, _], _ => rfl
  have C__law_draw : Cal P w G.K mg base "_law_draw" 1 ["pen", "many"] (spD G F__law_draw) f__law_draw e__law_draw := D__law_draw.cal (ok__law_draw (G := G) (k := 0) D__law_draw.F T.pen) b__law_draw
  have b__law_power : Binds G.K e__law_power ["base", "number"] [] := D__law_power.F.binds (ps := ["base", "number"]) fun _ _ _ _ _ _ us hl => match us, hl with | [_, _], _ => rfl
  have C__law_power : Cal P w G.K mg base "_law_power" 1 ["base", "number"] (spD G F__law_power) f__law_power e__law_power := D__law_power.cal (ok__law_power (G := G) D__law_power.F T) b__law_power
  have b__law_worth : Binds G.K e__law_worth ["signs", "word"] [] := D__law_worth.F.binds (ps := ["signs", "word"]) fun _ _ _ _ _ _ us hl => match us, hl with | [_, _], _ => rfl
  have C__law_worth : Cal P w G.K mg base "_law_worth" 1 ["signs", "word"] (spD G F__law_worth) f__law_worth e__law_worth := D__law_worth.cal (ok__law_worth (G := G) D__law_worth.F T) b__law_worth
  have b__law_digits : Binds G.K e__law_digits ["signs", "number", "length"] [] := D__law_digits.F.binds (ps := ["signs", "number", "length"]) fun _ _ _ _ _ _ us hl => match us, hl with | [_, _, _], _ => rfl
  have C__law_digits : Cal P w G.K mg base "_law_digits" 1 ["signs", "number", "length"] (spD G F__law_digits) f__law_digits e__law_digits := D__law_digits.cal (ok__law_digits (G := G) D__law_digits.F T) b__law_digits
  have b_is_index : Binds G.K e_is_index ["value", "many"] [] := D_is_index.F.binds (ps := ["value", "many"]) fun _ _ _ _ _ _ us hl => match us, hl with | [_, _], _ => rfl
  have C_is_index : Cal P w G.K mg base "is_index" 2 ["value", "many"] (spD G F_is_index) f_is_index e_is_index := D_is_index.cal (ok_is_index (G := G) D_is_index.F T C_is_whole) b_is_index
  have b_need_signs : Binds G.K e_need_signs ["value"] [] := D_need_signs.F.binds (ps := ["value"]) fun _ _ _ _ _ _ us hl => match us, hl with | [_], _ => rfl
  have C_need_signs : Cal P w G.K mg base "need_signs" 2 ["value"] (spD G F_need_signs) f_need_signs e_need_signs := D_need_signs.cal (ok_need_signs (G := G) D_need_signs.F T C_are_signs) b_need_signs
  have b_need_word_of : Binds G.K e_need_word_of ["signs", "word"] [] := D_need_word_of.F.binds (ps := ["signs", "word"]) fun _ _ _ _ _ _ us hl => match us, hl with | [_, _], _ => rfl
  have C_need_word_of : Cal P w G.K mg base "need_word_of" 2 ["signs", "word"] (spD G F_need_word_of) f_need_word_of e_need_word_of := D_need_word_of.cal (ok_need_word_of (G := G) D_need_word_of.F T C_is_word_by) b_need_word_of
  have b_words_by : Binds G.K e_words_by ["signs", "number"] [] := D_words_by.F.binds (ps := ["signs", "number"]) fun _ _ _ _ _ _ us hl => match us, hl with | [_, _], _ => rfl
  have C_words_by : Cal P w G.K mg base "words_by" 2 ["signs", "number"] (spD G F_words_by) f_words_by e_words_by := D_words_by.cal (ok_words_by (G := G) D_words_by.F T C_words_count) b_words_by
  have b__law_pick : Binds G.K e__law_pick ["pen", "some"] [] := D__law_pick.F.binds (ps := ["pen", "some"]) fun _ _ _ _ _ _ us hl => match us, hl with | [_, _], _ => rfl
  have C__law_pick : Cal P w G.K mg base "_law_pick" 2 ["pen", "some"] (spD G F__law_pick) f__law_pick e__law_pick := D__law_pick.cal (ok__law_pick (G := G) D__law_pick.F T C__law_draw) b__law_pick
  have b__law_shuffled : Binds G.K e__law_shuffled ["pen", "some"] [] := D__law_shuffled.F.binds (ps := ["pen", "some"]) fun _ _ _ _ _ _ us hl => match us, hl with | [_, _], _ => rfl
  have C__law_shuffled : Cal P w G.K mg base "_law_shuffled" 2 ["pen", "some"] (spD G F__law_shuffled) f__law_shuffled e__law_shuffled := D__law_shuffled.cal (ok__law_shuffled (G := G) D__law_shuffled.F T C__law_draw) b__law_shuffled
  have b__law_is : Binds G.K e__law_is ["told", "due"] [] := D__law_is.F.binds (ps := ["told", "due"]) fun _ _ _ _ _ _ us hl => match us, hl with | [_, _], _ => rfl
  have C__law_is_0 : Cal P w G.K mg base "_law_is" (0 + 0) ["told", "due"] (spD G (F_is 0)) f__law_is e__law_is := D__law_is.cal (no__law_is (G := G)) b__law_is
  have C__law_is_1 : Cal P w G.K mg base "_law_is" (0 + 1) ["told", "due"] (spD G (F_is 1)) f__law_is e__law_is := D__law_is.cal (ok__law_is (G := G) D__law_is.F T C__law_is_0) b__law_is
  have C__law_is_2 : Cal P w G.K mg base "_law_is" (0 + 2) ["told", "due"] (spD G (F_is 2)) f__law_is e__law_is := D__law_is.cal (ok__law_is (G := G) D__law_is.F T C__law_is_1) b__law_is
  have C__law_is : Cal P w G.K mg base "_law_is" 2 ["told", "due"] (spD G F__law_is) f__law_is e__law_is := C__law_is_2
  have b__law_shorter : Binds G.K e__law_shorter ["many", "length"] [] := D__law_shorter.F.binds (ps := ["many", "length"]) fun _ _ _ _ _ _ us hl => match us, hl with | [_, _], _ => rfl
  have C__law_shorter : Cal P w G.K mg base "_law_shorter" 2 ["many", "length"] (spD G F__law_shorter) f__law_shorter e__law_shorter := D__law_shorter.cal (ok__law_shorter (G := G) D__law_shorter.F T C__law_power) b__law_shorter
  have b_is_word : Binds G.K e_is_word ["signs", "value"] [] := D_is_word.F.binds (ps := ["signs", "value"]) fun _ _ _ _ _ _ us hl => match us, hl with | [_, _], _ => rfl
  have C_is_word : Cal P w G.K mg base "is_word" 3 ["signs", "value"] (spD G F_is_word) f_is_word e_is_word := D_is_word.cal (ok_is_word (G := G) D_is_word.F T C_is_word_by C_need_signs) b_is_word
  have b_need_length : Binds G.K e_need_length ["number"] [] := D_need_length.F.binds (ps := ["number"]) fun _ _ _ _ _ _ us hl => match us, hl with | [_], _ => rfl
  have C_need_length : Cal P w G.K mg base "need_length" 3 ["number"] (spD G F_need_length) f_need_length e_need_length := D_need_length.cal (ok_need_length (G := G) D_need_length.F T C_is_index) b_need_length
  have b_place_of_word : Binds G.K e_place_of_word ["signs", "word"] [] := D_place_of_word.F.binds (ps := ["signs", "word"]) fun _ _ _ _ _ _ us hl => match us, hl with | [_, _], _ => rfl
  have C_place_of_word : Cal P w G.K mg base "place_of_word" 3 ["signs", "word"] (spD G F_place_of_word) f_place_of_word e_place_of_word := D_place_of_word.cal (ok_place_of_word (G := G) D_place_of_word.F T C_need_signs C_need_word_of C_words_count) b_place_of_word
  have b_word_at : Binds G.K e_word_at ["signs", "place"] [] := D_word_at.F.binds (ps := ["signs", "place"]) fun _ _ _ _ _ _ us hl => match us, hl with | [_, _], _ => rfl
  have C_word_at : Cal P w G.K mg base "word_at" 3 ["signs", "place"] (spD G F_word_at) f_word_at e_word_at := D_word_at.cal (ok_word_at (G := G) D_word_at.F T C_need_signs C_is_index) b_word_at
  have b_turned_word : Binds G.K e_turned_word ["signs", "word"] [] := D_turned_word.F.binds (ps := ["signs", "word"]) fun _ _ _ _ _ _ us hl => match us, hl with | [_, _], _ => rfl
  have C_turned_word : Cal P w G.K mg base "turned_word" 3 ["signs", "word"] (spD G F_turned_word) f_turned_word e_turned_word := D_turned_word.cal (ok_turned_word (G := G) D_turned_word.F T C_need_signs C_need_word_of) b_turned_word
  have b_counts_of : Binds G.K e_counts_of ["signs", "word"] [] := D_counts_of.F.binds (ps := ["signs", "word"]) fun _ _ _ _ _ _ us hl => match us, hl with | [_, _], _ => rfl
  have C_counts_of : Cal P w G.K mg base "counts_of" 3 ["signs", "word"] (spD G F_counts_of) f_counts_of e_counts_of := D_counts_of.cal (ok_counts_of (G := G) D_counts_of.F T C_need_signs C_need_word_of) b_counts_of
  have b__law_drawn_word : Binds G.K e__law_drawn_word ["pen", "signs", "most"] [] := D__law_drawn_word.F.binds (ps := ["pen", "signs", "most"]) fun _ _ _ _ _ _ us hl => match us, hl with | [_, _, _], _ => rfl
  have C__law_drawn_word : Cal P w G.K mg base "_law_drawn_word" 3 ["pen", "signs", "most"] (spD G F__law_drawn_word) f__law_drawn_word e__law_drawn_word := D__law_drawn_word.cal (ok__law_drawn_word (G := G) D__law_drawn_word.F T C__law_draw C__law_pick) b__law_drawn_word
  have b_small_words : Binds G.K e_small_words ["signs", "number"] [] := D_small_words.F.binds (ps := ["signs", "number"]) fun _ _ _ _ _ _ us hl => match us, hl with | [_, _], _ => rfl
  have C_small_words : Cal P w G.K mg base "small_words" 4 ["signs", "number"] (spD G F_small_words) f_small_words e_small_words := D_small_words.cal (ok_small_words (G := G) D_small_words.F T C_need_signs C_need_length C_words_by) b_small_words
  exact ok_law (G := G) D_law.F T C__law_pen C__law_shuffled C__law_draw C__law_drawn_word C__law_shorter C__law_worth C__law_power C__law_is C_place_of_word C_is_word C_are_signs C_word_at C__law_pick C__law_digits C_turned_word C_counts_of C_small_words
theorem all_mk {l : PySem.W.OpenLaw} {w : World} {K : PySem.W.Frag} {h : Heap} {mg : Str → Option Value} {fa : Addr} (X : K.In h) (N : h.Ns mainGlobals mg) (hfa : mg "law" = some (.ref fa))
    {u0 : Addr} {x0 y0 : Option Addr} {z0 : Array (Option Value)} {oc0 kV0 dc0 pm0 cd0 ct0 : Value}
    (a0 : PySem.W.nsIn K mainGlobals "is_whole" = some (some (.ref u0)))
    (l0 : K.lookup u0 = some ⟨oc0, x0, .func (PySem.W.fnOf "is_whole" "is_whole" (defArgs s_is_whole) (defBody s_is_whole) (defScope s_is_whole) .none kV0 dc0 pm0 y0 cd0 ct0), z0⟩)
    (c0 : PySem.W.codeIn K cd0 "is_whole" = true) (k0 : PySem.W.keepIn K (.ref u0) = true)
    {u1 : Addr} {x1 y1 : Option Addr} {z1 : Array (Option Value)} {oc1 kV1 dc1 pm1 cd1 ct1 : Value}
    (a1 : PySem.W.nsIn K mainGlobals "is_index" = some (some (.ref u1)))
    (l1 : K.lookup u1 = some ⟨oc1, x1, .func (PySem.W.fnOf "is_index" "is_index" (defArgs s_is_index) (defBody s_is_index) (defScope s_is_index) .none kV1 dc1 pm1 y1 cd1 ct1), z1⟩)
    (c1 : PySem.W.codeIn K cd1 "is_index" = true) (k1 : PySem.W.keepIn K (.ref u1) = true)
    {u2 : Addr} {x2 y2 : Option Addr} {z2 : Array (Option Value)} {oc2 kV2 dc2 pm2 cd2 ct2 : Value}
    (a2 : PySem.W.nsIn K mainGlobals "are_signs" = some (some (.ref u2)))
    (l2 : K.lookup u2 = some ⟨oc2, x2, .func (PySem.W.fnOf "are_signs" "are_signs" (defArgs s_are_signs) (defBody s_are_signs) (defScope s_are_signs) .none kV2 dc2 pm2 y2 cd2 ct2), z2⟩)
    (c2 : PySem.W.codeIn K cd2 "are_signs" = true) (k2 : PySem.W.keepIn K (.ref u2) = true)
    {u3 : Addr} {x3 y3 : Option Addr} {z3 : Array (Option Value)} {oc3 kV3 dc3 pm3 cd3 ct3 : Value}
    (a3 : PySem.W.nsIn K mainGlobals "need_signs" = some (some (.ref u3)))
    (l3 : K.lookup u3 = some ⟨oc3, x3, .func (PySem.W.fnOf "need_signs" "need_signs" (defArgs s_need_signs) (defBody s_need_signs) (defScope s_need_signs) .none kV3 dc3 pm3 y3 cd3 ct3), z3⟩)
    (c3 : PySem.W.codeIn K cd3 "need_signs" = true) (k3 : PySem.W.keepIn K (.ref u3) = true)
    {u4 : Addr} {x4 y4 : Option Addr} {z4 : Array (Option Value)} {oc4 kV4 dc4 pm4 cd4 ct4 : Value}
    (a4 : PySem.W.nsIn K mainGlobals "is_word_by" = some (some (.ref u4)))
    (l4 : K.lookup u4 = some ⟨oc4, x4, .func (PySem.W.fnOf "is_word_by" "is_word_by" (defArgs s_is_word_by) (defBody s_is_word_by) (defScope s_is_word_by) .none kV4 dc4 pm4 y4 cd4 ct4), z4⟩)
    (c4 : PySem.W.codeIn K cd4 "is_word_by" = true) (k4 : PySem.W.keepIn K (.ref u4) = true)
    {u5 : Addr} {x5 y5 : Option Addr} {z5 : Array (Option Value)} {oc5 kV5 dc5 pm5 cd5 ct5 : Value}
    (a5 : PySem.W.nsIn K mainGlobals "is_word" = some (some (.ref u5)))
    (l5 : K.lookup u5 = some ⟨oc5, x5, .func (PySem.W.fnOf "is_word" "is_word" (defArgs s_is_word) (defBody s_is_word) (defScope s_is_word) .none kV5 dc5 pm5 y5 cd5 ct5), z5⟩)
    (c5 : PySem.W.codeIn K cd5 "is_word" = true) (k5 : PySem.W.keepIn K (.ref u5) = true)
    {u6 : Addr} {x6 y6 : Option Addr} {z6 : Array (Option Value)} {oc6 kV6 dc6 pm6 cd6 ct6 : Value}
    (a6 : PySem.W.nsIn K mainGlobals "need_word_of" = some (some (.ref u6)))
    (l6 : K.lookup u6 = some ⟨oc6, x6, .func (PySem.W.fnOf "need_word_of" "need_word_of" (defArgs s_need_word_of) (defBody s_need_word_of) (defScope s_need_word_of) .none kV6 dc6 pm6 y6 cd6 ct6), z6⟩)
    (c6 : PySem.W.codeIn K cd6 "need_word_of" = true) (k6 : PySem.W.keepIn K (.ref u6) = true)
    {u7 : Addr} {x7 y7 : Option Addr} {z7 : Array (Option Value)} {oc7 kV7 dc7 pm7 cd7 ct7 : Value}
    (a7 : PySem.W.nsIn K mainGlobals "words_count" = some (some (.ref u7)))
    (l7 : K.lookup u7 = some ⟨oc7, x7, .func (PySem.W.fnOf "words_count" "words_count" (defArgs s_words_count) (defBody s_words_count) (defScope s_words_count) .none kV7 dc7 pm7 y7 cd7 ct7), z7⟩)
    (c7 : PySem.W.codeIn K cd7 "words_count" = true) (k7 : PySem.W.keepIn K (.ref u7) = true)
    {u8 : Addr} {x8 y8 : Option Addr} {z8 : Array (Option Value)} {oc8 kV8 dc8 pm8 cd8 ct8 : Value}
    (a8 : PySem.W.nsIn K mainGlobals "words_by" = some (some (.ref u8)))
    (l8 : K.lookup u8 = some ⟨oc8, x8, .func (PySem.W.fnOf "words_by" "words_by" (defArgs s_words_by) (defBody s_words_by) (defScope s_words_by) .none kV8 dc8 pm8 y8 cd8 ct8), z8⟩)
    (c8 : PySem.W.codeIn K cd8 "words_by" = true) (k8 : PySem.W.keepIn K (.ref u8) = true)
    {u9 : Addr} {x9 y9 : Option Addr} {z9 : Array (Option Value)} {oc9 kV9 dc9 pm9 cd9 ct9 : Value}
    (a9 : PySem.W.nsIn K mainGlobals "need_length" = some (some (.ref u9)))
    (l9 : K.lookup u9 = some ⟨oc9, x9, .func (PySem.W.fnOf "need_length" "need_length" (defArgs s_need_length) (defBody s_need_length) (defScope s_need_length) .none kV9 dc9 pm9 y9 cd9 ct9), z9⟩)
    (c9 : PySem.W.codeIn K cd9 "need_length" = true) (k9 : PySem.W.keepIn K (.ref u9) = true)
    {u10 : Addr} {x10 y10 : Option Addr} {z10 : Array (Option Value)} {oc10 kV10 dc10 pm10 cd10 ct10 : Value}
    (a10 : PySem.W.nsIn K mainGlobals "small_words" = some (some (.ref u10)))
    (l10 : K.lookup u10 = some ⟨oc10, x10, .func (PySem.W.fnOf "small_words" "small_words" (defArgs s_small_words) (defBody s_small_words) (defScope s_small_words) .none kV10 dc10 pm10 y10 cd10 ct10), z10⟩)
    (c10 : PySem.W.codeIn K cd10 "small_words" = true) (k10 : PySem.W.keepIn K (.ref u10) = true)
    {u11 : Addr} {x11 y11 : Option Addr} {z11 : Array (Option Value)} {oc11 kV11 dc11 pm11 cd11 ct11 : Value}
    (a11 : PySem.W.nsIn K mainGlobals "place_of_word" = some (some (.ref u11)))
    (l11 : K.lookup u11 = some ⟨oc11, x11, .func (PySem.W.fnOf "place_of_word" "place_of_word" (defArgs s_place_of_word) (defBody s_place_of_word) (defScope s_place_of_word) .none kV11 dc11 pm11 y11 cd11 ct11), z11⟩)
    (c11 : PySem.W.codeIn K cd11 "place_of_word" = true) (k11 : PySem.W.keepIn K (.ref u11) = true)
    {u12 : Addr} {x12 y12 : Option Addr} {z12 : Array (Option Value)} {oc12 kV12 dc12 pm12 cd12 ct12 : Value}
    (a12 : PySem.W.nsIn K mainGlobals "word_at" = some (some (.ref u12)))
    (l12 : K.lookup u12 = some ⟨oc12, x12, .func (PySem.W.fnOf "word_at" "word_at" (defArgs s_word_at) (defBody s_word_at) (defScope s_word_at) .none kV12 dc12 pm12 y12 cd12 ct12), z12⟩)
    (c12 : PySem.W.codeIn K cd12 "word_at" = true) (k12 : PySem.W.keepIn K (.ref u12) = true)
    {u13 : Addr} {x13 y13 : Option Addr} {z13 : Array (Option Value)} {oc13 kV13 dc13 pm13 cd13 ct13 : Value}
    (a13 : PySem.W.nsIn K mainGlobals "turned_word" = some (some (.ref u13)))
    (l13 : K.lookup u13 = some ⟨oc13, x13, .func (PySem.W.fnOf "turned_word" "turned_word" (defArgs s_turned_word) (defBody s_turned_word) (defScope s_turned_word) .none kV13 dc13 pm13 y13 cd13 ct13), z13⟩)
    (c13 : PySem.W.codeIn K cd13 "turned_word" = true) (k13 : PySem.W.keepIn K (.ref u13) = true)
    {u14 : Addr} {x14 y14 : Option Addr} {z14 : Array (Option Value)} {oc14 kV14 dc14 pm14 cd14 ct14 : Value}
    (a14 : PySem.W.nsIn K mainGlobals "counts_of" = some (some (.ref u14)))
    (l14 : K.lookup u14 = some ⟨oc14, x14, .func (PySem.W.fnOf "counts_of" "counts_of" (defArgs s_counts_of) (defBody s_counts_of) (defScope s_counts_of) .none kV14 dc14 pm14 y14 cd14 ct14), z14⟩)
    (c14 : PySem.W.codeIn K cd14 "counts_of" = true) (k14 : PySem.W.keepIn K (.ref u14) = true)
    {u15 : Addr} {x15 y15 : Option Addr} {z15 : Array (Option Value)} {oc15 kV15 dc15 pm15 cd15 ct15 : Value}
    (a15 : PySem.W.nsIn K mainGlobals "_law_pen" = some (some (.ref u15)))
    (l15 : K.lookup u15 = some ⟨oc15, x15, .func (PySem.W.fnOf "_law_pen" "_law_pen" (defArgs s__law_pen) (defBody s__law_pen) (defScope s__law_pen) .none kV15 dc15 pm15 y15 cd15 ct15), z15⟩)
    (c15 : PySem.W.codeIn K cd15 "_law_pen" = true) (k15 : PySem.W.keepIn K (.ref u15) = true)
    {u16 : Addr} {x16 y16 : Option Addr} {z16 : Array (Option Value)} {oc16 kV16 dc16 pm16 cd16 ct16 : Value}
    (a16 : PySem.W.nsIn K mainGlobals "_law_draw" = some (some (.ref u16)))
    (l16 : K.lookup u16 = some ⟨oc16, x16, .func (PySem.W.fnOf "_law_draw" "_law_draw" (defArgs s__law_draw) (defBody s__law_draw) (defScope s__law_draw) .none kV16 dc16 pm16 y16 cd16 ct16), z16⟩)
    (c16 : PySem.W.codeIn K cd16 "_law_draw" = true) (k16 : PySem.W.keepIn K (.ref u16) = true)
    {u17 : Addr} {x17 y17 : Option Addr} {z17 : Array (Option Value)} {oc17 kV17 dc17 pm17 cd17 ct17 : Value}
    (a17 : PySem.W.nsIn K mainGlobals "_law_pick" = some (some (.ref u17)))
    (l17 : K.lookup u17 = some ⟨oc17, x17, .func (PySem.W.fnOf "_law_pick" "_law_pick" (defArgs s__law_pick) (defBody s__law_pick) (defScope s__law_pick) .none kV17 dc17 pm17 y17 cd17 ct17), z17⟩)
    (c17 : PySem.W.codeIn K cd17 "_law_pick" = true) (k17 : PySem.W.keepIn K (.ref u17) = true)
    {u18 : Addr} {x18 y18 : Option Addr} {z18 : Array (Option Value)} {oc18 kV18 dc18 pm18 cd18 ct18 : Value}
    (a18 : PySem.W.nsIn K mainGlobals "_law_shuffled" = some (some (.ref u18)))
    (l18 : K.lookup u18 = some ⟨oc18, x18, .func (PySem.W.fnOf "_law_shuffled" "_law_shuffled" (defArgs s__law_shuffled) (defBody s__law_shuffled) (defScope s__law_shuffled) .none kV18 dc18 pm18 y18 cd18 ct18), z18⟩)
    (c18 : PySem.W.codeIn K cd18 "_law_shuffled" = true) (k18 : PySem.W.keepIn K (.ref u18) = true)
    {u19 : Addr} {x19 y19 : Option Addr} {z19 : Array (Option Value)} {oc19 kV19 dc19 pm19 cd19 ct19 : Value}
    (a19 : PySem.W.nsIn K mainGlobals "_law_is" = some (some (.ref u19)))
    (l19 : K.lookup u19 = some ⟨oc19, x19, .func (PySem.W.fnOf "_law_is" "_law_is" (defArgs s__law_is) (defBody s__law_is) (defScope s__law_is) .none kV19 dc19 pm19 y19 cd19 ct19), z19⟩)
    (c19 : PySem.W.codeIn K cd19 "_law_is" = true) (k19 : PySem.W.keepIn K (.ref u19) = true)
    {u20 : Addr} {x20 y20 : Option Addr} {z20 : Array (Option Value)} {oc20 kV20 dc20 pm20 cd20 ct20 : Value}
    (a20 : PySem.W.nsIn K mainGlobals "_law_drawn_word" = some (some (.ref u20)))
    (l20 : K.lookup u20 = some ⟨oc20, x20, .func (PySem.W.fnOf "_law_drawn_word" "_law_drawn_word" (defArgs s__law_drawn_word) (defBody s__law_drawn_word) (defScope s__law_drawn_word) .none kV20 dc20 pm20 y20 cd20 ct20), z20⟩)
    (c20 : PySem.W.codeIn K cd20 "_law_drawn_word" = true) (k20 : PySem.W.keepIn K (.ref u20) = true)
    {u21 : Addr} {x21 y21 : Option Addr} {z21 : Array (Option Value)} {oc21 kV21 dc21 pm21 cd21 ct21 : Value}
    (a21 : PySem.W.nsIn K mainGlobals "_law_power" = some (some (.ref u21)))
    (l21 : K.lookup u21 = some ⟨oc21, x21, .func (PySem.W.fnOf "_law_power" "_law_power" (defArgs s__law_power) (defBody s__law_power) (defScope s__law_power) .none kV21 dc21 pm21 y21 cd21 ct21), z21⟩)
    (c21 : PySem.W.codeIn K cd21 "_law_power" = true) (k21 : PySem.W.keepIn K (.ref u21) = true)
    {u22 : Addr} {x22 y22 : Option Addr} {z22 : Array (Option Value)} {oc22 kV22 dc22 pm22 cd22 ct22 : Value}
    (a22 : PySem.W.nsIn K mainGlobals "_law_shorter" = some (some (.ref u22)))
    (l22 : K.lookup u22 = some ⟨oc22, x22, .func (PySem.W.fnOf "_law_shorter" "_law_shorter" (defArgs s__law_shorter) (defBody s__law_shorter) (defScope s__law_shorter) .none kV22 dc22 pm22 y22 cd22 ct22), z22⟩)
    (c22 : PySem.W.codeIn K cd22 "_law_shorter" = true) (k22 : PySem.W.keepIn K (.ref u22) = true)
    {u23 : Addr} {x23 y23 : Option Addr} {z23 : Array (Option Value)} {oc23 kV23 dc23 pm23 cd23 ct23 : Value}
    (a23 : PySem.W.nsIn K mainGlobals "_law_worth" = some (some (.ref u23)))
    (l23 : K.lookup u23 = some ⟨oc23, x23, .func (PySem.W.fnOf "_law_worth" "_law_worth" (defArgs s__law_worth) (defBody s__law_worth) (defScope s__law_worth) .none kV23 dc23 pm23 y23 cd23 ct23), z23⟩)
    (c23 : PySem.W.codeIn K cd23 "_law_worth" = true) (k23 : PySem.W.keepIn K (.ref u23) = true)
    {u24 : Addr} {x24 y24 : Option Addr} {z24 : Array (Option Value)} {oc24 kV24 dc24 pm24 cd24 ct24 : Value}
    (a24 : PySem.W.nsIn K mainGlobals "_law_digits" = some (some (.ref u24)))
    (l24 : K.lookup u24 = some ⟨oc24, x24, .func (PySem.W.fnOf "_law_digits" "_law_digits" (defArgs s__law_digits) (defBody s__law_digits) (defScope s__law_digits) .none kV24 dc24 pm24 y24 cd24 ct24), z24⟩)
    (c24 : PySem.W.codeIn K cd24 "_law_digits" = true) (k24 : PySem.W.keepIn K (.ref u24) = true)
    {u25 : Addr} {x25 y25 : Option Addr} {z25 : Array (Option Value)} {oc25 kV25 dc25 pm25 cd25 ct25 : Value}
    (a25 : PySem.W.nsIn K mainGlobals "law" = some (some (.ref u25)))
    (l25 : K.lookup u25 = some ⟨oc25, x25, .func (PySem.W.fnOf "law" "law" (defArgs s_law) (defBody s_law) (defScope s_law) .none kV25 dc25 pm25 y25 cd25 ct25), z25⟩)
    (c25 : PySem.W.codeIn K cd25 "law" = true) (k25 : PySem.W.keepIn K (.ref u25) = true)
    (n0 : PySem.W.nsIn K mainGlobals "isinstance" = some none)
    (n1 : PySem.W.nsIn K mainGlobals "int" = some none)
    (n2 : PySem.W.nsIn K mainGlobals "bool" = some none)
    (n3 : PySem.W.nsIn K mainGlobals "all" = some none)
    (n4 : PySem.W.nsIn K mainGlobals "str" = some none)
    (n5 : PySem.W.nsIn K mainGlobals "len" = some none)
    (n6 : PySem.W.nsIn K mainGlobals "range" = some none)
    (n7 : PySem.W.nsIn K mainGlobals "sorted" = some none)
    (n8 : PySem.W.nsIn K mainGlobals "tuple" = some none)
    (n9 : PySem.W.nsIn K mainGlobals "list" = some none)
    (n10 : PySem.W.nsIn K mainGlobals "sum" = some none)
    (n11 : PySem.W.nsIn K mainGlobals "zip" = some none)
    {t0 : Tok} (vc0 : PySem.W.nsIn K mainGlobals "MOST_SIGNS" = some (some (.int 5 t0)))
    {t1 : Tok} (vc1 : PySem.W.nsIn K mainGlobals "LETTERS" = some (some (.str "abcdefghijklmnopqrstuvwxyz" t1)))
    {t2 : Tok} (vc2 : PySem.W.nsIn K mainGlobals "MOST_WORD" = some (some (.int 1000 t2)))
    {t3 : Tok} (vc3 : PySem.W.nsIn K mainGlobals "MOST_WORDS" = some (some (.int 20000 t3)))
    {t4 : Tok} (vc4 : PySem.W.nsIn K mainGlobals "MOST_LENGTH" = some (some (.int 20 t4)))
    {t5 : Tok} (vc5 : PySem.W.nsIn K mainGlobals "MOST_PLACE" = some (some (.int 1000000000 t5)))
    : ∃ fd : FuncData, (∀ (s : Shared) (v : Value), BindsTo s fd ⟨[v], []⟩ [("script", v)]) ∧ ∀ base : Heap, K.In base → base.Ns mainGlobals mg → FnOk l.prog w K mg base CX0 5 fa fd ["script"] (spLaw K) := by
  have e := hfa.symm.trans (PySem.W.mg_of X N a25)
  cases e
  have T : Tx mg := ⟨PySem.W.mg_none_of X N n0, PySem.W.mg_none_of X N n1, PySem.W.mg_none_of X N n2, PySem.W.mg_none_of X N n3, PySem.W.mg_none_of X N n4, PySem.W.mg_none_of X N n5, PySem.W.mg_none_of X N n6, PySem.W.mg_none_of X N n7, PySem.W.mg_none_of X N n8, PySem.W.mg_none_of X N n9, PySem.W.mg_none_of X N n10, PySem.W.mg_none_of X N n11, ⟨_, PySem.W.mg_of X N vc0, ⟨_, rfl⟩⟩, ⟨_, PySem.W.mg_of X N vc1, ⟨_, rfl⟩⟩, ⟨_, PySem.W.mg_of X N vc2, ⟨_, rfl⟩⟩, ⟨_, PySem.W.mg_of X N vc3, ⟨_, rfl⟩⟩, ⟨_, PySem.W.mg_of X N vc4, ⟨_, rfl⟩⟩, ⟨_, PySem.W.mg_of X N vc5, ⟨_, rfl⟩⟩⟩
  refine ⟨PySem.W.fnOf "law" "law" (defArgs s_law) (defBody s_law) (defScope s_law) .none kV25 dc25 pm25 y25 cd25 ct25, fun s v => .of_eq rfl, fun base _ _ => all_ok T
    ⟨PySem.W.mg_of X N a0, fun_mk (st := s_is_whole) l0 c0 k0⟩
    ⟨PySem.W.mg_of X N a1, fun_mk (st := s_is_index) l1 c1 k1⟩
    ⟨PySem.W.mg_of X N a2, fun_mk (st := s_are_signs) l2 c2 k2⟩
    ⟨PySem.W.mg_of X N a3, fun_mk (st := s_need_signs) l3 c3 k3⟩
    ⟨PySem.W.mg_of X N a4, fun_mk (st := s_is_word_by) l4 c4 k4⟩
    ⟨PySem.W.mg_of X N a5, fun_mk (st := s_is_word) l5 c5 k5⟩
    ⟨PySem.W.mg_of X N a6, fun_mk (st := s_need_word_of) l6 c6 k6⟩
    ⟨PySem.W.mg_of X N a7, fun_mk (st := s_words_count) l7 c7 k7⟩
    ⟨PySem.W.mg_of X N a8, fun_mk (st := s_words_by) l8 c8 k8⟩
    ⟨PySem.W.mg_of X N a9, fun_mk (st := s_need_length) l9 c9 k9⟩
    ⟨PySem.W.mg_of X N a10, fun_mk (st := s_small_words) l10 c10 k10⟩
    ⟨PySem.W.mg_of X N a11, fun_mk (st := s_place_of_word) l11 c11 k11⟩
    ⟨PySem.W.mg_of X N a12, fun_mk (st := s_word_at) l12 c12 k12⟩
    ⟨PySem.W.mg_of X N a13, fun_mk (st := s_turned_word) l13 c13 k13⟩
    ⟨PySem.W.mg_of X N a14, fun_mk (st := s_counts_of) l14 c14 k14⟩
    ⟨PySem.W.mg_of X N a15, fun_mk (st := s__law_pen) l15 c15 k15⟩
    ⟨PySem.W.mg_of X N a16, fun_mk (st := s__law_draw) l16 c16 k16⟩
    ⟨PySem.W.mg_of X N a17, fun_mk (st := s__law_pick) l17 c17 k17⟩
    ⟨PySem.W.mg_of X N a18, fun_mk (st := s__law_shuffled) l18 c18 k18⟩
    ⟨PySem.W.mg_of X N a19, fun_mk (st := s__law_is) l19 c19 k19⟩
    ⟨PySem.W.mg_of X N a20, fun_mk (st := s__law_drawn_word) l20 c20 k20⟩
    ⟨PySem.W.mg_of X N a21, fun_mk (st := s__law_power) l21 c21 k21⟩
    ⟨PySem.W.mg_of X N a22, fun_mk (st := s__law_shorter) l22 c22 k22⟩
    ⟨PySem.W.mg_of X N a23, fun_mk (st := s__law_worth) l23 c23 k23⟩
    ⟨PySem.W.mg_of X N a24, fun_mk (st := s__law_digits) l24 c24 k24⟩
    ⟨PySem.W.mg_of X N a25, fun_mk (st := s_law) l25 c25 k25⟩
  ⟩
theorem walk {l : PySem.W.OpenLaw} {q : Program} {loose : List Str} {XP : (Str → Option Value) → Heap → Prop} {YP : World → Heap → Prop} {d : DefRec} {K : Params → PySem.W.Frag} (hn : l.most = some 63) (hdf : d.params.defaults = [])
    (hY : ∀ (w : World) (h : Heap), YP w h → (K w.params).In h)
    (F : ∀ (w : World) (mg : Str → Option Value) (fa : Addr) (h : Heap), (K w.params).In h → h.Ns mainGlobals mg → mg d.name = some (.ref fa) →
      ∃ fd : FuncData, (∀ (s : Shared) (u : Value), BindsTo s fd ⟨[u], []⟩ [("script", u)]) ∧ ∀ base : Heap, (K w.params).In base → base.Ns mainGlobals mg → FnOk l.prog w (K w.params) mg base CX0 5 fa fd ["script"] (spLaw (K w.params))) :
    PySem.W.WalkO q loose XP YP l.row.toRowW d [] (fun f vs => PySem.call f vs) :=
  L2.walk_of (n := 63) (k := 5) (x := "script") (CX := fun _ => CX0) (sp := fun w => spLaw (K w.params)) hn (by decide) hdf ⟨rfl, by decide, by decide⟩ hY F (fun _ _ a ns hl _ hS => ⟨a, ns, rfl, hS, fun _ => rfl⟩) fun _ _ _ _ _ z => z
end Dl
open PySem PySem.W PyProof.Rows in
set_option maxRecDepth 100000 in
set_option maxHeartbeats 0 in
theorem PySem.Challenge.cw_seenparts_k00_words_as_numbers_holds : PySem.Challenge.rw_seenparts_k00_words_as_numbers.Holds := by
  w_on; o_law; k_head; (case hw => w_witness2)
  k_fill
  refine Dl.walk (l := PySem.Challenge.rw_seenparts_k00_words_as_numbers) rfl rfl (fun w h Y => PySem.W.kIn_of Y) ?F
  case F =>
    intro w mg fa h KX N hmg
    refine' Dl.all_mk KX N hmg ?a0 ?l0 ?c0 ?k0 ?a1 ?l1 ?c1 ?k1 ?a2 ?l2 ?c2 ?k2 ?a3 ?l3 ?c3 ?k3 ?a4 ?l4 ?c4 ?k4 ?a5 ?l5 ?c5 ?k5 ?a6 ?l6 ?c6 ?k6 ?a7 ?l7 ?c7 ?k7 ?a8 ?l8 ?c8 ?k8 ?a9 ?l9 ?c9 ?k9 ?a10 ?l10 ?c10 ?k10 ?a11 ?l11 ?c11 ?k11 ?a12 ?l12 ?c12 ?k12 ?a13 ?l13 ?c13 ?k13 ?a14 ?l14 ?c14 ?k14 ?a15 ?l15 ?c15 ?k15 ?a16 ?l16 ?c16 ?k16 ?a17 ?l17 ?c17 ?k17 ?a18 ?l18 ?c18 ?k18 ?a19 ?l19 ?c19 ?k19 ?a20 ?l20 ?c20 ?k20 ?a21 ?l21 ?c21 ?k21 ?a22 ?l22 ?c22 ?k22 ?a23 ?l23 ?c23 ?k23 ?a24 ?l24 ?c24 ?k24 ?a25 ?l25 ?c25 ?k25 ?n0 ?n1 ?n2 ?n3 ?n4 ?n5 ?n6 ?n7 ?n8 ?n9 ?n10 ?n11 ?vc0 ?vc1 ?vc2 ?vc3 ?vc4 ?vc5
    (case a0 => k_is)
    (case l0 => k_is)
    (case c0 => k_is)
    (case k0 => k_is)
    (case a1 => k_is)
    (case l1 => k_is)
    (case c1 => k_is)
    (case k1 => k_is)
    (case a2 => k_is)
    (case l2 => k_is)
    (case c2 => k_is)
    (case k2 => k_is)
    (case a3 => k_is)
    (case l3 => k_is)
    (case c3 => k_is)
    (case k3 => k_is)
    (case a4 => k_is)
    (case l4 => k_is)
    (case c4 => k_is)
    (case k4 => k_is)
    (case a5 => k_is)
    (case l5 => k_is)
    (case c5 => k_is)
    (case k5 => k_is)
    (case a6 => k_is)
    (case l6 => k_is)
    (case c6 => k_is)
    (case k6 => k_is)
    (case a7 => k_is)
    (case l7 => k_is)
    (case c7 => k_is)
    (case k7 => k_is)
    (case a8 => k_is)
    (case l8 => k_is)
    (case c8 => k_is)
    (case k8 => k_is)
    (case a9 => k_is)
    (case l9 => k_is)
    (case c9 => k_is)
    (case k9 => k_is)
    (case a10 => k_is)
    (case l10 => k_is)
    (case c10 => k_is)
    (case k10 => k_is)
    (case a11 => k_is)
    (case l11 => k_is)
    (case c11 => k_is)
    (case k11 => k_is)
    (case a12 => k_is)
    (case l12 => k_is)
    (case c12 => k_is)
    (case k12 => k_is)
    (case a13 => k_is)
    (case l13 => k_is)
    (case c13 => k_is)
    (case k13 => k_is)
    (case a14 => k_is)
    (case l14 => k_is)
    (case c14 => k_is)
    (case k14 => k_is)
    (case a15 => k_is)
    (case l15 => k_is)
    (case c15 => k_is)
    (case k15 => k_is)
    (case a16 => k_is)
    (case l16 => k_is)
    (case c16 => k_is)
    (case k16 => k_is)
    (case a17 => k_is)
    (case l17 => k_is)
    (case c17 => k_is)
    (case k17 => k_is)
    (case a18 => k_is)
    (case l18 => k_is)
    (case c18 => k_is)
    (case k18 => k_is)
    (case a19 => k_is)
    (case l19 => k_is)
    (case c19 => k_is)
    (case k19 => k_is)
    (case a20 => k_is)
    (case l20 => k_is)
    (case c20 => k_is)
    (case k20 => k_is)
    (case a21 => k_is)
    (case l21 => k_is)
    (case c21 => k_is)
    (case k21 => k_is)
    (case a22 => k_is)
    (case l22 => k_is)
    (case c22 => k_is)
    (case k22 => k_is)
    (case a23 => k_is)
    (case l23 => k_is)
    (case c23 => k_is)
    (case k23 => k_is)
    (case a24 => k_is)
    (case l24 => k_is)
    (case c24 => k_is)
    (case k24 => k_is)
    (case a25 => k_is)
    (case l25 => k_is)
    (case c25 => k_is)
    (case k25 => k_is)
    (case n0 => k_is)
    (case n1 => k_is)
    (case n2 => k_is)
    (case n3 => k_is)
    (case n4 => k_is)
    (case n5 => k_is)
    (case n6 => k_is)
    (case n7 => k_is)
    (case n8 => k_is)
    (case n9 => k_is)
    (case n10 => k_is)
    (case n11 => k_is)
    (case vc0 => k_is)
    (case vc1 => k_is)
    (case vc2 => k_is)
    (case vc3 => k_is)
    (case vc4 => k_is)
    (case vc5 => k_is)
#print axioms PySem.Challenge.cw_seenparts_k00_words_as_numbers_holds
