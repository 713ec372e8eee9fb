import PyProof.Rows.All
import Wide.All
import OpenK.AllK
import Wide.FinOn
import HandS.ForMost
import HandS.ForExc
import HandS.Flow
import HandS.Style
import HandS.CallSlots
import HandS.TupAny
import HandS.TupMul
import HandS.Codes
import PyProof.StrOps2
import HandS.Walk
import HandS.Zip
import HandS.ExcOwn
import HandS.IsInst
import HandS.Ends
import KE.KStateDown
import HandS.More
import HandS.Words
import HandS.WordsExc
import HandS.Defaults
import HandS.Head0
import HandS.Head1
import HandS.Head2
import HandS.HeadEnd
import HandS.HeadHook1
import HandS.HeadHook2
import PySem.Challenge.RW_throughviews_k07_whole_tokens_of_any_tex
set_option Elab.async false
set_option linter.all false
set_option maxRecDepth 100000
set_option maxHeartbeats 4000000
/-! Dy: plain data beside the heap. A def's body is read as a function from slots of data to slots of data. -/
namespace Dy
open PySem PySem.Spec PyProof.Rows L2

/-! ### data -/
inductive D where
  | non | bl (b : Bool) | int (i : Int) | str (s : List Nat) | tup (xs : List D) | lst (xs : List D)
  deriving Inhabited

mutual
def D.py : D → PyData
  | .non => .none
  | .bl b => .bool b
  | .int i => .int i
  | .str s => .str ⟨s.toArray⟩
  | .tup xs => .tuple (pyL xs)
  | .lst xs => .list (pyL xs)
def pyL : List D → List PyData
  | [] => []
  | x :: xs => x.py :: pyL xs
end
mutual
/-- no list stands in it -/
def D.flat : D → Bool
  | .lst _ => false
  | .tup xs => flatL xs
  | _ => true
def flatL : List D → Bool
  | [] => true
  | x :: xs => x.flat && flatL xs
end

/-- a text of at most a line, of code points -/
def sOk (s : List Nat) : Prop := s.length ≤ sizeLine ∧ ∀ c ∈ s, c < 0x110000

mutual
/-- v stands for the datum d; ow: who owns a list (0: all may read it, nobody changes it) -/
inductive Rp (K : PySem.W.Frag) (H : Hp) (ow : Addr → Nat) : V → D → Prop
  | non : Rp K H ow .non .non
  | bl (b : Bool) : Rp K H ow (.bl b) (.bl b)
  | int (i : Int) : Rp K H ow (.int i) (.int i)
  | str {s : List Nat} : sOk s → Rp K H ow (.str ⟨s.toArray⟩) (.str s)
  | tup {a : Addr} {xs : List V} {ds : List D} : SqT K H a xs → RpL K H ow xs ds → Rp K H ow (.ref a) (.tup ds)
  | lst {a : Addr} {xs : List V} {ds : List D} : ow a = 0 → H a = some (.lst xs) → RpL K H ow xs ds → Rp K H ow (.ref a) (.lst ds)
inductive RpL (K : PySem.W.Frag) (H : Hp) (ow : Addr → Nat) : List V → List D → Prop
  | nil : RpL K H ow [] []
  | cons {v : V} {vs : List V} {d : D} {ds : List D} : Rp K H ow v d → RpL K H ow vs ds → RpL K H ow (v :: vs) (d :: ds)
end

/-- from a heap to a later one, within a def: what nobody owns stands as it stood; an: the slots whose lists are the caller's -/
structure Stp (an : List Nat) (H H' : Hp) (ow ow' : Addr → Nat) : Prop where
  keep : ∀ a o, H a = some o → ow a ≤ 1 → H' a = some o ∧ ow' a = ow a
  tup : ∀ a xs, Rd H a (.tup xs) → Rd H' a (.tup xs)
  frz : ∀ a ob u, H a = some (.frz ob u) → H' a = some (.frz ob u)
  anc : ∀ a o, H a = some o → 2 ≤ ow a → ow a - 2 ∈ an → ow' a = ow a
  here : ∀ a o, H a = some o → ∃ o', H' a = some o'
theorem Stp.refl {an : List Nat} {H : Hp} {ow : Addr → Nat} : Stp an H H ow ow := ⟨fun _ _ h _ => ⟨h, rfl⟩, fun _ _ h => h, fun _ _ _ h => h, fun _ _ _ _ _ => rfl, fun _ o h => ⟨o, h⟩⟩
theorem Stp.trans {an : List Nat} {H H1 H2 : Hp} {ow ow1 ow2 : Addr → Nat} (a : Stp an H H1 ow ow1) (b : Stp an H1 H2 ow1 ow2) : Stp an H H2 ow ow2 where
  keep := fun x o h l => by
    obtain ⟨h1, e1⟩ := a.keep x o h l
    obtain ⟨h2, e2⟩ := b.keep x o h1 (by rw [e1]; exact l)
    exact ⟨h2, e2.trans e1⟩
  tup := fun x xs h => b.tup x xs (a.tup x xs h)
  frz := fun x ob u h => b.frz x ob u (a.frz x ob u h)
  anc := fun x o h l m => by
    have e1 := a.anc x o h l m
    obtain ⟨o1, h1⟩ := a.here x o h
    exact (b.anc x o1 h1 (by rw [e1]; exact l) (by rw [e1]; exact m)).trans e1
  here := fun x o h => by
    obtain ⟨o1, h1⟩ := a.here x o h
    exact b.here x o1 h1

theorem Stp.free {an : List Nat} {H H' : Hp} {ow ow' : Addr → Nat} (s : Stp an H H' ow ow') {p : Addr} (h : H' p = none) : H p = none := by
  cases e : H p with
  | none => rfl
  | some o =>
    obtain ⟨o', q⟩ := s.here p o e
    rw [h] at q
    cases q

/-- all that stood stands, owned as it was -/
def Grow (H H' : Hp) (ow ow' : Addr → Nat) : Prop := ∀ a o, H a = some o → H' a = some o ∧ ow' a = ow a
theorem Grow.refl {H : Hp} {ow : Addr → Nat} : Grow H H ow ow := fun _ _ h => ⟨h, rfl⟩
theorem Grow.trans {H H1 H2 : Hp} {ow ow1 ow2 : Addr → Nat} (a : Grow H H1 ow ow1) (b : Grow H1 H2 ow1 ow2) : Grow H H2 ow ow2 := fun x o h =>
  ⟨(b x o (a x o h).1).1, (b x o (a x o h).1).2.trans (a x o h).2⟩
theorem rd_same {H H' : Hp} {a : Addr} {u : HO} (s : Same H H') (h : Rd H a u) : Rd H' a u := by
  rcases h with h | ⟨o, h⟩
  · exact .inl (s _ _ h)
  · exact .inr ⟨o, s _ _ h⟩
theorem Grow.same {H H' : Hp} {ow ow' : Addr → Nat} (g : Grow H H' ow ow') : Same H H' := fun a o h => (g a o h).1
theorem Grow.stp {an : List Nat} {H H' : Hp} {ow ow' : Addr → Nat} (g : Grow H H' ow ow') : Stp an H H' ow ow' :=
  ⟨fun a o h _ => g a o h, fun a xs h => rd_same g.same h, fun a _ _ h => g.same a _ h, fun a o h _ _ => (g a o h).2, fun a o h => ⟨o, (g a o h).1⟩⟩
/-- fresh places are owned by n -/
def own0 (H : Hp) (ow : Addr → Nat) (n : Nat) : Addr → Nat := fun a => match H a with
  | none => n
  | some _ => ow a
theorem own0_some {H : Hp} {ow : Addr → Nat} {n : Nat} {a : Addr} {o : HO} (h : H a = some o) : own0 H ow n a = ow a := by
  unfold own0
  rw [h]
theorem own0_none {H : Hp} {ow : Addr → Nat} {n : Nat} {a : Addr} (h : H a = none) : own0 H ow n a = n := by
  unfold own0
  rw [h]
theorem Grow.of {H H' : Hp} {ow : Addr → Nat} {n : Nat} (s : Same H H') : Grow H H' ow (own0 H ow n) := fun a o h => ⟨s a o h, own0_some h⟩
theorem same_new {H : Hp} {p : Addr} {o : HO} (h : H p = none) : Same H (upd H p o) := fun a u e => by
  rw [upd_ne (ne_of_none e h)]
  exact e
theorem sqT_to {K : PySem.W.Frag} {H H' : Hp} {a : Addr} {xs : List V} (t : Rd H a (.tup xs) → Rd H' a (.tup xs)) (h : SqT K H a xs) : SqT K H' a xs := by
  rcases h with h | h
  · exact .inl (t h)
  · exact .inr h
section
variable {K : PySem.W.Frag} {an : List Nat} {H H' : Hp} {ow ow' : Addr → Nat}
mutual
theorem Rp.stp (s : Stp an H H' ow ow') : ∀ {d : D} {v : V}, Rp K H ow v d → Rp K H' ow' v d
  | .non, _, h => by
    cases h
    exact .non
  | .bl b, _, h => by
    cases h
    exact .bl b
  | .int i, _, h => by
    cases h
    exact .int i
  | .str x, _, h => by
    cases h with
    | str q => exact .str q
  | .tup ds, _, h => by
    cases h with
    | tup hs hl => exact .tup (sqT_to (s.tup _ _) hs) (RpL.stp s hl)
  | .lst ds, _, h => by
    cases h with
    | lst e hs hl =>
      obtain ⟨h1, h2⟩ := s.keep _ _ hs (by rw [e]; decide)
      exact .lst (h2.trans e) h1 (RpL.stp s hl)
theorem RpL.stp (s : Stp an H H' ow ow') : ∀ {ds : List D} {vs : List V}, RpL K H ow vs ds → RpL K H' ow' vs ds
  | [], _, h => by
    cases h
    exact .nil
  | d :: ds, _, h => by
    cases h with
    | cons h1 h2 => exact .cons (Rp.stp s h1) (RpL.stp s h2)
end
/-- only places that nobody's datum tells change their owner -/
theorem Stp.own (h : ∀ a o, H a = some o → ow a ≤ 1 → ow' a = ow a) (h2 : ∀ a o, H a = some o → 2 ≤ ow a → ow a - 2 ∈ an → ow' a = ow a) : Stp an H H ow ow' :=
  ⟨fun a o e l => ⟨e, h a o e l⟩, fun _ _ e => e, fun _ _ _ e => e, h2, fun _ o e => ⟨o, e⟩⟩
theorem Rp.grow (g : Grow H H' ow ow') {d : D} {v : V} (h : Rp K H ow v d) : Rp K H' ow' v d := Rp.stp (an := []) g.stp h
theorem RpL.grow (g : Grow H H' ow ow') {ds : List D} {vs : List V} (h : RpL K H ow vs ds) : RpL K H' ow' vs ds := RpL.stp (an := []) g.stp h
/-- a datum without lists does not hang on owners -/
theorem bflat {a b : Bool} (h : (a && b) = true) : a = true ∧ b = true := by simpa using h
mutual
theorem Rp.free (t : ∀ a xs, Rd H a (.tup xs) → Rd H' a (.tup xs)) : ∀ {d : D} {v : V}, d.flat = true → Rp K H ow v d → Rp K H' ow' v d
  | .non, _, _, h => by
    cases h
    exact .non
  | .bl b, _, _, h => by
    cases h
    exact .bl b
  | .int i, _, _, h => by
    cases h
    exact .int i
  | .str x, _, _, h => by
    cases h with
    | str q => exact .str q
  | .tup ds, _, f, h => by
    cases h with
    | tup hs hl => exact .tup (sqT_to (t _ _) hs) (RpL.free t (by simpa [D.flat] using f) hl)
  | .lst ds, _, f, _ => by simp [D.flat] at f
theorem RpL.free (t : ∀ a xs, Rd H a (.tup xs) → Rd H' a (.tup xs)) : ∀ {ds : List D} {vs : List V}, flatL ds = true → RpL K H ow vs ds → RpL K H' ow' vs ds
  | [], _, _, h => by
    cases h
    exact .nil
  | d :: ds, _, f, h => by
    cases h with
    | cons h1 h2 =>
      have f' : (d.flat && flatL ds) = true := by simpa [flatL] using f
      exact .cons (Rp.free t (bflat f').1 h1) (RpL.free t (bflat f').2 h2)
end
theorem RpL.length : ∀ {ds : List D} {vs : List V}, RpL K H ow vs ds → vs.length = ds.length
  | [], _, h => by
    cases h
    rfl
  | d :: ds, _, h => by
    cases h with
    | cons h1 h2 => simp [RpL.length h2]
theorem RpL.get : ∀ {ds : List D} {vs : List V} {i : Nat} {d : D}, RpL K H ow vs ds → ds[i]? = some d → ∃ v, vs[i]? = some v ∧ Rp K H ow v d
  | [], _, _, _, _, e => by simp at e
  | d :: ds, _, 0, _, h, e => by
    cases h with
    | cons h1 h2 =>
      simp at e
      subst e
      exact ⟨_, rfl, h1⟩
  | d :: ds, _, i + 1, _, h, e => by
    cases h with
    | cons h1 h2 =>
      obtain ⟨v, q1, q2⟩ := RpL.get h2 (by simpa using e)
      exact ⟨v, by simpa using q1, q2⟩
theorem RpL.append : ∀ {ds es : List D} {vs us : List V}, RpL K H ow vs ds → RpL K H ow us es → RpL K H ow (vs ++ us) (ds ++ es)
  | [], _, _, _, h, k => by
    cases h
    exact k
  | d :: ds, _, _, _, h, k => by
    cases h with
    | cons h1 h2 => exact .cons h1 (RpL.append h2 k)
theorem RpL.take : ∀ {ds : List D} {vs : List V} (n : Nat), RpL K H ow vs ds → RpL K H ow (vs.take n) (ds.take n)
  | [], _, n, h => by
    cases h
    simp
    exact .nil
  | d :: ds, _, 0, h => by
    cases h
    exact .nil
  | d :: ds, _, n + 1, h => by
    cases h with
    | cons h1 h2 => exact .cons h1 (RpL.take n h2)
theorem RpL.drop : ∀ {ds : List D} {vs : List V} (n : Nat), RpL K H ow vs ds → RpL K H ow (vs.drop n) (ds.drop n)
  | [], _, n, h => by
    cases h
    simp
    exact .nil
  | d :: ds, _, 0, h => h
  | d :: ds, _, n + 1, h => by
    cases h with
    | cons h1 h2 => exact RpL.drop n h2
theorem RpL.eraseIdx : ∀ {ds : List D} {vs : List V} (n : Nat), RpL K H ow vs ds → RpL K H ow (vs.eraseIdx n) (ds.eraseIdx n)
  | [], _, n, h => by
    cases h
    exact .nil
  | d :: ds, _, 0, h => by
    cases h with
    | cons h1 h2 => exact h2
  | d :: ds, _, n + 1, h => by
    cases h with
    | cons h1 h2 => exact .cons h1 (RpL.eraseIdx n h2)
theorem RpL.one {v : V} {d : D} (h : Rp K H ow v d) : RpL K H ow [v] [d] := .cons h .nil
theorem RpL.reverse : ∀ {ds : List D} {vs : List V}, RpL K H ow vs ds → RpL K H ow vs.reverse ds.reverse
  | [], _, h => by
    cases h
    exact .nil
  | d :: ds, _, h => by
    cases h with
    | cons h1 h2 =>
      rw [List.reverse_cons, List.reverse_cons]
      exact (RpL.reverse h2).append (.one h1)
theorem RpL.set {v : V} {d : D} (r : Rp K H ow v d) : ∀ {ds : List D} {vs : List V} (n : Nat), RpL K H ow vs ds → RpL K H ow (vs.set n v) (ds.set n d)
  | [], _, n, h => by
    cases h
    exact .nil
  | _ :: ds, _, 0, h => by
    cases h with
    | cons h1 h2 => exact .cons r h2
  | _ :: ds, _, n + 1, h => by
    cases h with
    | cons h1 h2 => exact .cons h1 (RpL.set r n h2)
end
end Dy

namespace Dy
open PySem PySem.Spec PyProof.Rows L2

/-! ### slots -/
inductive Sl where
  /-- no value -/
  | un
  /-- a datum -/
  | val (d : D)
  /-- a list that this slot alone knows -/
  | own (xs : List D)
  /-- a source of draws, that this slot alone knows -/
  | deal (cs : List Int) (b : Int)
  /-- the law's script -/
  | scr (ns : List Int)
  deriving Inhabited
abbrev Ev := List Sl

def SlIs (K : PySem.W.Frag) (H : Hp) (ow : Addr → Nat) (i : Nat) (o : Option V) : Sl → Prop
  | .un => True
  | .val d => ∃ v, o = some v ∧ Rp K H ow v d
  | .own xs => ∃ p vs, o = some (.ref p) ∧ H p = some (.lst vs) ∧ ow p = i + 2 ∧ RpL K H ow vs xs
  | .deal cs b => ∃ p q, o = some (.ref p) ∧ H p = some (.lst [.ref q, .int b]) ∧ H q = some (.lst (cs.map V.int)) ∧ p ≠ q ∧ ow p = i + 2 ∧ ow q = i + 2
  | .scr ns => ∃ a, o = some (.ref a) ∧ ((∃ ob, H a = some (.frz ob (.lst (ns.map V.int)))) ∨ ∀ H1, SqL K H1 a (ns.map V.int))
structure SR (K : PySem.W.Frag) (H : Hp) (ow : Addr → Nat) (σ : L2.St) (ρ : Ev) : Prop where
  len : σ.length = ρ.length
  get : ∀ i s, ρ[i]? = some s → SlIs K H ow i (σ[i]?).join s

section
variable {K : PySem.W.Frag} {an : List Nat} {H H' : Hp} {ow ow' : Addr → Nat} {σ : L2.St} {ρ : Ev}
theorem SlIs.grow (g : Grow H H' ow ow') {i : Nat} {o : Option V} : ∀ {s : Sl}, SlIs K H ow i o s → SlIs K H' ow' i o s
  | .un, _ => trivial
  | .val d, h => by
    obtain ⟨v, e, r⟩ := h
    exact ⟨v, e, r.grow g⟩
  | .own xs, h => by
    obtain ⟨p, vs, e, hp, hw, r⟩ := h
    exact ⟨p, vs, e, (g _ _ hp).1, (g _ _ hp).2.trans hw, r.grow g⟩
  | .deal cs b, h => by
    obtain ⟨p, q, e, hp, hq, n, w1, w2⟩ := h
    exact ⟨p, q, e, (g _ _ hp).1, (g _ _ hq).1, n, (g _ _ hp).2.trans w1, (g _ _ hq).2.trans w2⟩
  | .scr ns, h => by
    obtain ⟨a, e, hs⟩ := h
    refine ⟨a, e, ?_⟩
    rcases hs with ⟨ob, hs⟩ | hs
    · exact .inl ⟨ob, (g _ _ hs).1⟩
    · exact .inr hs
theorem SR.grow (g : Grow H H' ow ow') (h : SR K H ow σ ρ) : SR K H' ow' σ ρ := ⟨h.len, fun i s e => (h.get i s e).grow g⟩
/-- a slot gets a datum -/
theorem SR.setVal {i : Nat} {v : V} {d : D} (h : SR K H ow σ ρ) (r : Rp K H ow v d) : SR K H ow (σ.set i (some v)) (ρ.set i (.val d)) := by
  refine ⟨by simp [h.len], fun j s e => ?_⟩
  by_cases hj : i = j
  · subst hj
    by_cases hi : i < ρ.length
    · rw [List.getElem?_set_self hi] at e
      cases e
      rw [List.getElem?_set_self (by rw [h.len]; exact hi)]
      exact ⟨v, rfl, r⟩
    · rw [List.getElem?_eq_none (by simpa using hi)] at e
      cases e
  · rw [List.getElem?_set_ne hj] at e ⊢
    exact h.get j s e
theorem SR.setUn {i : Nat} {o : Option V} (h : SR K H ow σ ρ) : SR K H ow (σ.set i o) (ρ.set i .un) := by
  refine ⟨by simp [h.len], fun j s e => ?_⟩
  by_cases hj : i = j
  · subst hj
    by_cases hi : i < ρ.length
    · rw [List.getElem?_set_self hi] at e
      cases e
      trivial
    · rw [List.getElem?_eq_none (by simpa using hi)] at e
      cases e
  · rw [List.getElem?_set_ne hj] at e ⊢
    exact h.get j s e
end

/-! ### results -/
inductive Res (α : Type) where
  | ok (a : α) (ρ : Ev)
  | exc (c : Nat) (d : D) (ρ : Ev)
  | stuck
def M (α : Type) : Type := Ev → Res α
def M.ret {α : Type} (a : α) : M α := fun ρ => .ok a ρ
def M.bind {α β : Type} (t : M α) (f : α → M β) : M β := fun ρ => match t ρ with
  | .ok a ρ' => f a ρ'
  | .exc c d ρ' => .exc c d ρ'
  | .stuck => .stuck
def M.lift {α : Type} (o : Option α) : M α := fun ρ => match o with
  | some a => .ok a ρ
  | none => .stuck
def M.fail {α : Type} : M α := fun _ => .stuck
theorem M.bind_ret {α β : Type} (a : α) (f : α → M β) (ρ : Ev) : (M.ret a).bind f ρ = f a ρ := rfl

/-- an operand: a datum, or a slot that is read when the operands are there -/
inductive Op where
  | sh (d : D)
  | nm (i : Nat)
def slD : Option Sl → Option D
  | some (.val d) => some d
  | some (.own xs) => some (.lst xs)
  | _ => none
def rdSl (i : Nat) : M D := fun ρ => match slD ρ[i]? with
  | some d => .ok d ρ
  | none => .stuck
def rdO : Op → M D
  | .sh d => M.ret d
  | .nm i => rdSl i
def rdOs : List Op → M (List D)
  | [] => M.ret []
  | o :: os => (rdO o).bind fun d => (rdOs os).bind fun ds => M.ret (d :: ds)
/-- a slot's value taken along: its list is nobody's own from now on -/
def tkSl (an : List Nat) (i : Nat) : M D := fun ρ => match ρ[i]? with
  | some (.val d) => .ok d ρ
  | some (.own xs) => if i ∈ an then .stuck else .ok (.lst xs) (ρ.set i (.val (.lst xs)))
  | _ => .stuck
inductive Out where
  | nx | rt (d : D) | bk | ct

/-! ### what is wanted -/
/-- where the code runs: the context, what is wished of exceptions, the callers' slots, the classes of exceptions -/
structure Cc where
  /-- the contexts in which it may run: a def's one, or all of a block's -/
  ι : Type
  X : ι → Cx
  K : PySem.W.Frag
  W : WX
  an : List Nat
  xc : Nat → Value → Prop

def AnEq (an : List Nat) (σ σ' : L2.St) : Prop := ∀ i ∈ an, σ'[i]? = σ[i]?
theorem AnEq.refl {an : List Nat} {σ : L2.St} : AnEq an σ σ := fun _ _ => rfl
theorem AnEq.trans {an : List Nat} {σ σ1 σ2 : L2.St} (a : AnEq an σ σ1) (b : AnEq an σ1 σ2) : AnEq an σ σ2 := fun i h => (b i h).trans (a i h)
theorem AnEq.set {an : List Nat} {σ : L2.St} {i : Nat} {o : Option V} (h : i ∉ an) : AnEq an σ (σ.set i o) := fun j hj => List.getElem?_set_ne fun e => h (by rw [e]; exact hj)

def Wish (C : Cc) (σ : L2.St) (H : Hp) (ow : Addr → Nat) (c : Nat) (d : D) (ρ' : Ev) : Prop := ∀ cls dx σ' H' ow' v, Stp C.an H H' ow ow' → AnEq C.an σ σ' → SR C.K H' ow' σ' ρ' → C.xc c cls →
  H' dx = some (.xd [("at", v)]) → Rp C.K H' ow' v d → C.W cls (some dx) σ' H'
/-- of a result: where it is there, G of it, wherever the heap has come to -/
def End {α : Type} (C : Cc) (σ : L2.St) (H : Hp) (ow : Addr → Nat) (r : Res α) (G : α → Ev → L2.St → Hp → (Addr → Nat) → Prop) : Prop := match r with
  | .ok a ρ' => ∀ σ' H' ow', Stp C.an H H' ow ow' → AnEq C.an σ σ' → SR C.K H' ow' σ' ρ' → G a ρ' σ' H' ow'
  | .exc c d ρ' => Wish C σ H ow c d ρ'
  | .stuck => False
/-- .. for an expression: the slots stand -/
def EndE {α : Type} (C : Cc) (σ : L2.St) (H : Hp) (ow : Addr → Nat) (r : Res α) (G : α → Ev → Hp → (Addr → Nat) → Prop) : Prop := match r with
  | .ok a ρ' => ∀ H' ow', Stp C.an H H' ow ow' → SR C.K H' ow' σ ρ' → G a ρ' H' ow'
  | .exc c d ρ' => Wish C σ H ow c d ρ'
  | .stuck => False
section
variable {α β : Type} {C : Cc} {σ σ1 : L2.St} {H H1 : Hp} {ow ow1 : Addr → Nat} {ρ : Ev}
theorem Wish.from {c : Nat} {d : D} {ρ' : Ev} (s : Stp C.an H H1 ow ow1) (q : AnEq C.an σ σ1) (h : Wish C σ H ow c d ρ') : Wish C σ1 H1 ow1 c d ρ' :=
  fun cls dx σ' H' ow' v s' q' => h cls dx σ' H' ow' v (s.trans s') (q.trans q')
theorem EndE.bind {t : M α} {f : α → M β} {G : β → Ev → Hp → (Addr → Nat) → Prop} (h : EndE C σ H ow (t.bind f ρ) G) : EndE C σ H ow (t ρ) fun a ρ1 H1 ow1 => EndE C σ H1 ow1 (f a ρ1) G := by
  unfold M.bind at h
  cases e : t ρ with
  | ok a ρ1 =>
    rw [e] at h
    intro H1 ow1 s sr
    have h : EndE C σ H ow (f a ρ1) G := h
    cases e2 : f a ρ1 with
    | ok b ρ2 =>
      rw [e2] at h
      exact fun H2 ow2 s2 sr2 => h H2 ow2 (s.trans s2) sr2
    | exc c d ρ2 =>
      rw [e2] at h
      exact Wish.from s .refl h
    | stuck =>
      rw [e2] at h
      exact h
  | exc c d ρ1 =>
    rw [e] at h
    exact h
  | stuck =>
    rw [e] at h
    exact h
theorem EndE.imp {r : Res α} {G G' : α → Ev → Hp → (Addr → Nat) → Prop} (h : EndE C σ H ow r G) (k : ∀ a ρ' H' ow', Stp C.an H H' ow ow' → SR C.K H' ow' σ ρ' → G a ρ' H' ow' → G' a ρ' H' ow') : EndE C σ H ow r G' := by
  cases r with
  | ok a ρ' => exact fun H' ow' s sr => k a ρ' H' ow' s sr (h H' ow' s sr)
  | exc c d ρ' => exact h
  | stuck => exact h
theorem EndE.lift {o : Option α} {G : α → Ev → Hp → (Addr → Nat) → Prop} (h : EndE C σ H ow (M.lift o ρ) G) : ∃ a, o = some a ∧ ∀ H' ow', Stp C.an H H' ow ow' → SR C.K H' ow' σ ρ → G a ρ H' ow' := by
  cases o with
  | none => exact h.elim
  | some a => exact ⟨a, rfl, h⟩
theorem End.bind {t : M α} {f : α → M β} {G : β → Ev → L2.St → Hp → (Addr → Nat) → Prop} (h : End C σ H ow (t.bind f ρ) G) : End C σ H ow (t ρ) fun a ρ1 σ1 H1 ow1 => End C σ1 H1 ow1 (f a ρ1) G := by
  unfold M.bind at h
  cases e : t ρ with
  | ok a ρ1 =>
    rw [e] at h
    intro σ1 H1 ow1 s q sr
    have h : End C σ H ow (f a ρ1) G := h
    cases e2 : f a ρ1 with
    | ok b ρ2 =>
      rw [e2] at h
      exact fun σ2 H2 ow2 s2 q2 sr2 => h σ2 H2 ow2 (s.trans s2) (q.trans q2) sr2
    | exc c d ρ2 =>
      rw [e2] at h
      exact Wish.from s q h
    | stuck =>
      rw [e2] at h
      exact h
  | exc c d ρ1 =>
    rw [e] at h
    exact h
  | stuck =>
    rw [e] at h
    exact h
/-- an expression within a statement -/
theorem End.bindE {t : M α} {f : α → M β} {G : β → Ev → L2.St → Hp → (Addr → Nat) → Prop} (h : End C σ H ow (t.bind f ρ) G) : EndE C σ H ow (t ρ) fun a ρ1 H1 ow1 => End C σ H1 ow1 (f a ρ1) G := by
  have h := h.bind
  cases e : t ρ with
  | ok a ρ1 =>
    rw [e] at h
    exact fun H1 ow1 s sr => h σ H1 ow1 s .refl sr
  | exc c d ρ1 =>
    rw [e] at h
    exact h
  | stuck =>
    rw [e] at h
    exact h
theorem End.imp {r : Res α} {G G' : α → Ev → L2.St → Hp → (Addr → Nat) → Prop} (h : End C σ H ow r G) (k : ∀ a ρ' σ' H' ow', Stp C.an H H' ow ow' → AnEq C.an σ σ' → SR C.K H' ow' σ' ρ' → G a ρ' σ' H' ow' → G' a ρ' σ' H' ow') : End C σ H ow r G' := by
  cases r with
  | ok a ρ' => exact fun σ' H' ow' s q sr => k a ρ' σ' H' ow' s q sr (h σ' H' ow' s q sr)
  | exc c d ρ' => exact h
  | stuck => exact h
theorem End.from {r : Res α} {G : α → Ev → L2.St → Hp → (Addr → Nat) → Prop} (s : Stp C.an H H1 ow ow1) (q : AnEq C.an σ σ1) (h : End C σ H ow r G) : End C σ1 H1 ow1 r G := by
  cases r with
  | ok a ρ' => exact fun σ' H' ow' s' q' sr => h σ' H' ow' (s.trans s') (q.trans q') sr
  | exc c d ρ' => exact Wish.from s q h
  | stuck => exact h
theorem EndE.from {r : Res α} {G : α → Ev → Hp → (Addr → Nat) → Prop} (s : Stp C.an H H1 ow ow1) (h : EndE C σ H ow r G) : EndE C σ H1 ow1 r G := by
  cases r with
  | ok a ρ' => exact fun H' ow' s' sr => h H' ow' (s.trans s') sr
  | exc c d ρ' => exact Wish.from s .refl h
  | stuck => exact h
end

/-! ### operands -/
def RO (K : PySem.W.Frag) (H : Hp) (ow : Addr → Nat) (σ : L2.St) (v : V) : Op → Prop
  | .sh d => Rp K H ow v d
  | .nm i => σ[i]? = some (some v)
inductive ROs (K : PySem.W.Frag) (H : Hp) (ow : Addr → Nat) (σ : L2.St) : List V → List Op → Prop
  | nil : ROs K H ow σ [] []
  | cons {v : V} {vs : List V} {o : Op} {os : List Op} : RO K H ow σ v o → ROs K H ow σ vs os → ROs K H ow σ (v :: vs) (o :: os)
/-- read for an operation: the list at its head may be a slot's own -/
def RpB (K : PySem.W.Frag) (H : Hp) (ow : Addr → Nat) (v : V) : D → Prop
  | .lst ds => ∃ a xs, v = .ref a ∧ H a = some (.lst xs) ∧ RpL K H ow xs ds
  | d => Rp K H ow v d
inductive RpBs (K : PySem.W.Frag) (H : Hp) (ow : Addr → Nat) : List V → List D → Prop
  | nil : RpBs K H ow [] []
  | cons {v : V} {vs : List V} {d : D} {ds : List D} : RpB K H ow v d → RpBs K H ow vs ds → RpBs K H ow (v :: vs) (d :: ds)
section
variable {K : PySem.W.Frag} {an : List Nat} {H H' : Hp} {ow ow' : Addr → Nat} {σ : L2.St} {ρ ρ' : Ev} {v : V}
theorem Rp.b {d : D} (h : Rp K H ow v d) : RpB K H ow v d := by
  cases h with
  | lst e hs hl => exact ⟨_, _, rfl, hs, hl⟩
  | non => exact .non
  | bl b => exact .bl b
  | int i => exact .int i
  | str q => exact .str q
  | tup hs hl => exact .tup hs hl
theorem RO.stp (s : Stp an H H' ow ow') {o : Op} (h : RO K H ow σ v o) : RO K H' ow' σ v o := by
  cases o with
  | sh d => exact Rp.stp s h
  | nm i => exact h
theorem ROs.stp (s : Stp an H H' ow ow') : ∀ {os : List Op} {vs : List V}, ROs K H ow σ vs os → ROs K H' ow' σ vs os
  | [], _, h => by
    cases h
    exact .nil
  | o :: os, _, h => by
    cases h with
    | cons h1 h2 => exact .cons (h1.stp s) (ROs.stp s h2)
theorem RpB.grow (g : Grow H H' ow ow') {d : D} (h : RpB K H ow v d) : RpB K H' ow' v d := by
  cases d with
  | lst ds =>
    obtain ⟨a, xs, e, hr, hl⟩ := h
    exact ⟨a, xs, e, g.same _ _ hr, hl.grow g⟩
  | non => exact Rp.grow g h
  | bl b => exact Rp.grow g h
  | int i => exact Rp.grow g h
  | str q => exact Rp.grow g h
  | tup xs => exact Rp.grow g h
theorem rdO_ok (sr : SR K H ow σ ρ) {o : Op} (h : RO K H ow σ v o) {d : D} (e : rdO o ρ = .ok d ρ') : ρ' = ρ ∧ RpB K H ow v d := by
  cases o with
  | sh d' =>
    have e : Res.ok d' ρ = Res.ok d ρ' := e
    cases e
    exact ⟨rfl, Rp.b h⟩
  | nm i =>
    have e : rdSl i ρ = .ok d ρ' := e
    unfold rdSl at e
    cases e2 : ρ[i]? with
    | none =>
      rw [e2] at e
      cases e
    | some s =>
      have q := sr.get i s e2
      have h : σ[i]? = some (some v) := h
      rw [h] at q
      rw [e2] at e
      cases s with
      | un => cases e
      | val d' =>
        have e : Res.ok d' ρ = Res.ok d ρ' := e
        cases e
        obtain ⟨v', ev, r⟩ := q
        cases ev
        exact ⟨rfl, r.b⟩
      | own xs =>
        have e : Res.ok (D.lst xs) ρ = Res.ok d ρ' := e
        cases e
        obtain ⟨p, vs, ev, hp, hw, r⟩ := q
        cases ev
        exact ⟨rfl, p, vs, rfl, hp, r⟩
      | deal cs b => cases e
      | scr ns => cases e
theorem rdO_cases (o : Op) (ρ : Ev) : (∃ d, rdO o ρ = .ok d ρ) ∨ rdO o ρ = .stuck := by
  cases o with
  | sh d => exact .inl ⟨d, rfl⟩
  | nm i =>
    show (∃ d, rdSl i ρ = .ok d ρ) ∨ rdSl i ρ = .stuck
    unfold rdSl
    cases slD ρ[i]? with
    | none => exact .inr rfl
    | some d => exact .inl ⟨d, rfl⟩
end
section
variable {α : Type} {C : Cc} {σ : L2.St} {H : Hp} {ow : Addr → Nat} {ρ : Ev} {v : V}
theorem EndE.rd1 {o : Op} {f : D → M α} {G : α → Ev → Hp → (Addr → Nat) → Prop} (sr : SR C.K H ow σ ρ) (r : RO C.K H ow σ v o) (h : EndE C σ H ow ((rdO o).bind f ρ) G) : ∃ d, RpB C.K H ow v d ∧ EndE C σ H ow (f d ρ) G := by
  unfold M.bind at h
  rcases rdO_cases o ρ with ⟨d, e⟩ | e
  · rw [e] at h
    exact ⟨d, (rdO_ok sr r e).2, h⟩
  · rw [e] at h
    exact h.elim
theorem EndE.rds {G : α → Ev → Hp → (Addr → Nat) → Prop} (sr : SR C.K H ow σ ρ) : ∀ {os : List Op} {vs : List V} {f : List D → M α}, ROs C.K H ow σ vs os → EndE C σ H ow ((rdOs os).bind f ρ) G → ∃ ds, RpBs C.K H ow vs ds ∧ EndE C σ H ow (f ds ρ) G
  | [], _, f, r, h => by
    cases r
    exact ⟨[], .nil, h⟩
  | o :: os, _, f, r, h => by
    cases r with
    | cons r1 r2 =>
      have h1 : EndE C σ H ow ((rdO o).bind (fun d => (rdOs os).bind fun ds => f (d :: ds)) ρ) G := by
        have e : ((rdOs (o :: os)).bind f ρ) = ((rdO o).bind (fun d => (rdOs os).bind fun ds => f (d :: ds)) ρ) := by
          unfold M.bind
          rcases rdO_cases o ρ with ⟨d, e⟩ | e
          · simp only [rdOs, M.bind, e]
            cases rdOs os ρ <;> rfl
          · simp only [rdOs, M.bind, e]
        rw [← e]
        exact h
      obtain ⟨d, b, h2⟩ := EndE.rd1 sr r1 h1
      obtain ⟨ds, bs, h3⟩ := EndE.rds (f := fun ds => f (d :: ds)) sr r2 h2
      exact ⟨d :: ds, .cons b bs, h3⟩
end
end Dy

namespace Dy
open PySem PySem.Spec PyProof.Rows L2

/-! ### what a piece of text does -/
structure JO (C : Cc) (e : Expr) (t : M Op) : Prop where
  ex : ∃ te, (∀ κ, PE (C.X κ) e te) ∧ ∀ σ H ow ρ (Q : VK), SR C.K H ow σ ρ → EndE C σ H ow (t ρ) (fun o _ H' ow' => ∀ v, RO C.K H' ow' σ v o → Q v H') → te σ H Q
structure JE (C : Cc) (e : Expr) (t : M D) : Prop where
  ex : ∃ te, (∀ κ, PE (C.X κ) e te) ∧ ∀ σ H ow ρ (Q : VK), SR C.K H ow σ ρ → EndE C σ H ow (t ρ) (fun d _ H' ow' => ∀ v, Rp C.K H' ow' v d → Q v H') → te σ H Q
/-- a new list, that nobody knows -/
structure JN (C : Cc) (e : Expr) (t : M (List D)) : Prop where
  ex : ∃ te, (∀ κ, PE (C.X κ) e te) ∧ ∀ σ H ow ρ (Q : VK), SR C.K H ow σ ρ → EndE C σ H ow (t ρ) (fun xs _ H' ow' => ∀ p vs, H p = none → H' p = some (.lst vs) → ow' p = 1 → RpL C.K H' ow' vs xs → Q (.ref p) H') → te σ H Q
structure JT (C : Cc) (e : Expr) (t : M Bool) : Prop where
  ex : ∃ te, (∀ κ, PT (C.X κ) e te) ∧ ∀ σ H ow ρ (Q : Bool → Hp → Prop), SR C.K H ow σ ρ → EndE C σ H ow (t ρ) (fun b _ H' _ => Q b H') → te σ H Q
structure JW (C : Cc) (e : Expr) (t : M Bool) : Prop where
  ex : ∃ te, (∀ κ, PW (C.X κ) e te) ∧ ∀ σ H ow ρ (Q : Bool → Hp → Prop), SR C.K H ow σ ρ → EndE C σ H ow (t ρ) (fun b _ H' _ => Q b H') → te σ H Q
structure JA (C : Cc) (es : List Expr) (t : M (List Op)) : Prop where
  ex : ∃ te, (∀ κ, PA (C.X κ) es te) ∧ ∀ σ H ow ρ (Q : List V → Hp → Prop), SR C.K H ow σ ρ → EndE C σ H ow (t ρ) (fun os _ H' ow' => ∀ vs, ROs C.K H' ow' σ vs os → Q vs H') → te σ H Q
/-- what is wanted behind a statement -/
def OutR (K : PySem.W.Frag) (E : Ends) (o : Out) (σ' : L2.St) (H' : Hp) (ow' : Addr → Nat) : Prop := match o with
  | .nx => E.nx σ' H'
  | .rt d => ∀ v, Rp K H' ow' v d → E.rt v H'
  | .bk => E.bk σ' H'
  | .ct => E.ct σ' H'
structure JS (C : Cc) (st : Stmt) (t : M Out) : Prop where
  ex : ∃ ts, (∀ κ, PS (C.X κ) st ts) ∧ ∀ σ H ow ρ (E : Ends), SR C.K H ow σ ρ → End C σ H ow (t ρ) (fun o _ σ' H' ow' => OutR C.K E o σ' H' ow') → ts E σ H
structure JB (C : Cc) (st : List Stmt) (t : M Out) : Prop where
  ex : ∃ ts, (∀ κ, PSs (C.X κ) st ts) ∧ ∀ σ H ow ρ (E : Ends), SR C.K H ow σ ρ → End C σ H ow (t ρ) (fun o _ σ' H' ow' => OutR C.K E o σ' H' ow') → ts E σ H

section
variable {C : Cc} {e a b c : Expr} {es : List Expr} {pos : Pos}
/-- a result is any other by an equation -/
theorem JE.of_eq {t u : M D} (h : JE C e t) (q : ∀ ρ, u ρ = t ρ) : JE C e u := by
  have : u = t := funext q
  rw [this]
  exact h
theorem JE.toO {t : M D} (h : JE C e t) : JO C e (t.bind fun d => M.ret (.sh d)) := by
  obtain ⟨te, p, k⟩ := h.ex
  refine ⟨te, p, fun σ H ow ρ Q sr hE => k σ H ow ρ Q sr (hE.bind.imp fun d ρ' H' ow' s sr' q v r => ?_)⟩
  exact q H' ow' .refl sr' v r
/-- the owner of one place changes, from 1 to 0 -/
def shr (ow : Addr → Nat) (p : Addr) (n : Nat) : Addr → Nat := fun a => if a = p then n else ow a
theorem shr_same {ow : Addr → Nat} {p : Addr} {n : Nat} : shr ow p n p = n := by
  unfold shr
  rw [if_pos rfl]
theorem shr_ne {ow : Addr → Nat} {p a : Addr} {n : Nat} (h : a ≠ p) : shr ow p n a = ow a := by
  unfold shr
  rw [if_neg h]
section
variable {K : PySem.W.Frag} {H : Hp} {ow ow' : Addr → Nat}
mutual
theorem Rp.lab (h0 : ∀ a o, H a = some o → ow a = 0 → ow' a = 0) : ∀ {d : D} {v : V}, Rp K H ow v d → Rp K H ow' v d
  | .non, _, h => by
    cases h
    exact .non
  | .bl b, _, h => by
    cases h
    exact .bl b
  | .int i, _, h => by
    cases h
    exact .int i
  | .str x, _, h => by
    cases h with
    | str q => exact .str q
  | .tup ds, _, h => by
    cases h with
    | tup hs hl => exact .tup hs (RpL.lab h0 hl)
  | .lst ds, _, h => by
    cases h with
    | lst e hs hl => exact .lst (h0 _ _ hs e) hs (RpL.lab h0 hl)
theorem RpL.lab (h0 : ∀ a o, H a = some o → ow a = 0 → ow' a = 0) : ∀ {ds : List D} {vs : List V}, RpL K H ow vs ds → RpL K H ow' vs ds
  | [], _, h => by
    cases h
    exact .nil
  | d :: ds, _, h => by
    cases h with
    | cons h1 h2 => exact .cons (Rp.lab h0 h1) (RpL.lab h0 h2)
end
theorem SlIs.lab {i : Nat} {o : Option V} (h0 : ∀ a o, H a = some o → ow a = 0 → ow' a = 0) (h1 : ∀ a o, H a = some o → ow a = i + 2 → ow' a = i + 2) : ∀ {s : Sl}, SlIs K H ow i o s → SlIs K H ow' i o s
  | .un, _ => trivial
  | .val d, h => by
    obtain ⟨v, e, r⟩ := h
    exact ⟨v, e, r.lab h0⟩
  | .own xs, h => by
    obtain ⟨p, vs, e, hp, hw, r⟩ := h
    exact ⟨p, vs, e, hp, h1 _ _ hp hw, r.lab h0⟩
  | .deal cs b, h => by
    obtain ⟨p, q, e, hp, hq, n, w1, w2⟩ := h
    exact ⟨p, q, e, hp, hq, n, h1 _ _ hp w1, h1 _ _ hq w2⟩
  | .scr ns, h => h
theorem SR.lab {σ : L2.St} {ρ : Ev} (h0 : ∀ a o, H a = some o → ow a = 0 → ow' a = 0) (h1 : ∀ a o, H a = some o → 2 ≤ ow a → ow' a = ow a) (h : SR K H ow σ ρ) : SR K H ow' σ ρ :=
  ⟨h.len, fun i s e => (h.get i s e).lab h0 fun a o ha hw => by rw [h1 a o ha (by omega), hw]⟩
end
theorem shr_stp {an : List Nat} {H H' : Hp} {ow ow' : Addr → Nat} {p : Addr} {n : Nat} (s : Stp an H H' ow ow') (hn : H p = none) : Stp an H H' ow (shr ow' p n) := by
  refine ⟨fun a o ha l => ?_, s.tup, s.frz, fun a o ha l m => ?_, s.here⟩
  · rw [shr_ne (ne_of_none ha hn)]
    exact s.keep a o ha l
  · rw [shr_ne (ne_of_none ha hn)]
    exact s.anc a o ha l m
theorem shr_sr {K : PySem.W.Frag} {H : Hp} {ow : Addr → Nat} {p : Addr} {n : Nat} {σ : L2.St} {ρ : Ev} (h1 : ow p = 1) (h : SR K H ow σ ρ) : SR K H (shr ow p n) σ ρ :=
  h.lab (fun a o _ ha => (shr_ne fun z => by rw [z, h1] at ha; omega).trans ha) fun a o _ ha => shr_ne fun z => by rw [z, h1] at ha; omega
theorem shr_rpl {K : PySem.W.Frag} {H : Hp} {ow : Addr → Nat} {p : Addr} {n : Nat} {vs : List V} {ds : List D} (h1 : ow p = 1) (h : RpL K H ow vs ds) : RpL K H (shr ow p n) vs ds :=
  h.lab fun a o _ ha => (shr_ne fun z => by rw [z, h1] at ha; omega).trans ha
theorem JN.toE {t : M (List D)} (h : JN C e t) : JE C e (t.bind fun xs => M.ret (.lst xs)) := by
  obtain ⟨te, p, k⟩ := h.ex
  refine ⟨te, p, fun σ H ow ρ Q sr hE => k σ H ow ρ Q sr ?_⟩
  unfold M.bind at hE
  cases e1 : t ρ with
  | ok xs ρ1 =>
    rw [e1] at hE
    intro H' ow' s sr' p vs hn hp h1 r
    exact hE H' (shr ow' p 0) (shr_stp s hn) (shr_sr h1 sr') _ (.lst shr_same hp (shr_rpl h1 r))
  | exc c d ρ1 =>
    rw [e1] at hE
    exact hE
  | stuck =>
    rw [e1] at hE
    exact hE
theorem JN.toO {t : M (List D)} (h : JN C e t) : JO C e (t.bind fun xs => M.ret (.sh (.lst xs))) := by
  have q : (t.bind fun xs => M.ret (Op.sh (.lst xs))) = ((t.bind fun xs => M.ret (D.lst xs)).bind fun d => M.ret (.sh d)) := by
    funext ρ
    unfold M.bind M.ret
    cases t ρ <;> rfl
  rw [q]
  exact h.toE.toO

/-! ### names, constants -/
/-- a name as an operand -/
theorem jo_nm (i : Nat) {x : Str} (hN : ∀ κ, (C.X κ).N[i]? = some x := by intro _; rfl) (hv : ∀ κ, Vis (C.X κ).env.scope x := by intro _; first | exact Or.inl rfl | exact Or.inr (Or.inl rfl) | exact Or.inr (Or.inr rfl)) (hd : (x == ("__debug__" : Str)) = false := by decide)
    (hcd : (x == ("__classdict__" : Str)) = false := by decide) : JO C (.Name x pos) ((rdSl i).bind fun _ => M.ret (.nm i)) := by
  refine ⟨_, fun κ => pe_var (hN κ) (hv κ) hd hcd, fun σ H ow ρ Q sr hE => ?_⟩
  unfold M.bind rdSl at hE
  have go : ∀ v, σ[i]? = some (some v) → Q v H := by
    intro v ev
    cases e2 : slD ρ[i]? with
    | none =>
      rw [e2] at hE
      exact hE.elim
    | some d =>
      rw [e2] at hE
      exact hE H ow .refl sr v ev
  cases e1 : ρ[i]? with
  | none =>
    rw [e1] at hE
    exact hE.elim
  | some s =>
    have q := sr.get i s e1
    have nn : ∀ v, (σ[i]?).join = some v → σ[i]? = some (some v) := fun v hv => by
      cases e3 : σ[i]? with
      | none =>
        rw [e3] at hv
        cases hv
      | some o =>
        rw [e3] at hv
        have hv : o = some v := hv
        rw [hv]
    cases s with
    | un =>
      rw [e1] at hE
      exact hE.elim
    | val d =>
      obtain ⟨v, ev, _⟩ := q
      exact ⟨v, nn v ev, go v (nn v ev)⟩
    | own xs =>
      obtain ⟨p, vs, ev, _⟩ := q
      exact ⟨_, nn _ ev, go _ (nn _ ev)⟩
    | deal cs b =>
      rw [e1] at hE
      exact hE.elim
    | scr ns =>
      rw [e1] at hE
      exact hE.elim
/-- a name's value taken along -/
theorem je_nm (i : Nat) {x : Str} (hN : ∀ κ, (C.X κ).N[i]? = some x := by intro _; rfl) (hv : ∀ κ, Vis (C.X κ).env.scope x := by intro _; first | exact Or.inl rfl | exact Or.inr (Or.inl rfl) | exact Or.inr (Or.inr rfl)) (hd : (x == ("__debug__" : Str)) = false := by decide)
    (hcd : (x == ("__classdict__" : Str)) = false := by decide) : JE C (.Name x pos) (tkSl C.an i) := by
  refine ⟨_, fun κ => pe_var (hN κ) (hv κ) hd hcd, fun σ H ow ρ Q sr hE => ?_⟩
  unfold tkSl at hE
  cases e1 : ρ[i]? with
  | none =>
    rw [e1] at hE
    exact hE.elim
  | some s =>
    have q := sr.get i s e1
    have nn : ∀ v, (σ[i]?).join = some v → σ[i]? = some (some v) := fun v hv => by
      cases e3 : σ[i]? with
      | none =>
        rw [e3] at hv
        cases hv
      | some o =>
        rw [e3] at hv
        have hv : o = some v := hv
        rw [hv]
    cases s with
    | un =>
      rw [e1] at hE
      exact hE.elim
    | val d =>
      rw [e1] at hE
      obtain ⟨v, ev, r⟩ := q
      exact ⟨v, nn v ev, hE H ow .refl sr v r⟩
    | own xs =>
      rw [e1] at hE
      obtain ⟨p, vs, ev, hp, hw, r⟩ := q
      dsimp only at hE
      by_cases ha : i ∈ C.an
      · rw [if_pos ha] at hE
        exact hE.elim
      · rw [if_neg ha] at hE
        have z0 : ∀ a o, H a = some o → ow a = 0 → shr ow p 0 a = 0 := fun a o _ h0 => by
          unfold shr
          split <;> first | rfl | exact h0
        have r' : RpL C.K H (shr ow p 0) vs xs := r.lab z0
        refine ⟨_, nn _ ev, hE H (shr ow p 0) ?_ ?_ _ (.lst shr_same hp r')⟩
        · refine .own (fun a o h l => shr_ne fun z => ?_) fun a o h l m => shr_ne fun z => ?_
          · rw [z, hw] at l
            omega
          · rw [z, hw] at m
            exact ha (by simpa using m)
        · refine ⟨by simp [sr.len], fun j s e => ?_⟩
          by_cases hj : i = j
          · subst hj
            have hi : i < ρ.length := (List.getElem?_eq_some_iff.mp e1).1
            rw [List.getElem?_set_self hi] at e
            cases e
            exact ⟨_, ev, .lst shr_same hp r'⟩
          · rw [List.getElem?_set_ne hj] at e
            refine (sr.get j s e).lab z0 fun a o _ hw2 => ?_
            rw [shr_ne (fun z => by rw [z, hw] at hw2; omega), hw2]
    | deal cs b =>
      rw [e1] at hE
      exact hE.elim
    | scr ns =>
      rw [e1] at hE
      exact hE.elim
/-- what has one value, in every state -/
theorem je_c {d : D} {v : V} (h : ∀ κ, PE (C.X κ) e (tC v)) (r : ∀ H ow, Rp C.K H ow v d) : JE C e (M.ret d) :=
  ⟨_, h, fun σ H ow ρ Q sr hE => hE H ow .refl sr v (r H ow)⟩
theorem je_int {i : Int} {j pos} : JE C (.Constant (.int i) j pos) (M.ret (.int i)) := je_c (fun _ => pe_int) fun _ _ => .int i
theorem je_bl {b : Bool} {j pos} : JE C (.Constant (.bool b) j pos) (M.ret (.bl b)) := je_c (fun _ => pe_bl) fun _ _ => .bl b
theorem je_non {j pos} : JE C (.Constant .none j pos) (M.ret .non) := je_c (fun _ => pe_non) fun _ _ => .non
/-- a text written in the program, with its signs -/
def sOkB (s : List Nat) : Bool := decide (s.length ≤ sizeLine) && s.all fun c => decide (c < 0x110000)
theorem sOk_of {s : List Nat} (h : sOkB s = true) : sOk s := by
  unfold sOkB at h
  simp only [Bool.and_eq_true, decide_eq_true_eq, List.all_eq_true] at h
  exact ⟨h.1, h.2⟩
/-- the signs of a written text -/
structure Lit (x : Str) (s : List Nat) : Prop where
  eq : x.cps.toList = s
  ok : sOkB s = true
theorem Lit.str {x : Str} {s : List Nat} (h : Lit x s) : x = ⟨s.toArray⟩ := by
  obtain ⟨c⟩ := x
  have e : c.toList = s := h.eq
  subst e
  simp
theorem je_str {x : Str} {s : List Nat} {j pos} (h : Lit x s) : JE C (.Constant (.str x) j pos) (M.ret (.str s)) := by
  rw [h.str]
  exact je_c (fun _ => pe_str) fun _ _ => .str (sOk_of h.ok)
end
end Dy

namespace Dy
open PySem PySem.Spec PyProof.Rows L2

/-! ### operations on data -/
def dAdd : D → D → Option D
  | .int a, .int b => some (.int (a + b))
  | .str a, .str b => if a.length + b.length ≤ sizeLine then some (.str (a ++ b)) else none
  | .lst a, .lst b => if a.length + b.length ≤ sizeLine then some (.lst (a ++ b)) else none
  | .tup a, .tup b => if a.length + b.length ≤ sizeLine then some (.tup (a ++ b)) else none
  | _, _ => none
def dSub : D → D → Option D
  | .int a, .int b => some (.int (a - b))
  | _, _ => none
def isSmall (i : Int) : Bool := decide (-(2 ^ 64) < i) && decide (i < 2 ^ 64)
def dMul : D → D → Option D
  | .int a, .int b => if isSmall a || isSmall b then some (.int (a * b)) else none
  | _, _ => none
def dMod : D → D → Option D
  | .int a, .int b => if b = 0 then none else some (.int (a.fmod b))
  | _, _ => none
def dDiv : D → D → Option D
  | .int a, .int b => if b ≠ 0 ∧ b.natAbs < 1073741824 then some (.int (a.fdiv b)) else none
  | _, _ => none
def dPow : D → D → Option D
  | .int a, .int b => if 0 ≤ b ∧ b ≤ 1000000 ∧ a.natAbs < 2 ^ 64 then some (.int (a ^ b.toNat)) else none
  | _, _ => none
def dNeg : D → Option D
  | .int a => some (.int (-a))
  | _ => none

def Op2 (K : PySem.W.Frag) (r : R2) (g : D → D → Option D) : Prop := ∀ (H : Hp) (ow : Addr → Nat) (x y : V) (d e z : D) (Q : VK), RpB K H ow x d → RpB K H ow y e → g d e = some z →
  (∀ v H' ow', Grow H H' ow ow' → Rp K H' ow' v z → Q v H') → r x y H Q
def Op1 (K : PySem.W.Frag) (r : V → Hp → VK → Prop) (g : D → Option D) : Prop := ∀ (H : Hp) (ow : Addr → Nat) (x : V) (d z : D) (Q : VK), RpB K H ow x d → g d = some z →
  (∀ v H' ow', Grow H H' ow ow' → Rp K H' ow' v z → Q v H') → r x H Q
section
variable {K : PySem.W.Frag} {H : Hp} {ow : Addr → Nat} {v : V}
theorem rpb_int {i : Int} (h : RpB K H ow v (.int i)) : v = .int i := by
  cases h
  rfl
theorem rpb_bl {b : Bool} (h : RpB K H ow v (.bl b)) : v = .bl b := by
  cases h
  rfl
theorem rpb_non (h : RpB K H ow v .non) : v = .non := by
  cases h
  rfl
theorem rpb_str {s : List Nat} (h : RpB K H ow v (.str s)) : v = .str ⟨s.toArray⟩ ∧ sOk s := by
  cases h with
  | str q => exact ⟨rfl, q⟩
theorem rpb_tup {ds : List D} (h : RpB K H ow v (.tup ds)) : ∃ a xs, v = .ref a ∧ SqT K H a xs ∧ RpL K H ow xs ds := by
  cases h with
  | tup hs hl => exact ⟨_, _, rfl, hs, hl⟩
theorem sOk.append {a b : List Nat} (h : sOk a) (k : sOk b) (l : a.length + b.length ≤ sizeLine) : sOk (a ++ b) :=
  ⟨by rw [List.length_append]; exact l, fun c hc => (List.mem_append.mp hc).elim (h.2 c) (k.2 c)⟩
theorem str_append (a b : List Nat) : ((⟨a.toArray⟩ : Str) ++ (⟨b.toArray⟩ : Str)) = ⟨(a ++ b).toArray⟩ := by
  show (Str.mk (a.toArray ++ b.toArray)) = _
  simp
theorem str_len (a : List Nat) : (⟨a.toArray⟩ : Str).length = a.length := by
  show a.toArray.size = _
  simp
/-- a new list, a new tuple at p -/
theorem new_lst {p : Addr} {vs : List V} {ds : List D} (hp : H p = none) (r : RpL K H ow vs ds) : Grow H (upd H p (.lst vs)) ow (own0 H ow 0) ∧ Rp K (upd H p (.lst vs)) (own0 H ow 0) (.ref p) (.lst ds) :=
  ⟨Grow.of (same_new hp), .lst (own0_none hp) upd_same (r.grow (Grow.of (same_new hp)))⟩
theorem new_tup {p : Addr} {vs : List V} {ds : List D} (hp : H p = none) (r : RpL K H ow vs ds) : Grow H (upd H p (.tup vs)) ow (own0 H ow 0) ∧ Rp K (upd H p (.tup vs)) (own0 H ow 0) (.ref p) (.tup ds) :=
  ⟨Grow.of (same_new hp), .tup (SqT.of upd_same) (r.grow (Grow.of (same_new hp)))⟩
end

def rAddS : R2 := fun x y H Q => ∃ i j, x = .str i ∧ y = .str j ∧ i.length + j.length ≤ sizeLine ∧ Q (.str (i ++ j)) H
def rAddAll (K : PySem.W.Frag) : R2 := fun x y H Q => (rI0 fun i j => .int (i + j)) x y H Q ∨ rAddS x y H Q ∨ rCat x y H Q ∨ rCatA K x y H Q
theorem op_addAll {X : Cx} : OpR X (binaryOp .Add) (rAddAll X.K) := op_add.or (op_add_str.or (op_cat.or op_catA))
theorem d_add {K : PySem.W.Frag} : Op2 K (rAddAll K) dAdd := by
  intro H ow x y d e z Q hx hy hg k
  unfold dAdd at hg
  split at hg
  · cases hg
    cases rpb_int hx
    cases rpb_int hy
    exact .inl ⟨_, _, rfl, rfl, k _ _ _ .refl (.int _)⟩
  · split at hg
    · rename_i hl
      cases hg
      obtain ⟨e1, o1⟩ := rpb_str hx
      obtain ⟨e2, o2⟩ := rpb_str hy
      subst e1 e2
      refine .inr (.inl ⟨_, _, rfl, rfl, by rw [str_len, str_len]; exact hl, ?_⟩)
      rw [str_append]
      exact k _ _ _ .refl (.str (o1.append o2 hl))
    · cases hg
  · split at hg
    · rename_i hl
      cases hg
      obtain ⟨a, xs, rfl, hs, r⟩ := hx
      obtain ⟨b, ys, rfl, hs', r'⟩ := hy
      refine .inr (.inr (.inl ⟨a, b, xs, ys, rfl, rfl, hs, hs', by rw [r.length, r'.length]; exact hl, fun p hp => ?_⟩))
      exact k _ _ _ (new_lst hp (r.append r')).1 (new_lst hp (r.append r')).2
    · cases hg
  · split at hg
    · rename_i hl
      cases hg
      obtain ⟨a, xs, rfl, hs, r⟩ := rpb_tup hx
      obtain ⟨b, ys, rfl, hs', r'⟩ := rpb_tup hy
      refine .inr (.inr (.inr ⟨a, b, xs, ys, rfl, rfl, hs, hs', by rw [r.length, r'.length]; exact hl, fun en => ?_, fun en em => ?_, fun _ _ p hp => ?_⟩))
      · subst en
        cases r
        exact k _ _ _ .refl (.tup hs' r')
      · subst em
        cases r'
        rw [List.append_nil] at k
        exact k _ _ _ .refl (.tup hs r)
      · exact k _ _ _ (new_tup hp (r.append r')).1 (new_tup hp (r.append r')).2
    · cases hg
  · cases hg
def rSubI : R2 := rI0 fun i j => .int (i - j)
theorem d_sub {K : PySem.W.Frag} : Op2 K rSubI dSub := by
  intro H ow x y d e z Q hx hy hg k
  unfold dSub at hg
  split at hg
  · cases hg
    cases rpb_int hx
    cases rpb_int hy
    exact ⟨_, _, rfl, rfl, k _ _ _ .refl (.int _)⟩
  · cases hg
def rMulI : R2 := rI CMul fun i j => .int (i * j)
theorem d_mul {K : PySem.W.Frag} : Op2 K rMulI dMul := by
  intro H ow x y d e z Q hx hy hg k
  unfold dMul at hg
  split at hg
  · split at hg
    · rename_i hs
      cases hg
      cases rpb_int hx
      cases rpb_int hy
      refine ⟨_, _, rfl, rfl, ?_, k _ _ _ .refl (.int _)⟩
      simp only [isSmall, Bool.or_eq_true, Bool.and_eq_true, decide_eq_true_eq] at hs
      exact hs
    · cases hg
  · cases hg
def rModI : R2 := rI (fun _ j => j ≠ 0) fun i j => .int (i.fmod j)
theorem d_mod {K : PySem.W.Frag} : Op2 K rModI dMod := by
  intro H ow x y d e z Q hx hy hg k
  unfold dMod at hg
  split at hg
  · split at hg
    · cases hg
    · rename_i hn
      cases hg
      cases rpb_int hx
      cases rpb_int hy
      exact ⟨_, _, rfl, rfl, hn, k _ _ _ .refl (.int _)⟩
  · cases hg
def rDivI : R2 := rI CDivN fun i j => .int (i.fdiv j)
theorem d_div {K : PySem.W.Frag} : Op2 K rDivI dDiv := by
  intro H ow x y d e z Q hx hy hg k
  unfold dDiv at hg
  split at hg
  · split at hg
    · rename_i hn
      cases hg
      cases rpb_int hx
      cases rpb_int hy
      exact ⟨_, _, rfl, rfl, hn, k _ _ _ .refl (.int _)⟩
    · cases hg
  · cases hg
def rPowI : R2 := rI CPow fun i j => .int (i ^ j.toNat)
theorem d_pow {K : PySem.W.Frag} : Op2 K rPowI dPow := by
  intro H ow x y d e z Q hx hy hg k
  unfold dPow at hg
  split at hg
  · split at hg
    · rename_i hn
      cases hg
      cases rpb_int hx
      cases rpb_int hy
      exact ⟨_, _, rfl, rfl, hn, k _ _ _ .refl (.int _)⟩
    · cases hg
  · cases hg
theorem d_neg {K : PySem.W.Frag} : Op1 K (rU fun i => .int (-i)) dNeg := by
  intro H ow x d z Q hx hg k
  unfold dNeg at hg
  split at hg
  · cases hg
    cases rpb_int hx
    exact ⟨_, rfl, k _ _ _ .refl (.int _)⟩
  · cases hg

/-! ### the rules for operators -/
def mBin (g : D → D → Option D) (ta tb : M Op) : M D := ta.bind fun x => tb.bind fun y => (rdO x).bind fun x => (rdO y).bind fun y => M.lift (g x y)
def mUn (g : D → Option D) (ta : M Op) : M D := ta.bind fun x => (rdO x).bind fun x => M.lift (g x)
section
variable {C : Cc} {a b c : Expr} {pos : Pos} {ta tb tc : M Op}
/-- two operands, then an operation by values -/
theorem two_ops {r : R2} {g : D → D → Option D} (hg : Op2 C.K r g) (ha : JO C a ta) (hb : JO C b tb) : ∃ qa qb, (∀ κ, PE (C.X κ) a qa) ∧ (∀ κ, PE (C.X κ) b qb) ∧
    ∀ σ H ow ρ (Q : VK), SR C.K H ow σ ρ → EndE C σ H ow (mBin g ta tb ρ) (fun d _ H' ow' => ∀ v, Rp C.K H' ow' v d → Q v H') → tOp r qa qb σ H Q := by
  obtain ⟨qa, pa, ka⟩ := ha.ex
  obtain ⟨qb, pb, kb⟩ := hb.ex
  refine ⟨qa, qb, pa, pb, fun σ H ow ρ Q sr hE => ?_⟩
  refine ka σ H ow ρ _ sr (hE.bind.imp fun x ρ1 H1 ow1 s1 sr1 q1 v rv => ?_)
  refine kb σ H1 ow1 ρ1 _ sr1 (q1.bind.imp fun y ρ2 H2 ow2 s2 sr2 q2 u ru => ?_)
  obtain ⟨d, bd, q3⟩ := q2.rd1 sr2 (rv.stp s2)
  obtain ⟨e, be, q4⟩ := q3.rd1 sr2 ru
  obtain ⟨z, ez, q5⟩ := q4.lift
  exact hg H2 ow2 v u d e z Q bd be ez fun w H' ow' gr rw' => q5 H' ow' gr.stp (sr2.grow gr) w rw'
theorem je_bin {op : Operator} {r : R2} {g : D → D → Option D} (ho : ∀ κ, OpR (C.X κ) (binaryOp op) r) (hg : Op2 C.K r g) (ha : JO C a ta) (hb : JO C b tb) : JE C (.BinOp a op b pos) (mBin g ta tb) := by
  obtain ⟨qa, qb, pa, pb, k⟩ := two_ops hg ha hb
  exact ⟨_, fun κ => pe_op (ho κ) (pa κ) (pb κ), k⟩
theorem je_un {op : UnaryOp} {r : V → Hp → VK → Prop} {g : D → Option D} (ho : ∀ κ, UnR (C.X κ) (unaryOp op) r) (hg : Op1 C.K r g) (ha : JO C a ta) : JE C (.UnaryOp op a pos) (mUn g ta) := by
  obtain ⟨qa, pa, ka⟩ := ha.ex
  refine ⟨_, fun κ => pe_un (ho κ) (pa κ), fun σ H ow ρ Q sr hE => ?_⟩
  refine ka σ H ow ρ _ sr (hE.bind.imp fun x ρ1 H1 ow1 s1 sr1 q1 v rv => ?_)
  obtain ⟨d, bd, q3⟩ := q1.rd1 sr1 rv
  obtain ⟨z, ez, q5⟩ := q3.lift
  exact hg H1 ow1 v d z Q bd ez fun w H' ow' gr rw' => q5 H' ow' gr.stp (sr1.grow gr) w rw'
theorem je_add (kk : ∀ κ, (C.X κ).K = C.K) (ha : JO C a ta) (hb : JO C b tb) : JE C (.BinOp a .Add b pos) (mBin dAdd ta tb) := je_bin (fun κ => by rw [← kk κ]; exact op_addAll) d_add ha hb
theorem je_sub (ha : JO C a ta) (hb : JO C b tb) : JE C (.BinOp a .Sub b pos) (mBin dSub ta tb) := je_bin (fun _ => op_sub) d_sub ha hb
theorem je_mul (ha : JO C a ta) (hb : JO C b tb) : JE C (.BinOp a .Mult b pos) (mBin dMul ta tb) := je_bin (fun _ => op_mul) d_mul ha hb
theorem je_mod (ha : JO C a ta) (hb : JO C b tb) : JE C (.BinOp a .Mod b pos) (mBin dMod ta tb) := je_bin (fun _ => op_modN) d_mod ha hb
theorem je_div (ha : JO C a ta) (hb : JO C b tb) : JE C (.BinOp a .FloorDiv b pos) (mBin dDiv ta tb) := je_bin (fun _ => op_fdivN) d_div ha hb
theorem je_pow (ha : JO C a ta) (hb : JO C b tb) : JE C (.BinOp a .Pow b pos) (mBin dPow ta tb) := je_bin (fun _ => op_pow) d_pow ha hb
theorem je_neg (ha : JO C a ta) : JE C (.UnaryOp .USub a pos) (mUn dNeg ta) := je_un (fun _ => un_neg) d_neg ha
end
end Dy

namespace Dy
open PySem PySem.Spec PyProof.Rows L2

/-! ### == of data -/
mutual
def D.beq : D → D → Bool
  | .non, .non => true
  | .bl a, .bl b => a == b
  | .bl a, .int j => (if a then 1 else 0) == j
  | .int i, .bl b => i == (if b then 1 else 0)
  | .int i, .int j => i == j
  | .str x, .str y => x == y
  | .lst xs, .lst ys => beqL xs ys
  | .tup xs, .tup ys => beqL xs ys
  | _, _ => false
def beqL : List D → List D → Bool
  | [], [] => true
  | x :: xs, y :: ys => D.beq x y && beqL xs ys
  | _, _ => false
end
mutual
def D.dep : D → Nat
  | .lst xs => depL xs + 1
  | .tup xs => depL xs + 1
  | _ => 0
def depL : List D → Nat
  | [] => 0
  | x :: xs => max x.dep (depL xs)
end
mutual
theorem dep_py : ∀ d : D, d.py.depth = d.dep
  | .non => by simp [D.py, D.dep, PyData.depth]
  | .bl _ => by simp [D.py, D.dep, PyData.depth]
  | .int _ => by simp [D.py, D.dep, PyData.depth]
  | .str _ => by simp [D.py, D.dep, PyData.depth]
  | .lst xs => by simp [D.py, D.dep, PyData.depth, depL_py xs]
  | .tup xs => by simp [D.py, D.dep, PyData.depth, depL_py xs]
theorem depL_py : ∀ xs : List D, PyData.depthAll (pyL xs) = depL xs
  | [] => by simp [pyL, depL, PyData.depthAll]
  | x :: xs => by simp [pyL, depL, PyData.depthAll, dep_py x, depL_py xs]
end
theorem str_eq_iff (x y : List Nat) : ((⟨x.toArray⟩ : Str) == ⟨y.toArray⟩) = (x == y) := by
  rw [Bool.eq_iff_iff]
  simp
mutual
theorem eqv_py : ∀ d e : D, PyData.eqv d.py e.py = D.beq d e
  | .non, e => by cases e <;> simp [D.py, D.beq, PyData.eqv]
  | .bl _, e => by cases e <;> simp [D.py, D.beq, PyData.eqv]
  | .int _, e => by cases e <;> simp [D.py, D.beq, PyData.eqv]
  | .str x, e => by
    cases e with
    | str y => simp only [D.py, D.beq, PyData.eqv, str_eq_iff]
    | _ => simp [D.py, D.beq, PyData.eqv]
  | .lst xs, e => by
    cases e with
    | lst ys => simp only [D.py, D.beq, PyData.eqv, eqvL_py xs ys]
    | _ => simp [D.py, D.beq, PyData.eqv]
  | .tup xs, e => by
    cases e with
    | tup ys => simp only [D.py, D.beq, PyData.eqv, eqvL_py xs ys]
    | _ => simp [D.py, D.beq, PyData.eqv]
theorem eqvL_py : ∀ xs ys : List D, PyData.eqvAll (pyL xs) (pyL ys) = beqL xs ys
  | [], [] => by simp [pyL, beqL, PyData.eqvAll]
  | [], _ :: _ => by simp [pyL, beqL, PyData.eqvAll]
  | _ :: _, [] => by simp [pyL, beqL, PyData.eqvAll]
  | x :: xs, y :: ys => by simp [pyL, beqL, PyData.eqvAll, eqv_py x y, eqvL_py xs ys]
end
section
variable {K : PySem.W.Frag} {H : Hp} {ow : Addr → Nat}
mutual
theorem Rp.dp : ∀ {d : D} {v : V}, Rp K H ow v d → Dp K H v d.py ∧ d.py.canLay0 = true
  | .non, _, h => by
    cases h
    exact ⟨by simpa [D.py] using Dp.non, by simp [D.py, PyData.canLay0]⟩
  | .bl b, _, h => by
    cases h
    exact ⟨by simpa [D.py] using Dp.bl b, by simp [D.py, PyData.canLay0]⟩
  | .int i, _, h => by
    cases h
    exact ⟨by simpa [D.py] using Dp.int i, by simp [D.py, PyData.canLay0]⟩
  | .str x, _, h => by
    cases h with
    | str q => exact ⟨by simpa [D.py] using Dp.str _, by simpa [D.py, PyData.canLay0, PyData.strOk] using q.2⟩
  | .tup ds, _, h => by
    cases h with
    | tup hs hl => exact ⟨by simpa [D.py] using Dp.tup hs (RpL.dp hl).1, by simpa [D.py, PyData.canLay0] using (RpL.dp hl).2⟩
  | .lst ds, _, h => by
    cases h with
    | lst e hs hl => exact ⟨by simpa [D.py] using Dp.lst (SqL.of hs) (RpL.dp hl).1, by simpa [D.py, PyData.canLay0] using (RpL.dp hl).2⟩
theorem RpL.dp : ∀ {ds : List D} {vs : List V}, RpL K H ow vs ds → DpAll K H vs (pyL ds) ∧ PyData.canLayAll0 (pyL ds) = true
  | [], _, h => by
    cases h
    exact ⟨by simpa [pyL] using DpAll.nil, by simp [pyL, PyData.canLayAll0]⟩
  | d :: ds, _, h => by
    cases h with
    | cons h1 h2 =>
      have q1 := Rp.dp h1
      have q2 := RpL.dp h2
      exact ⟨by simpa [pyL] using DpAll.cons q1.1 q2.1, by simp [pyL, PyData.canLayAll0, q1.2, q2.2]⟩
end
theorem RpB.dp {d : D} {v : V} (h : RpB K H ow v d) : Dp K H v d.py ∧ d.py.canLay0 = true := by
  cases d with
  | lst ds =>
    obtain ⟨a, xs, e, hs, hl⟩ := h
    subst e
    exact ⟨by simpa [D.py] using Dp.lst (SqL.of hs) (RpL.dp hl).1, by simpa [D.py, PyData.canLay0] using (RpL.dp hl).2⟩
  | non => exact Rp.dp h
  | bl b => exact Rp.dp h
  | int i => exact Rp.dp h
  | str q => exact Rp.dp h
  | tup xs => exact Rp.dp h
end
/-- the facts that the rules want of a context -/
structure CcOk (C : Cc) : Prop where
  calm : ∀ κ, (C.X κ).calm = true
  hu : ∀ κ, (C.X κ).A.units + 200 < cLine
  nd : ∀ κ, (C.X κ).N.Nodup
  kk : ∀ κ, (C.X κ).K = C.K
def rEqX (K : PySem.W.Frag) (neg : Bool) : R2 := fun x y H Q => ∃ d e : PyData, Dp K H x d ∧ Dp K H y e ∧ d.canLay0 = true ∧ e.canLay0 = true ∧ min d.depth e.depth ≤ 150 ∧ Q (.bl (if neg then !PyData.eqv d e else PyData.eqv d e)) H
theorem op_eqX {X : Cx} (hu : X.A.units + 200 < cLine) : OpR X (compareOp .Eq) (rEqX X.K false) := by
  intro pins s σ H x y v u Q I rx ry h
  obtain ⟨d, e, hd, he, sd, se, hm, q⟩ := h
  obtain ⟨as, r1⟩ := Dp.reads I d x v hd rx
  obtain ⟨bs, r2⟩ := Dp.reads I e y u he ry
  exact SeqAt.compareEq_reads r1 r2 sd se (by omega) ⟨.bl _, H, I, rfl, q⟩
theorem op_neX {X : Cx} (hu : X.A.units + 200 < cLine) : OpR X (compareOp .NotEq) (rEqX X.K true) := by
  intro pins s σ H x y v u Q I rx ry h
  obtain ⟨d, e, hd, he, sd, se, hm, q⟩ := h
  obtain ⟨as, r1⟩ := Dp.reads I d x v hd rx
  obtain ⟨bs, r2⟩ := Dp.reads I e y u he ry
  exact SeqAt.compareNe_reads r1 r2 sd se (by omega) ⟨.bl _, H, I, rfl, q⟩
def dEq (d e : D) : Option D := if min d.dep e.dep ≤ 150 then some (.bl (D.beq d e)) else none
def dNe (d e : D) : Option D := if min d.dep e.dep ≤ 150 then some (.bl (!D.beq d e)) else none
theorem d_eq {K : PySem.W.Frag} : Op2 K (rEqX K false) dEq := by
  intro H ow x y d e z Q hx hy hg k
  unfold dEq at hg
  split at hg
  · rename_i hm
    cases hg
    refine ⟨d.py, e.py, hx.dp.1, hy.dp.1, hx.dp.2, hy.dp.2, by rw [dep_py, dep_py]; exact hm, ?_⟩
    rw [eqv_py]
    exact k _ _ _ .refl (.bl _)
  · cases hg
theorem d_ne {K : PySem.W.Frag} : Op2 K (rEqX K true) dNe := by
  intro H ow x y d e z Q hx hy hg k
  unfold dNe at hg
  split at hg
  · rename_i hm
    cases hg
    refine ⟨d.py, e.py, hx.dp.1, hy.dp.1, hx.dp.2, hy.dp.2, by rw [dep_py, dep_py]; exact hm, ?_⟩
    rw [eqv_py]
    exact k _ _ _ .refl (.bl _)
  · cases hg

/-! ### order -/
def strLt (a b : List Nat) : Bool := decide (a < b)
def dLt : D → D → Option D
  | .int a, .int b => some (.bl (decide (a < b)))
  | .str a, .str b => some (.bl (strLt a b))
  | _, _ => none
def dLe : D → D → Option D
  | .int a, .int b => some (.bl (decide (a ≤ b)))
  | .str a, .str b => some (.bl (!strLt b a))
  | _, _ => none
def dGt : D → D → Option D
  | .int a, .int b => some (.bl (decide (b < a)))
  | .str a, .str b => some (.bl (strLt b a))
  | _, _ => none
def dGe : D → D → Option D
  | .int a, .int b => some (.bl (decide (b ≤ a)))
  | .str a, .str b => some (.bl (!strLt a b))
  | _, _ => none
def rOrd (p : Int → Int → Bool) (q : Str → Str → Bool) : R2 := fun x y H Q => (rI0 fun i j => .bl (p i j)) x y H Q ∨ ∃ i j, x = .str i ∧ y = .str j ∧ Q (.bl (q i j)) H
theorem d_ord {K : PySem.W.Frag} {p : Int → Int → Bool} {q : Str → Str → Bool} {g : D → D → Option D} {gs : List Nat → List Nat → Bool} (hi : ∀ a b, g (.int a) (.int b) = some (.bl (p a b))) (hs : ∀ a b, g (.str a) (.str b) = some (.bl (gs a b)))
    (hq : ∀ a b : List Nat, q ⟨a.toArray⟩ ⟨b.toArray⟩ = gs a b) (hn : ∀ d e z, g d e = some z → (∃ a b, d = .int a ∧ e = .int b) ∨ ∃ a b, d = .str a ∧ e = .str b) : Op2 K (rOrd p q) g := by
  intro H ow x y d e z Q hx hy hg k
  rcases hn d e z hg with ⟨a, b, rfl, rfl⟩ | ⟨a, b, rfl, rfl⟩
  · rw [hi] at hg
    cases hg
    cases rpb_int hx
    cases rpb_int hy
    exact .inl ⟨_, _, rfl, rfl, k _ _ _ .refl (.bl _)⟩
  · rw [hs] at hg
    cases hg
    obtain ⟨e1, o1⟩ := rpb_str hx
    obtain ⟨e2, o2⟩ := rpb_str hy
    subst e1 e2
    refine .inr ⟨_, _, rfl, rfl, ?_⟩
    rw [hq]
    exact k _ _ _ .refl (.bl _)
theorem two_cases {g : D → D → Option D} {d e z : D} (h : g d e = some z) (h1 : ∀ d e, (∀ a b, ¬ (d = .int a ∧ e = .int b)) → (∀ a b, ¬ (d = .str a ∧ e = .str b)) → g d e = none) : (∃ a b, d = .int a ∧ e = .int b) ∨ ∃ a b, d = .str a ∧ e = .str b := by
  cases d <;> cases e <;> first
    | exact .inl ⟨_, _, rfl, rfl⟩
    | exact .inr ⟨_, _, rfl, rfl⟩
    | (rw [h1 _ _ (by rintro a b ⟨⟨⟩, ⟨⟩⟩) (by rintro a b ⟨⟨⟩, ⟨⟩⟩)] at h; cases h)
theorem op_ltA {X : Cx} : OpR X (compareOp .Lt) (rOrd (fun i j => decide (i < j)) fun i j => decide (i.cps.toList < j.cps.toList)) := op_lt.or op_lt_str
theorem op_leA {X : Cx} : OpR X (compareOp .LtE) (rOrd (fun i j => decide (i ≤ j)) fun i j => !decide (j.cps.toList < i.cps.toList)) := op_le.or op_le_str
theorem op_gtA {X : Cx} : OpR X (compareOp .Gt) (rOrd (fun i j => decide (j < i)) fun i j => decide (j.cps.toList < i.cps.toList)) := op_gt.or op_gt_str
theorem op_geA {X : Cx} : OpR X (compareOp .GtE) (rOrd (fun i j => decide (j ≤ i)) fun i j => !decide (i.cps.toList < j.cps.toList)) := op_ge.or op_ge_str
theorem ord_none {g : D → D → Option D} (hg : g = dLt ∨ g = dLe ∨ g = dGt ∨ g = dGe) : ∀ d e, (∀ a b, ¬ (d = .int a ∧ e = .int b)) → (∀ a b, ¬ (d = .str a ∧ e = .str b)) → g d e = none := by
  intro d e h1 h2
  cases d <;> cases e <;> first
    | exact absurd ⟨rfl, rfl⟩ (h1 _ _)
    | exact absurd ⟨rfl, rfl⟩ (h2 _ _)
    | (rcases hg with rfl | rfl | rfl | rfl <;> rfl)
theorem d_lt {K : PySem.W.Frag} : Op2 K (rOrd (fun i j => decide (i < j)) fun i j => decide (i.cps.toList < j.cps.toList)) dLt :=
  d_ord (gs := strLt) (fun _ _ => rfl) (fun _ _ => rfl) (fun a b => by simp [strLt]) fun d e z h => two_cases h (ord_none (.inl rfl))
theorem d_le {K : PySem.W.Frag} : Op2 K (rOrd (fun i j => decide (i ≤ j)) fun i j => !decide (j.cps.toList < i.cps.toList)) dLe :=
  d_ord (gs := fun a b => !strLt b a) (fun _ _ => rfl) (fun _ _ => rfl) (fun a b => by simp [strLt]) fun d e z h => two_cases h (ord_none (.inr (.inl rfl)))
theorem d_gt {K : PySem.W.Frag} : Op2 K (rOrd (fun i j => decide (j < i)) fun i j => decide (j.cps.toList < i.cps.toList)) dGt :=
  d_ord (gs := fun a b => strLt b a) (fun _ _ => rfl) (fun _ _ => rfl) (fun a b => by simp [strLt]) fun d e z h => two_cases h (ord_none (.inr (.inr (.inl rfl))))
theorem d_ge {K : PySem.W.Frag} : Op2 K (rOrd (fun i j => decide (j ≤ i)) fun i j => !decide (i.cps.toList < j.cps.toList)) dGe :=
  d_ord (gs := fun a b => !strLt a b) (fun _ _ => rfl) (fun _ _ => rfl) (fun a b => by simp [strLt]) fun d e z h => two_cases h (ord_none (.inr (.inr (.inr rfl))))

/-! ### in -/
/-- y stands in x -/
def subS (y x : List Nat) : Bool := (List.range (x.length + 1)).any fun i => decide (i + y.length ≤ x.length) && ((x.drop i).take y.length == y)
theorem subS_eq (y x : List Nat) : (!(Builtin.Str.occurrences (⟨x.toArray⟩ : Str) ⟨y.toArray⟩ 0 (⟨x.toArray⟩ : Str).length 1).isEmpty) = subS y x := by
  rw [Bool.eq_iff_iff, StrLaws.found_iff, subS, List.any_eq_true]
  constructor
  · rintro ⟨i, h1, h2⟩
    rw [StrLaws.subAt_eq] at h2
    rw [str_len, str_len] at h1
    refine ⟨i, List.mem_range.mpr (by omega), ?_⟩
    rw [str_len] at h2
    simp only [Bool.and_eq_true, decide_eq_true_eq]
    exact ⟨h1, by simpa using h2⟩
  · rintro ⟨i, _, h⟩
    simp only [Bool.and_eq_true, decide_eq_true_eq] at h
    refine ⟨i, by rw [str_len, str_len]; exact h.1, ?_⟩
    rw [StrLaws.subAt_eq, str_len]
    simpa using h.2
def D.atom : D → Bool
  | .lst _ => false
  | .tup _ => false
  | _ => true
def dInB : D → D → Option Bool
  | .str y, .str x => some (subS y x)
  | d, .lst xs => if d.atom && xs.all D.atom then some (xs.any fun e => D.beq e d) else none
  | d, .tup xs => if d.atom && xs.all D.atom then some (xs.any fun e => D.beq e d) else none
  | _, _ => none
def dIn (d e : D) : Option D := (dInB d e).map .bl
def dNotIn (d e : D) : Option D := (dInB d e).map fun b => .bl (!b)
section
variable {K : PySem.W.Frag} {H : Hp} {ow : Addr → Nat}
theorem atom_flat {v : V} {d : D} (h : Rp K H ow v d) (a : d.atom = true) : flatV v = true := by
  cases h <;> first | rfl | cases a
theorem atom_eq {v u : V} {d e : D} (h : Rp K H ow v d) (k : Rp K H ow u e) (a : d.atom = true) (b : e.atom = true) : eqV v u = D.beq d e := by
  cases h <;> cases k <;> first | rfl | (cases a; done) | (cases b; done) | skip
  all_goals first
    | rfl
    | (simp only [eqV, D.beq, str_eq_iff]; done)
    | (simp [eqV, D.beq]; done)
theorem atoms_flat : ∀ {ds : List D} {vs : List V}, RpL K H ow vs ds → ds.all D.atom = true → vs.all flatV = true
  | [], _, h, _ => by
    cases h
    rfl
  | d :: ds, _, h, a => by
    cases h with
    | cons h1 h2 =>
      simp only [List.all_cons, Bool.and_eq_true] at a ⊢
      exact ⟨atom_flat h1 a.1, atoms_flat h2 a.2⟩
theorem atoms_any {v : V} {d : D} (k : Rp K H ow v d) (b : d.atom = true) : ∀ {ds : List D} {vs : List V}, RpL K H ow vs ds → ds.all D.atom = true → inV v vs = ds.any fun e => D.beq e d
  | [], _, h, _ => by
    cases h
    rfl
  | e :: ds, _, h, a => by
    cases h with
    | cons h1 h2 =>
      simp only [List.all_cons, Bool.and_eq_true] at a
      have q := atoms_any k b h2 a.2
      unfold inV at q ⊢
      rw [List.any_cons, List.any_cons, q, atom_eq h1 k a.1 b]
theorem rpb_atom {v : V} {d : D} (h : RpB K H ow v d) (a : d.atom = true) : Rp K H ow v d := by
  cases d <;> first | exact h | cases a
end
def rInA (K : PySem.W.Frag) (neg : Bool) : R2 := fun x y H Q => (∃ i j, x = .str i ∧ y = .str j ∧ Q (.bl (if neg then !(!(Builtin.Str.occurrences j i 0 j.length 1).isEmpty) else !(Builtin.Str.occurrences j i 0 j.length 1).isEmpty)) H) ∨ rIn K neg x y H Q
theorem op_inA {X : Cx} : OpR X (compareOp .In) (rInA X.K false) := op_in_str.or op_in_seq
theorem op_notInA {X : Cx} : OpR X (compareOp .NotIn) (rInA X.K true) := op_notIn_str.or op_notIn_seq
theorem d_inG {K : PySem.W.Frag} {neg : Bool} : Op2 K (rInA K neg) fun d e => (dInB d e).map fun b => .bl (if neg then !b else b) := by
  intro H ow x y d e z Q hx hy hg k
  have seq : ∀ xs : List D, (∃ p vs, y = V.ref p ∧ (SqL K H p vs ∨ SqT K H p vs) ∧ RpL K H ow vs xs) → (if d.atom && xs.all D.atom then some (xs.any fun e => D.beq e d) else none).map (fun b => D.bl (if neg then !b else b)) = some z → rInA K neg x y H Q := by
    intro xs ⟨p, vs, e1, hs, r⟩ hg
    by_cases ha : (d.atom && xs.all D.atom) = true
    · rw [if_pos ha] at hg
      rw [Bool.and_eq_true] at ha
      cases hg
      have rx := rpb_atom hx ha.1
      refine .inr ⟨p, vs, e1, hs, atom_flat rx ha.1, atoms_flat r ha.2, ?_⟩
      rw [atoms_any rx ha.1 r ha.2]
      have := k (.bl (if neg then !(xs.any fun e => D.beq e d) else xs.any fun e => D.beq e d)) H ow .refl (.bl _)
      cases neg <;> exact this
    · rw [if_neg ha] at hg
      cases hg
  have hg : (dInB d e).map (fun b => D.bl (if neg then !b else b)) = some z := hg
  cases e with
  | str xs =>
    cases d with
    | str ys =>
      cases hg
      obtain ⟨e1, o1⟩ := rpb_str hx
      obtain ⟨e2, o2⟩ := rpb_str hy
      subst e1 e2
      refine .inl ⟨_, _, rfl, rfl, ?_⟩
      rw [subS_eq]
      have := k _ H ow .refl (.bl _)
      cases neg <;> exact this
    | _ => cases hg
  | lst xs =>
    obtain ⟨a, vs, e1, hs, r⟩ := hy
    have q : dInB d (.lst xs) = if d.atom && xs.all D.atom then some (xs.any fun e => D.beq e d) else none := by cases d <;> rfl
    rw [q] at hg
    exact seq _ ⟨a, vs, e1, .inl (SqL.of hs), r⟩ hg
  | tup xs =>
    obtain ⟨a, vs, e1, hs, r⟩ := rpb_tup hy
    have q : dInB d (.tup xs) = if d.atom && xs.all D.atom then some (xs.any fun e => D.beq e d) else none := by cases d <;> rfl
    rw [q] at hg
    exact seq _ ⟨a, vs, e1, .inr hs, r⟩ hg
  | _ => cases d <;> cases hg
theorem d_in {K : PySem.W.Frag} : Op2 K (rInA K false) dIn := d_inG (neg := false)
theorem d_notIn {K : PySem.W.Frag} : Op2 K (rInA K true) dNotIn := d_inG (neg := true)

/-! ### is -/
def dIsB : D → D → Option Bool
  | .non, .non => some true
  | _, .non => some false
  | .bl a, .bl b => some (a == b)
  | _, .bl _ => some false
  | _, _ => none
def dIs (d e : D) : Option D := (dIsB d e).map .bl
def dIsNot (d e : D) : Option D := (dIsB d e).map fun b => .bl (!b)
def rIsX (neg : Bool) : R2 := fun x y H Q => (y = .non ∨ ∃ b, y = .bl b) ∧ Q (.bl (if neg then !decide (x = y) else decide (x = y))) H
theorem plain_is {x y : V} {v u : Value} (rx : RelV x v) (ry : RelV y u) (h : y = .non ∨ ∃ b, y = .bl b) : plainIs v u = true ∧ (v == u) = decide (x = y) := by
  have hu : u = .none ∨ ∃ b, u = .bool b := by
    rcases h with rfl | ⟨b, rfl⟩
    · exact .inl ry
    · exact .inr ⟨b, ry⟩
  have q : plainIs v u = true := by
    cases x <;> first
      | (obtain ⟨t, rfl⟩ := rx; rcases hu with rfl | ⟨b, rfl⟩ <;> rfl)
      | (cases rx; rcases hu with rfl | ⟨b, rfl⟩ <;> rfl)
  refine ⟨q, ?_⟩
  by_cases e : x = y
  · subst e
    have ev : v = u := by
      rcases h with rfl | ⟨b, rfl⟩
      · exact Eq.trans rx (Eq.symm ry)
      · exact Eq.trans rx (Eq.symm ry)
    rw [ev, beq_self_eq_true, decide_eq_true rfl]
  · rw [decide_eq_false e]
    refine beq_eq_false_iff_ne.mpr fun ev => e ?_
    subst ev
    exact rx.inj ry
theorem op_isX {X : Cx} : OpR X (compareOp .Is) (rIsX false) := by
  intro pins s σ H x y v u Q I rx ry h
  obtain ⟨hy, q⟩ := h
  obtain ⟨p1, p2⟩ := plain_is rx ry hy
  exact wpAny_is_plain p1 ⟨.bl _, H, I, by rw [p2]; rfl, q⟩
theorem op_isNotX {X : Cx} : OpR X (compareOp .IsNot) (rIsX true) := by
  intro pins s σ H x y v u Q I rx ry h
  obtain ⟨hy, q⟩ := h
  obtain ⟨p1, p2⟩ := plain_is rx ry hy
  exact wpAny_isNot_plain p1 ⟨.bl _, H, I, by rw [p2]; rfl, q⟩
theorem d_isG {K : PySem.W.Frag} {neg : Bool} : Op2 K (rIsX neg) fun d e => (dIsB d e).map fun b => .bl (if neg then !b else b) := by
  intro H ow x y d e z Q hx hy hg k
  have key : ∀ b, dIsB d e = some b → (y = .non ∨ ∃ b, y = .bl b) ∧ decide (x = y) = b := by
    intro b hb
    cases e with
    | non =>
      cases rpb_non hy
      refine ⟨.inl rfl, ?_⟩
      cases d with
      | non =>
        cases rpb_non hx
        cases hb
        rfl
      | lst ds =>
        obtain ⟨a, xs, e1, _⟩ := hx
        subst e1
        cases hb
        rfl
      | bl c =>
        cases rpb_bl hx
        cases hb
        rfl
      | int c =>
        cases rpb_int hx
        cases hb
        rfl
      | str c =>
        obtain ⟨e1, _⟩ := rpb_str hx
        subst e1
        cases hb
        rfl
      | tup c =>
        obtain ⟨a, xs, e1, _⟩ := rpb_tup hx
        subst e1
        cases hb
        rfl
    | bl b2 =>
      cases rpb_bl hy
      refine ⟨.inr ⟨_, rfl⟩, ?_⟩
      cases d with
      | non =>
        cases rpb_non hx
        cases hb
        rfl
      | lst ds =>
        obtain ⟨a, xs, e1, _⟩ := hx
        subst e1
        cases hb
        rfl
      | bl c =>
        cases rpb_bl hx
        have hb : (some (c == b2)) = some b := hb
        cases hb
        cases c <;> cases b2 <;> rfl
      | int c =>
        cases rpb_int hx
        cases hb
        rfl
      | str c =>
        obtain ⟨e1, _⟩ := rpb_str hx
        subst e1
        cases hb
        rfl
      | tup c =>
        obtain ⟨a, xs, e1, _⟩ := rpb_tup hx
        subst e1
        cases hb
        rfl
    | _ => cases d <;> cases hb
  have hg : (dIsB d e).map (fun b => D.bl (if neg then !b else b)) = some z := hg
  cases hb : dIsB d e with
  | none =>
    rw [hb] at hg
    cases hg
  | some b =>
    rw [hb] at hg
    cases hg
    obtain ⟨q1, q2⟩ := key b hb
    refine ⟨q1, ?_⟩
    rw [q2]
    exact k _ _ _ .refl (.bl _)
theorem d_is {K : PySem.W.Frag} : Op2 K (rIsX false) dIs := d_isG (neg := false)
theorem d_isNot {K : PySem.W.Frag} : Op2 K (rIsX true) dIsNot := d_isG (neg := true)
end Dy

namespace Dy
open PySem PySem.Spec PyProof.Rows L2

/-! ### tests -/
def D.truth : D → Bool
  | .non => false
  | .bl b => b
  | .int i => i != 0
  | .str s => (s.length : Int) != 0
  | .tup xs => !xs.isEmpty
  | .lst xs => !xs.isEmpty
section
variable {K : PySem.W.Frag} {H : Hp} {ow : Addr → Nat} {v : V}
theorem rpl_empty {vs : List V} {ds : List D} (r : RpL K H ow vs ds) : (!vs.isEmpty) = !ds.isEmpty := by
  cases r <;> rfl
theorem RpB.tru {d : D} (h : RpB K H ow v d) : TruV K v H d.truth := by
  cases d with
  | non =>
    cases rpb_non h
    rfl
  | bl b =>
    cases rpb_bl h
    rfl
  | int i =>
    cases rpb_int h
    rfl
  | str s =>
    obtain ⟨e, o⟩ := rpb_str h
    subst e
    exact ⟨by rw [str_len]; exact o.1, by rw [str_len]; rfl⟩
  | tup xs =>
    obtain ⟨a, vs, e, hs, r⟩ := rpb_tup h
    subst e
    exact .inr (.inl ⟨vs, hs, (rpl_empty r).symm⟩)
  | lst xs =>
    obtain ⟨a, vs, e, hs, r⟩ := h
    subst e
    exact .inl ⟨vs, SqL.of hs, (rpl_empty r).symm⟩
end
def asB : D → M Bool
  | .bl b => M.ret b
  | _ => M.fail
def mTru (ta : M Op) : M Bool := ta.bind fun x => (rdO x).bind fun d => M.ret d.truth
def mTest (t : M D) : M Bool := t.bind asB
def mNot (t : M Bool) : M Bool := t.bind fun b => M.ret (!b)
def mAnd (t u : M Bool) : M Bool := t.bind fun b => if b then u else M.ret false
def mOr (t u : M Bool) : M Bool := t.bind fun b => if b then M.ret true else u
def mIf {α : Type} (t : M Bool) (u v : M α) : M α := t.bind fun b => if b then u else v
def mAndV (t u : M D) : M D := t.bind fun d => if d.truth then u else M.ret d
def mOrV (t u : M D) : M D := t.bind fun d => if d.truth then M.ret d else u
def mNotV (ta : M Op) : M D := ta.bind fun x => (rdO x).bind fun d => M.ret (.bl (!d.truth))
def mVal (t : M Bool) : M D := t.bind fun b => M.ret (.bl b)
section
variable {C : Cc} {a b c : Expr} {es rest : List Expr} {pos : Pos} {ta tb tc : M Op} {op : CmpOp}
theorem jt_truth (kk : ∀ κ, (C.X κ).K = C.K) (ha : JO C a ta) (he : ∀ κ, ∀ whole, isTrue a (C.X κ).env whole = (do let v ← whole; standAt a.pos; holding [v] (truthy v)) := by intro _; intro _; rfl) : JT C a (mTru ta) := by
  obtain ⟨qa, pa, ka⟩ := ha.ex
  refine ⟨fun σ H Q => qa σ H fun x H' => ∃ k, TruV C.K x H' k ∧ Q k H', fun κ => by rw [← kk κ]; exact pt_truth (pa κ) (he κ), fun σ H ow ρ Q sr hE => ?_⟩
  refine ka σ H ow ρ _ sr (hE.bind.imp fun x ρ1 H1 ow1 s1 sr1 q1 v rv => ?_)
  obtain ⟨d, bd, q2⟩ := q1.rd1 sr1 rv
  exact ⟨d.truth, bd.tru, q2 H1 ow1 .refl sr1⟩
theorem je_cmp {r : R2} {g : D → D → Option D} (ho : ∀ κ, OpR (C.X κ) (compareOp op) r) (hg : Op2 C.K r g) (ha : JO C a ta) (hb : JO C b tb) (hm : behindInMarks op b = false := by rfl) : JE C (.Compare a [op] [b] pos) (mBin g ta tb) := by
  obtain ⟨qa, qb, pa, pb, k⟩ := two_ops hg ha hb
  exact ⟨_, fun κ => pe_cmpR (ho κ) (pa κ) (pb κ) hm, k⟩
theorem EndE.asB {α : Type} {σ : L2.St} {H : Hp} {ow : Addr → Nat} {ρ : Ev} {d : D} {G : Bool → Ev → Hp → (Addr → Nat) → Prop} (h : EndE C σ H ow (Dy.asB d ρ) G) : ∃ b, d = .bl b ∧ ∀ H' ow', Stp C.an H H' ow ow' → SR C.K H' ow' σ ρ → G b ρ H' ow' := by
  cases d with
  | bl b => exact ⟨b, rfl, h⟩
  | _ => exact h.elim
theorem jt_cmp {r : R2} {g : D → D → Option D} (ho : ∀ κ, OpR (C.X κ) (compareOp op) r) (hg : Op2 C.K r g) (ha : JO C a ta) (hb : JO C b tb) (hm : behindInMarks op b = false := by rfl) : JT C (.Compare a [op] [b] pos) (mTest (mBin g ta tb)) := by
  obtain ⟨qa, qb, pa, pb, k⟩ := two_ops hg ha hb
  refine ⟨_, fun κ => pt_cmpR (ho κ) (pa κ) (pb κ) hm, fun σ H ow ρ Q sr hE => k σ H ow ρ _ sr (hE.bind.imp fun d ρ1 H1 ow1 s1 sr1 q1 v rv => ?_)⟩
  obtain ⟨b, e, q⟩ := q1.asB (α := Unit)
  subst e
  cases rv
  exact ⟨b, rfl, q H1 ow1 .refl sr1⟩
/-- a op1 b op2 c -/
def mChain (g g' : D → D → Option D) (ta tb tc : M Op) : M D := ta.bind fun x => tb.bind fun y => (rdO x).bind fun x => (rdO y).bind fun y' => (M.lift (g x y')).bind fun d => (asB d).bind fun k =>
  if k then tc.bind fun z => (rdO y).bind fun y => (rdO z).bind fun z => M.lift (g' y z) else M.ret (.bl false)
theorem chain_ops {op op' : CmpOp} {r r' : R2} {g g' : D → D → Option D} (hg : Op2 C.K r g) (hg' : Op2 C.K r' g') (ha : JO C a ta) (hb : JO C b tb) (hc : JO C c tc) : ∃ qa qb qc, (∀ κ, PE (C.X κ) a qa) ∧ (∀ κ, PE (C.X κ) b qb) ∧ (∀ κ, PE (C.X κ) c qc) ∧
    ∀ σ H ow ρ (Q : VK), SR C.K H ow σ ρ → EndE C σ H ow (mChain g g' ta tb tc ρ) (fun d _ H' ow' => ∀ v, Rp C.K H' ow' v d → Q v H') → tChain r r' qa qb qc σ H Q := by
  obtain ⟨qa, pa, ka⟩ := ha.ex
  obtain ⟨qb, pb, kb⟩ := hb.ex
  obtain ⟨qc, pc, kc⟩ := hc.ex
  refine ⟨qa, qb, qc, pa, pb, pc, fun σ H ow ρ Q sr hE => ?_⟩
  refine ka σ H ow ρ _ sr (hE.bind.imp fun x ρ1 H1 ow1 s1 sr1 q1 v rv => ?_)
  refine kb σ H1 ow1 ρ1 _ sr1 (q1.bind.imp fun y ρ2 H2 ow2 s2 sr2 q2 u ru => ?_)
  obtain ⟨d, bd, q3⟩ := q2.rd1 sr2 (rv.stp s2)
  obtain ⟨e, be, q4⟩ := q3.rd1 sr2 ru
  have q5 := q4.bind
  obtain ⟨z, ez, q5⟩ := q5.lift
  refine hg H2 ow2 v u d e z _ bd be ez fun w H3 ow3 gr rw' => ?_
  have sr3 := sr2.grow gr
  have q6 := (q5 H3 ow3 gr.stp sr3).bind
  obtain ⟨k, ek, q7⟩ := q6.asB (α := Unit)
  subst ek
  cases rw'
  refine ⟨k, rfl, ?_⟩
  have q8 := q7 H3 ow3 .refl sr3
  cases k with
  | true =>
    rw [if_pos rfl] at q8 ⊢
    refine kc σ H3 ow3 ρ2 _ sr3 (q8.bind.imp fun z ρ4 H4 ow4 s4 sr4 q9 t rt => ?_)
    obtain ⟨d', bd', q10⟩ := q9.rd1 sr4 ((ru.stp (gr.stp (an := C.an))).stp s4)
    obtain ⟨e', be', q11⟩ := q10.rd1 sr4 rt
    obtain ⟨z', ez', q12⟩ := q11.lift
    exact hg' H4 ow4 u t d' e' z' Q bd' be' ez' fun w H' ow' gr' rw' => q12 H' ow' gr'.stp (sr4.grow gr') w rw'
  | false =>
    rw [if_neg Bool.false_ne_true] at q8 ⊢
    exact q8 H3 ow3 .refl sr3 _ (.bl false)
theorem je_chain {op op' : CmpOp} {r r' : R2} {g g' : D → D → Option D} (ho : ∀ κ, OpR (C.X κ) (compareOp op) r) (hg : Op2 C.K r g) (ho' : ∀ κ, OpR (C.X κ) (compareOp op') r') (hg' : Op2 C.K r' g') (ha : JO C a ta) (hb : JO C b tb) (hc : JO C c tc)
    (hm : lastMarks [op, op'] [b, c] = false := by with_unfolding_all rfl) : JE C (.Compare a [op, op'] [b, c] pos) (mChain g g' ta tb tc) := by
  obtain ⟨qa, qb, qc, pa, pb, pc, k⟩ := chain_ops (op := op) (op' := op') hg hg' ha hb hc
  exact ⟨_, fun κ => pe_chain (ho κ) (ho' κ) (pa κ) (pb κ) (pc κ) hm, k⟩
theorem jt_chain {op op' : CmpOp} {r r' : R2} {g g' : D → D → Option D} (ho : ∀ κ, OpR (C.X κ) (compareOp op) r) (hg : Op2 C.K r g) (ho' : ∀ κ, OpR (C.X κ) (compareOp op') r') (hg' : Op2 C.K r' g') (ha : JO C a ta) (hb : JO C b tb) (hc : JO C c tc)
    (hm : lastMarks [op, op'] [b, c] = false := by with_unfolding_all rfl) : JT C (.Compare a [op, op'] [b, c] pos) (mTest (mChain g g' ta tb tc)) := by
  obtain ⟨qa, qb, qc, pa, pb, pc, k⟩ := chain_ops (op := op) (op' := op') hg hg' ha hb hc
  refine ⟨_, fun κ => pt_chain (ho κ) (ho' κ) (pa κ) (pb κ) (pc κ) hm, fun σ H ow ρ Q sr hE => k σ H ow ρ _ sr (hE.bind.imp fun d ρ1 H1 ow1 s1 sr1 q1 v rv => ?_)⟩
  obtain ⟨b, e, q⟩ := q1.asB (α := Unit)
  subst e
  cases rv
  exact ⟨b, rfl, q H1 ow1 .refl sr1⟩
theorem jt_not {t : M Bool} (h : JT C a t) : JT C (.UnaryOp .Not a pos) (mNot t) := by
  obtain ⟨q, p, k⟩ := h.ex
  exact ⟨_, fun κ => pt_not (p κ), fun σ H ow ρ Q sr hE => k σ H ow ρ _ sr (hE.bind.imp fun b ρ1 H1 ow1 s1 sr1 q1 => q1 H1 ow1 .refl sr1)⟩
theorem jt_w {t : M Bool} (h : JW C a t) : JT C a t := by
  obtain ⟨q, p, k⟩ := h.ex
  exact ⟨q, fun κ => (p κ).pt, k⟩
theorem jw_and1 {t : M Bool} (h : JT C a t) : JW C (.BoolOp .And [a] pos) t := by
  obtain ⟨q, p, k⟩ := h.ex
  exact ⟨q, fun κ => pw_and1 (p κ), k⟩
theorem jw_or1 {t : M Bool} (h : JT C a t) : JW C (.BoolOp .Or [a] pos) t := by
  obtain ⟨q, p, k⟩ := h.ex
  exact ⟨q, fun κ => pw_or1 (p κ), k⟩
theorem jw_and {t u : M Bool} (h : JT C a t) (h2 : JW C (.BoolOp .And (b :: rest) pos) u) : JW C (.BoolOp .And (a :: b :: rest) pos) (mAnd t u) := by
  obtain ⟨q, p, k⟩ := h.ex
  obtain ⟨q', p', k'⟩ := h2.ex
  refine ⟨_, fun κ => pw_and (p κ) (p' κ), fun σ H ow ρ Q sr hE => k σ H ow ρ _ sr (hE.bind.imp fun b ρ1 H1 ow1 s1 sr1 q1 => ?_)⟩
  cases b with
  | true =>
    rw [if_pos rfl] at q1 ⊢
    exact k' σ H1 ow1 ρ1 Q sr1 q1
  | false =>
    rw [if_neg Bool.false_ne_true] at q1 ⊢
    exact q1 H1 ow1 .refl sr1
theorem jw_or {t u : M Bool} (h : JT C a t) (h2 : JW C (.BoolOp .Or (b :: rest) pos) u) : JW C (.BoolOp .Or (a :: b :: rest) pos) (mOr t u) := by
  obtain ⟨q, p, k⟩ := h.ex
  obtain ⟨q', p', k'⟩ := h2.ex
  refine ⟨_, fun κ => pw_or (p κ) (p' κ), fun σ H ow ρ Q sr hE => k σ H ow ρ _ sr (hE.bind.imp fun b ρ1 H1 ow1 s1 sr1 q1 => ?_)⟩
  cases b with
  | true =>
    rw [if_pos rfl] at q1 ⊢
    exact q1 H1 ow1 .refl sr1
  | false =>
    rw [if_neg Bool.false_ne_true] at q1 ⊢
    exact k' σ H1 ow1 ρ1 Q sr1 q1
theorem je_one {op : BoolOp} {t : M D} (h : JE C a t) : JE C (.BoolOp op [a] pos) t := by
  obtain ⟨q, p, k⟩ := h.ex
  exact ⟨q, fun κ => pe_one (p κ), k⟩
theorem je_and (kk : ∀ κ, (C.X κ).K = C.K) {t u : M D} (h : JE C a t) (h2 : JE C (.BoolOp .And (b :: rest) pos) u) : JE C (.BoolOp .And (a :: b :: rest) pos) (mAndV t u) := by
  obtain ⟨q, p, k⟩ := h.ex
  obtain ⟨q', p', k'⟩ := h2.ex
  refine ⟨tAndT C.K q q', fun κ => by rw [← kk κ]; exact pe_andT (p κ) (p' κ), fun σ H ow ρ Q sr hE => k σ H ow ρ _ sr (hE.bind.imp fun d ρ1 H1 ow1 s1 sr1 q1 v rv => ?_)⟩
  refine ⟨d.truth, rv.b.tru, ?_⟩
  by_cases e : d.truth = true
  · rw [if_pos e] at q1 ⊢
    exact k' σ H1 ow1 ρ1 Q sr1 q1
  · rw [if_neg e] at q1 ⊢
    exact q1 H1 ow1 .refl sr1 v rv
theorem je_or (kk : ∀ κ, (C.X κ).K = C.K) {t u : M D} (h : JE C a t) (h2 : JE C (.BoolOp .Or (b :: rest) pos) u) : JE C (.BoolOp .Or (a :: b :: rest) pos) (mOrV t u) := by
  obtain ⟨q, p, k⟩ := h.ex
  obtain ⟨q', p', k'⟩ := h2.ex
  refine ⟨tOrT C.K q q', fun κ => by rw [← kk κ]; exact pe_orT (p κ) (p' κ), fun σ H ow ρ Q sr hE => k σ H ow ρ _ sr (hE.bind.imp fun d ρ1 H1 ow1 s1 sr1 q1 v rv => ?_)⟩
  refine ⟨d.truth, rv.b.tru, ?_⟩
  by_cases e : d.truth = true
  · rw [if_pos e] at q1 ⊢
    exact q1 H1 ow1 .refl sr1 v rv
  · rw [if_neg e] at q1 ⊢
    exact k' σ H1 ow1 ρ1 Q sr1 q1
theorem je_not (kk : ∀ κ, (C.X κ).K = C.K) (ha : JO C a ta) : JE C (.UnaryOp .Not a pos) (mNotV ta) := by
  obtain ⟨qa, pa, ka⟩ := ha.ex
  refine ⟨tNotT C.K qa, fun κ => by rw [← kk κ]; exact pe_notT (pa κ), fun σ H ow ρ Q sr hE => ka σ H ow ρ _ sr (hE.bind.imp fun x ρ1 H1 ow1 s1 sr1 q1 v rv => ?_)⟩
  obtain ⟨d, bd, q2⟩ := q1.rd1 sr1 rv
  exact ⟨d.truth, bd.tru, q2 H1 ow1 .refl sr1 _ (.bl _)⟩
theorem je_if {t : M Bool} {u v : M D} (hc : JT C c t) (ha : JE C a u) (hb : JE C b v) : JE C (.IfExp c a b pos) (mIf t u v) := by
  obtain ⟨q, p, k⟩ := hc.ex
  obtain ⟨qa, pa, ka⟩ := ha.ex
  obtain ⟨qb, pb, kb⟩ := hb.ex
  refine ⟨_, fun κ => pe_ifExp (p κ) (pa κ) (pb κ), fun σ H ow ρ Q sr hE => k σ H ow ρ _ sr (hE.bind.imp fun b ρ1 H1 ow1 s1 sr1 q1 => ?_)⟩
  cases b with
  | true =>
    rw [if_pos rfl] at q1 ⊢
    exact ka σ H1 ow1 ρ1 Q sr1 q1
  | false =>
    rw [if_neg Bool.false_ne_true] at q1 ⊢
    exact kb σ H1 ow1 ρ1 Q sr1 q1

/-! ### arguments, displays -/
structure JL (C : Cc) (es : List Expr) (t : M (List D)) : Prop where
  ex : ∃ te, (∀ κ, PA (C.X κ) es te) ∧ ∀ σ H ow ρ (Q : List V → Hp → Prop), SR C.K H ow σ ρ → EndE C σ H ow (t ρ) (fun ds _ H' ow' => ∀ vs, RpL C.K H' ow' vs ds → Q vs H') → te σ H Q
def mCons {α : Type} (t : M α) (u : M (List α)) : M (List α) := t.bind fun x => u.bind fun xs => M.ret (x :: xs)
theorem ja_nil : JA C [] (M.ret []) := ⟨_, fun _ => pa_nil, fun σ H ow ρ Q sr hE => hE H ow .refl sr [] .nil⟩
theorem ja_cons {t : M (List Op)} (ha : JO C a ta) (hr : JA C es t) (hs : ∀ κ, starEach (a :: es) (C.X κ).env = (false, eval a (C.X κ).env) :: starEach es (C.X κ).env := by intro _; rfl) : JA C (a :: es) (mCons ta t) := by
  obtain ⟨q, p, k⟩ := ha.ex
  obtain ⟨q', p', k'⟩ := hr.ex
  refine ⟨_, fun κ => pa_cons (p κ) (p' κ) (hs κ), fun σ H ow ρ Q sr hE => k σ H ow ρ _ sr (hE.bind.imp fun x ρ1 H1 ow1 s1 sr1 q1 v rv => ?_)⟩
  refine k' σ H1 ow1 ρ1 _ sr1 (q1.bind.imp fun xs ρ2 H2 ow2 s2 sr2 q2 vs rvs => ?_)
  exact q2 H2 ow2 .refl sr2 _ (.cons (rv.stp s2) rvs)
theorem jl_nil : JL C [] (M.ret []) := ⟨_, fun _ => pa_nil, fun σ H ow ρ Q sr hE => hE H ow .refl sr [] .nil⟩
theorem jl_cons {t : M D} {u : M (List D)} (ha : JE C a t) (hr : JL C es u) (hs : ∀ κ, starEach (a :: es) (C.X κ).env = (false, eval a (C.X κ).env) :: starEach es (C.X κ).env := by intro _; rfl) : JL C (a :: es) (mCons t u) := by
  obtain ⟨q, p, k⟩ := ha.ex
  obtain ⟨q', p', k'⟩ := hr.ex
  refine ⟨_, fun κ => pa_cons (p κ) (p' κ) (hs κ), fun σ H ow ρ Q sr hE => k σ H ow ρ _ sr (hE.bind.imp fun x ρ1 H1 ow1 s1 sr1 q1 v rv => ?_)⟩
  refine k' σ H1 ow1 ρ1 _ sr1 (q1.bind.imp fun xs ρ2 H2 ow2 s2 sr2 q2 vs rvs => ?_)
  exact q2 H2 ow2 .refl sr2 _ (.cons (Rp.stp s2 rv) rvs)
def mTup (t : M (List D)) : M D := t.bind fun ds => if ds.length ≤ sizeLine then M.ret (.tup ds) else M.fail
def mLst (t : M (List D)) : M (List D) := t.bind fun ds => if ds.length ≤ sizeLine then M.ret ds else M.fail
theorem je_tup {t : M (List D)} {k} (h : JL C es t) : JE C (.Tuple es k pos) (mTup t) := by
  obtain ⟨q, p, kk⟩ := h.ex
  refine ⟨_, fun κ => pe_tup (p κ), fun σ H ow ρ Q sr hE => kk σ H ow ρ _ sr (hE.bind.imp fun ds ρ1 H1 ow1 s1 sr1 q1 vs rv => ?_)⟩
  by_cases hl : ds.length ≤ sizeLine
  · rw [if_pos hl] at q1
    refine ⟨by rw [rv.length]; exact hl, fun p hp => ?_⟩
    exact q1 _ _ (new_tup hp rv).1.stp (sr1.grow (new_tup hp rv).1) _ (new_tup hp rv).2
  · rw [if_neg hl] at q1
    exact q1.elim
/-- a new list at p, nobody's -/
theorem new_own {K : PySem.W.Frag} {H : Hp} {ow : Addr → Nat} {p : Addr} {vs : List V} {ds : List D} (hp : H p = none) (r : RpL K H ow vs ds) :
    Grow H (upd H p (.lst vs)) ow (own0 H ow 1) ∧ own0 H ow 1 p = 1 ∧ RpL K (upd H p (.lst vs)) (own0 H ow 1) vs ds :=
  ⟨Grow.of (same_new hp), own0_none hp, r.grow (Grow.of (same_new hp))⟩
theorem jn_lst {t : M (List D)} (h : JL C es t) : JN C (.List es pos) (mLst t) := by
  obtain ⟨q, p, kk⟩ := h.ex
  refine ⟨_, fun κ => pe_lst (p κ), fun σ H ow ρ Q sr hE => kk σ H ow ρ _ sr (hE.bind.imp fun ds ρ1 H1 ow1 s1 sr1 q1 vs rv => ?_)⟩
  by_cases hl : ds.length ≤ sizeLine
  · rw [if_pos hl] at q1
    refine ⟨by rw [rv.length]; exact hl, fun p hp => ?_⟩
    obtain ⟨g, w, r⟩ := new_own hp rv
    exact q1 _ _ g.stp (sr1.grow g) p vs (s1.free hp) upd_same w r
  · rw [if_neg hl] at q1
    exact q1.elim

/-! ### items, slices -/
end
end Dy

namespace Dy
open PySem PySem.Spec PyProof.Rows L2

/-! ### items, slices -/
def dIx : D → D → Option D
  | .lst xs, .int i => atI xs i
  | .tup xs, .int i => atI xs i
  | .str s, .int i => (atI s i).map fun c => .str [c]
  | _, _ => none
theorem RpL.atI {K : PySem.W.Frag} {H : Hp} {ow : Addr → Nat} {ds : List D} {vs : List V} {i : Int} {d : D} (r : RpL K H ow vs ds) (h : L2.atI ds i = some d) : ∃ v, L2.atI vs i = some v ∧ Rp K H ow v d := by
  unfold L2.atI at h ⊢
  rw [r.length]
  cases e : ixN ds.length i with
  | none =>
    rw [e] at h
    cases h
  | some j =>
    rw [e] at h
    exact r.get h
theorem atI_mem {α : Type} {xs : List α} {i : Int} {x : α} (h : L2.atI xs i = some x) : x ∈ xs := by
  unfold L2.atI at h
  cases e : ixN xs.length i with
  | none =>
    rw [e] at h
    cases h
  | some j =>
    rw [e] at h
    exact List.mem_of_getElem? h
theorem d_ix {K : PySem.W.Frag} : Op2 K (rIx K) dIx := by
  intro H ow x y d e z Q hx hy hg k
  unfold dIx at hg
  split at hg
  · obtain ⟨a, xs, rfl, hs, r⟩ := hx
    cases rpb_int hy
    obtain ⟨v, e1, rv⟩ := r.atI hg
    exact .inl ⟨a, xs, _, v, rfl, rfl, SqL.of hs, e1, k _ _ _ .refl rv⟩
  · obtain ⟨a, xs, rfl, hs, r⟩ := rpb_tup hx
    cases rpb_int hy
    obtain ⟨v, e1, rv⟩ := r.atI hg
    exact .inr (.inl ⟨a, xs, _, v, rfl, rfl, hs, e1, k _ _ _ .refl rv⟩)
  · rename_i s i
    obtain ⟨e1, o⟩ := rpb_str hx
    subst e1
    cases rpb_int hy
    cases e2 : L2.atI s i with
    | none =>
      rw [e2] at hg
      cases hg
    | some c =>
      rw [e2] at hg
      cases hg
      refine .inr (.inr ⟨_, _, c, rfl, rfl, by rw [str_len]; exact o.1, by simpa using e2, ?_⟩)
      have hc := o.2 c (atI_mem e2)
      exact k _ _ _ .refl (.str ⟨by show 1 ≤ sizeLine; decide, fun c' h' => by rw [List.mem_singleton] at h'; rw [h']; exact hc⟩)
  · cases hg
def cutL {α : Type} (xs : List α) (lo hi : Option Int) : List α := (xs.drop (HT.sIx xs.length 0 lo)).take (HT.sIx xs.length xs.length hi - HT.sIx xs.length 0 lo)
def dSl (lo hi : Option Int) : D → Option D
  | .lst xs => some (.lst (cutL xs lo hi))
  | .tup xs => some (.tup (cutL xs lo hi))
  | .str s => some (.str (cutL s lo hi))
  | _ => none
theorem cutL_mem {α : Type} {xs : List α} {lo hi : Option Int} {x : α} (h : x ∈ cutL xs lo hi) : x ∈ xs := List.mem_of_mem_drop (List.mem_of_mem_take h)
theorem cutL_length {α : Type} (xs : List α) (lo hi : Option Int) : (cutL xs lo hi).length ≤ xs.length := by
  unfold cutL
  rw [List.length_take, List.length_drop]
  omega
theorem RpL.cut {K : PySem.W.Frag} {H : Hp} {ow : Addr → Nat} {ds : List D} {vs : List V} (r : RpL K H ow vs ds) (lo hi : Option Int) : RpL K H ow (cutV vs lo hi) (cutL ds lo hi) := by
  unfold cutV cutL
  rw [r.length]
  exact (r.drop _).take _
def rSlAll (K : PySem.W.Frag) : V → Option Int → Option Int → Hp → VK → Prop := fun x lo hi H Q => rSlS x lo hi H Q ∨ rSlA K x lo hi H Q ∨ rSlL K x lo hi H Q
theorem sl_all {X : Cx} : SlR X (rSlAll X.K) := sl_str.or (sl_tupA.or sl_list)
/-- a part of a slice -/
structure JP (C : Cc) (e : Option Expr) (t : M (Option Int)) : Prop where
  ex : ∃ te, (∀ κ, PO (C.X κ) e te) ∧ ∀ σ H ow ρ (Q : Option Int → Hp → Prop), SR C.K H ow σ ρ → EndE C σ H ow (t ρ) (fun o _ H' _ => Q o H') → te σ H Q
def asI : D → M Int
  | .int i => M.ret i
  | _ => M.fail
def mPart (ta : M Op) : M (Option Int) := ta.bind fun x => (rdO x).bind fun d => (asI d).bind fun i => M.ret (some i)
def mSl (ta : M Op) (tl th : M (Option Int)) : M D := ta.bind fun x => tl.bind fun lo => th.bind fun hi => (rdO x).bind fun d => M.lift (dSl lo hi d)
section
variable {C : Cc} {a b c : Expr} {lo hi : Option Expr} {es : List Expr} {pos p2 : Pos} {ta tb tc : M Op} {tl th : M (Option Int)}
theorem je_ix (kk : ∀ κ, (C.X κ).K = C.K) (ha : JO C a ta) (hb : JO C b tb) (hs : PlainIx b := by intro _ _; rfl) : JE C (.Subscript a b pos) (mBin dIx ta tb) := by
  obtain ⟨qa, qb, pa, pb, k⟩ := two_ops d_ix ha hb
  exact ⟨tOp (rIx C.K) qa qb, fun κ => pe_ix (by rw [← kk κ]; exact ix_seq) (pa κ) (pb κ) hs, k⟩
theorem jp_none : JP C none (M.ret none) := ⟨_, fun _ => po_none, fun σ H ow ρ Q sr hE => hE H ow .refl sr⟩
theorem jp_some (ha : JO C a ta) : JP C (some a) (mPart ta) := by
  obtain ⟨qa, pa, ka⟩ := ha.ex
  refine ⟨_, fun κ => po_some (pa κ), fun σ H ow ρ Q sr hE => ka σ H ow ρ _ sr (hE.bind.imp fun x ρ1 H1 ow1 s1 sr1 q1 v rv => ?_)⟩
  obtain ⟨d, bd, q2⟩ := q1.rd1 sr1 rv
  cases d with
  | int i =>
    cases rpb_int bd
    exact ⟨i, rfl, q2 H1 ow1 .refl sr1⟩
  | _ => exact q2.elim
theorem je_sl (kk : ∀ κ, (C.X κ).K = C.K) (ha : JO C a ta) (hl : JP C lo tl) (hh : JP C hi th) : JE C (.Subscript a (.Slice lo hi none p2) pos) (mSl ta tl th) := by
  obtain ⟨qa, pa, ka⟩ := ha.ex
  obtain ⟨ql, pl, kl⟩ := hl.ex
  obtain ⟨qh, ph, kh⟩ := hh.ex
  refine ⟨tSl (rSlAll C.K) qa ql qh, fun κ => pe_slice (by rw [← kk κ]; exact sl_all) (pa κ) (pl κ) (ph κ), fun σ H ow ρ Q sr hE => ka σ H ow ρ _ sr (hE.bind.imp fun x ρ1 H1 ow1 s1 sr1 q1 v rv => ?_)⟩
  refine kl σ H1 ow1 ρ1 _ sr1 (q1.bind.imp fun lo ρ2 H2 ow2 s2 sr2 q2 => ?_)
  refine kh σ H2 ow2 ρ2 _ sr2 (q2.bind.imp fun hi ρ3 H3 ow3 s3 sr3 q3 => ?_)
  obtain ⟨d, bd, q4⟩ := q3.rd1 sr3 ((rv.stp s2).stp s3)
  obtain ⟨z, ez, q5⟩ := q4.lift
  cases d with
  | str s =>
    cases ez
    obtain ⟨e1, o⟩ := rpb_str bd
    subst e1
    refine .inl ⟨_, rfl, by rw [str_len]; exact o.1, ?_⟩
    have e2 : cutS (⟨s.toArray⟩ : Str) lo hi = ⟨(cutL s lo hi).toArray⟩ := by
      unfold cutS cutL
      rw [str_len]
    rw [e2]
    exact q5 H3 ow3 .refl sr3 _ (.str ⟨Nat.le_trans (cutL_length s lo hi) o.1, fun c hc => o.2 c (cutL_mem hc)⟩)
  | tup xs =>
    cases ez
    obtain ⟨a, vs, e1, hs, r⟩ := rpb_tup bd
    subst e1
    refine .inr (.inl ⟨a, vs, rfl, hs, fun hw => ?_, fun _ p hp => ?_⟩)
    · have e2 : cutL xs lo hi = xs := by
        unfold cutL
        rw [← r.length, hw.1, hw.2]
        simp [r.length]
      refine q5 H3 ow3 .refl sr3 _ ?_
      rw [e2]
      exact .tup hs r
    · exact q5 _ _ (new_tup hp (r.cut lo hi)).1.stp (sr3.grow (new_tup hp (r.cut lo hi)).1) _ (new_tup hp (r.cut lo hi)).2
  | lst xs =>
    cases ez
    obtain ⟨a, vs, e1, hs, r⟩ := bd
    subst e1
    refine .inr (.inr ⟨a, vs, rfl, SqL.of hs, fun p hp => ?_⟩)
    exact q5 _ _ (new_lst hp (r.cut lo hi)).1.stp (sr3.grow (new_lst hp (r.cut lo hi)).1) _ (new_lst hp (r.cut lo hi)).2
  | _ => cases ez
/-- xs[lo:hi] of a list, as a new list -/
def mSlN (ta : M Op) (tl th : M (Option Int)) : M (List D) := ta.bind fun x => tl.bind fun lo => th.bind fun hi => (rdO x).bind fun d => match d with
  | .lst xs => M.ret (cutL xs lo hi)
  | _ => M.fail
theorem jn_sl (kk : ∀ κ, (C.X κ).K = C.K) (ha : JO C a ta) (hl : JP C lo tl) (hh : JP C hi th) : JN C (.Subscript a (.Slice lo hi none p2) pos) (mSlN ta tl th) := by
  obtain ⟨qa, pa, ka⟩ := ha.ex
  obtain ⟨ql, pl, kl⟩ := hl.ex
  obtain ⟨qh, ph, kh⟩ := hh.ex
  refine ⟨tSl (rSlL C.K) qa ql qh, fun κ => pe_slice (by rw [← kk κ]; exact sl_list) (pa κ) (pl κ) (ph κ), fun σ H ow ρ Q sr hE => ka σ H ow ρ _ sr (hE.bind.imp fun x ρ1 H1 ow1 s1 sr1 q1 v rv => ?_)⟩
  refine kl σ H1 ow1 ρ1 _ sr1 (q1.bind.imp fun lo ρ2 H2 ow2 s2 sr2 q2 => ?_)
  refine kh σ H2 ow2 ρ2 _ sr2 (q2.bind.imp fun hi ρ3 H3 ow3 s3 sr3 q3 => ?_)
  obtain ⟨d, bd, q4⟩ := q3.rd1 sr3 ((rv.stp s2).stp s3)
  cases d with
  | lst xs =>
    obtain ⟨a, vs, e1, hs, r⟩ := bd
    subst e1
    refine ⟨a, vs, rfl, SqL.of hs, fun p hp => ?_⟩
    obtain ⟨g, w, r'⟩ := new_own hp (r.cut lo hi)
    exact q4 _ _ g.stp (sr3.grow g) p _ (s1.free (s2.free (s3.free hp))) upd_same w r'
  | _ => exact q4.elim

/-! ### built-ins -/
def CallD (K : PySem.W.Frag) (r : List V → Hp → VK → Prop) (g : List D → Option D) : Prop := ∀ (H : Hp) (ow : Addr → Nat) (vs : List V) (ds : List D) (z : D) (Q : VK), RpBs K H ow vs ds → g ds = some z →
  (∀ v H' ow', Grow H H' ow ow' → Rp K H' ow' v z → Q v H') → r vs H Q
/-- .. that make a new list -/
def CallN (K : PySem.W.Frag) (r : List V → Hp → VK → Prop) (g : List D → Option (List D)) : Prop := ∀ (H : Hp) (ow : Addr → Nat) (vs : List V) (ds : List D) (zs : List D) (Q : VK), RpBs K H ow vs ds → g ds = some zs →
  (∀ p us H' ow', Grow H H' ow ow' → H p = none → H' p = some (.lst us) → ow' p = 1 → RpL K H' ow' us zs → Q (.ref p) H') → r vs H Q
def mCall {α : Type} (g : List D → Option α) (ta : M (List Op)) : M α := ta.bind fun os => (rdOs os).bind fun ds => M.lift (g ds)
variable {t : M (List Op)} {x : Str} {p : Pos} {id T : String} {r : List V → Hp → VK → Prop}
theorem call_e {te : TA} (hd : ∀ σ H ow ρ (Q : List V → Hp → Prop), SR C.K H ow σ ρ → EndE C σ H ow (t ρ) (fun os _ H' ow' => ∀ vs, ROs C.K H' ow' σ vs os → Q vs H') → te σ H Q) {g : List D → Option D} (hg : CallD C.K r g) :
    ∀ σ H ow ρ (Q : VK), SR C.K H ow σ ρ → EndE C σ H ow (mCall g t ρ) (fun d _ H' ow' => ∀ v, Rp C.K H' ow' v d → Q v H') → tCB r te σ H Q := fun σ H ow ρ Q sr hE => hd σ H ow ρ _ sr (hE.bind.imp fun os ρ1 H1 ow1 s1 sr1 q1 vs rv => by
  obtain ⟨ds, bs, q2⟩ := q1.rds sr1 rv
  obtain ⟨z, ez, q3⟩ := q2.lift
  exact hg H1 ow1 vs ds z Q bs ez fun v H' ow' gr rv' => q3 H' ow' gr.stp (sr1.grow gr) v rv')
theorem call_n {te : TA} (hd : ∀ σ H ow ρ (Q : List V → Hp → Prop), SR C.K H ow σ ρ → EndE C σ H ow (t ρ) (fun os _ H' ow' => ∀ vs, ROs C.K H' ow' σ vs os → Q vs H') → te σ H Q) {g : List D → Option (List D)} (hg : CallN C.K r g) :
    ∀ σ H ow ρ (Q : VK), SR C.K H ow σ ρ → EndE C σ H ow (mCall g t ρ) (fun xs _ H' ow' => ∀ p vs, H p = none → H' p = some (.lst vs) → ow' p = 1 → RpL C.K H' ow' vs xs → Q (.ref p) H') → tCB r te σ H Q := fun σ H ow ρ Q sr hE => hd σ H ow ρ _ sr (hE.bind.imp fun os ρ1 H1 ow1 s1 sr1 q1 vs rv => by
  obtain ⟨ds, bs, q2⟩ := q1.rds sr1 rv
  obtain ⟨z, ez, q3⟩ := q2.lift
  exact hg H1 ow1 vs ds z Q bs ez fun p us H' ow' gr hp hp' w rv' => q3 H' ow' gr.stp (sr1.grow gr) p us (s1.free hp) hp' w rv')
theorem je_callB {g : List D → Option D} (hc : ∀ κ, CallR (C.X κ) (.builtin id) r) (hg : CallD C.K r g) (gl : ∀ κ, Gl (C.X κ) x) (hm : ∀ κ, (C.X κ).mg x = none) (hv : bootBuiltins x = some (.builtin id)) (ha : JA C (a :: es) t) (hn : x ≠ "__name__" := by decide) (hdb : (x == ("__debug__" : Str)) = false := by decide)
    (he : ∀ κ, starEach (a :: es) (C.X κ).env = (false, eval a (C.X κ).env) :: starEach es (C.X κ).env := by intro _; rfl) (hpl : ∀ κ, (backTo pos (starEach es (C.X κ).env)).any (·.1) = false := by intro _; rfl) : JE C (.Call (.Name x p) (a :: es) [] pos) (mCall g t) := by
  obtain ⟨qa, pa, ka⟩ := ha.ex
  exact ⟨_, fun κ => pe_callB (hc κ) (gl κ) (hm κ) hv (pa κ) hn hdb (he κ) (hpl κ), call_e ka hg⟩
theorem je_callTy {g : List D → Option D} (hc : ∀ κ, CallR (C.X κ) (.type T) r) (hg : CallD C.K r g) (gl : ∀ κ, Gl (C.X κ) x) (hm : ∀ κ, (C.X κ).mg x = none) (hv : bootBuiltins x = some (.type T)) (ha : JA C (a :: es) t) (hn : x ≠ "__name__" := by decide) (hdb : (x == ("__debug__" : Str)) = false := by decide)
    (he : ∀ κ, starEach (a :: es) (C.X κ).env = (false, eval a (C.X κ).env) :: starEach es (C.X κ).env := by intro _; rfl) (hpl : ∀ κ, (backTo pos (starEach es (C.X κ).env)).any (·.1) = false := by intro _; rfl) : JE C (.Call (.Name x p) (a :: es) [] pos) (mCall g t) := by
  obtain ⟨qa, pa, ka⟩ := ha.ex
  exact ⟨_, fun κ => pe_callTy (hc κ) (gl κ) (hm κ) hv (pa κ) hn hdb (he κ) (hpl κ), call_e ka hg⟩
theorem jn_callB {g : List D → Option (List D)} (hc : ∀ κ, CallR (C.X κ) (.builtin id) r) (hg : CallN C.K r g) (gl : ∀ κ, Gl (C.X κ) x) (hm : ∀ κ, (C.X κ).mg x = none) (hv : bootBuiltins x = some (.builtin id)) (ha : JA C (a :: es) t) (hn : x ≠ "__name__" := by decide) (hdb : (x == ("__debug__" : Str)) = false := by decide)
    (he : ∀ κ, starEach (a :: es) (C.X κ).env = (false, eval a (C.X κ).env) :: starEach es (C.X κ).env := by intro _; rfl) (hpl : ∀ κ, (backTo pos (starEach es (C.X κ).env)).any (·.1) = false := by intro _; rfl) : JN C (.Call (.Name x p) (a :: es) [] pos) (mCall g t) := by
  obtain ⟨qa, pa, ka⟩ := ha.ex
  exact ⟨_, fun κ => pe_callB (hc κ) (gl κ) (hm κ) hv (pa κ) hn hdb (he κ) (hpl κ), call_n ka hg⟩
theorem jn_callTy {g : List D → Option (List D)} (hc : ∀ κ, CallR (C.X κ) (.type T) r) (hg : CallN C.K r g) (gl : ∀ κ, Gl (C.X κ) x) (hm : ∀ κ, (C.X κ).mg x = none) (hv : bootBuiltins x = some (.type T)) (ha : JA C (a :: es) t) (hn : x ≠ "__name__" := by decide) (hdb : (x == ("__debug__" : Str)) = false := by decide)
    (he : ∀ κ, starEach (a :: es) (C.X κ).env = (false, eval a (C.X κ).env) :: starEach es (C.X κ).env := by intro _; rfl) (hpl : ∀ κ, (backTo pos (starEach es (C.X κ).env)).any (·.1) = false := by intro _; rfl) : JN C (.Call (.Name x p) (a :: es) [] pos) (mCall g t) := by
  obtain ⟨qa, pa, ka⟩ := ha.ex
  exact ⟨_, fun κ => pe_callTy (hc κ) (gl κ) (hm κ) hv (pa κ) hn hdb (he κ) (hpl κ), call_n ka hg⟩
end
section
variable {K : PySem.W.Frag} {H : Hp} {ow : Addr → Nat}
theorem rpbs_one {d : D} {vs : List V} (h : RpBs K H ow vs [d]) : ∃ v, vs = [v] ∧ RpB K H ow v d := by
  cases h with
  | cons h1 h2 =>
    cases h2
    exact ⟨_, rfl, h1⟩
theorem rpbs_two {d e : D} {vs : List V} (h : RpBs K H ow vs [d, e]) : ∃ v u, vs = [v, u] ∧ RpB K H ow v d ∧ RpB K H ow u e := by
  cases h with
  | cons h1 h2 =>
    obtain ⟨u, rfl, k⟩ := rpbs_one h2
    exact ⟨_, _, rfl, h1, k⟩
end
def dLen : List D → Option D
  | [.str s] => some (.int s.length)
  | [.lst xs] => some (.int xs.length)
  | [.tup xs] => some (.int xs.length)
  | _ => none
def rLenA (K : PySem.W.Frag) : List V → Hp → VK → Prop := fun xs H Q => (∃ p ys, xs = [.ref p] ∧ (SqL K H p ys ∨ SqT K H p ys) ∧ Q (.int ys.length) H) ∨ ∃ z, xs = [.str z] ∧ z.length ≤ sizeLine ∧ Q (.int z.length) H
theorem call_lenA {X : Cx} : CallR X (.builtin "len") (rLenA X.K) := call_len_seq.or call_len_str
theorem d_len {K : PySem.W.Frag} : CallD K (rLenA K) dLen := by
  intro H ow vs ds z Q hb hg k
  unfold dLen at hg
  split at hg
  · cases hg
    obtain ⟨v, rfl, b⟩ := rpbs_one hb
    obtain ⟨e, o⟩ := rpb_str b
    subst e
    refine .inr ⟨_, rfl, by rw [str_len]; exact o.1, ?_⟩
    rw [str_len]
    exact k _ _ _ .refl (.int _)
  · cases hg
    obtain ⟨v, rfl, a, xs, e, hs, r⟩ := rpbs_one hb
    subst e
    refine .inl ⟨a, xs, rfl, .inl (SqL.of hs), ?_⟩
    rw [r.length]
    exact k _ _ _ .refl (.int _)
  · cases hg
    obtain ⟨v, rfl, b⟩ := rpbs_one hb
    obtain ⟨a, xs, e, hs, r⟩ := rpb_tup b
    subst e
    refine .inl ⟨a, xs, rfl, .inr hs, ?_⟩
    rw [r.length]
    exact k _ _ _ .refl (.int _)
  · cases hg
def dInt : List D → Option D
  | [.int i] => some (.int i)
  | [.bl b] => some (.int (if b then 1 else 0))
  | _ => none
def rInt1 : List V → Hp → VK → Prop := fun xs H Q => (∃ i, xs = [.int i] ∧ Q (.int i) H) ∨ ∃ k, xs = [.bl k] ∧ Q (.int (if k then 1 else 0)) H
theorem d_int {K : PySem.W.Frag} : CallD K rInt1 dInt := by
  intro H ow vs ds z Q hb hg k
  unfold dInt at hg
  split at hg
  · cases hg
    obtain ⟨v, rfl, b⟩ := rpbs_one hb
    cases rpb_int b
    exact .inl ⟨_, rfl, k _ _ _ .refl (.int _)⟩
  · cases hg
    obtain ⟨v, rfl, b⟩ := rpbs_one hb
    cases rpb_bl b
    exact .inr ⟨_, rfl, k _ _ _ .refl (.int _)⟩
  · cases hg
def dAbs : List D → Option D
  | [.int i] => some (.int (if i < 0 then -i else i))
  | _ => none
def rAbs1 : List V → Hp → VK → Prop := fun xs H Q => ∃ i, xs = [.int i] ∧ Q (.int (if i < 0 then -i else i)) H
theorem d_abs {K : PySem.W.Frag} : CallD K rAbs1 dAbs := by
  intro H ow vs ds z Q hb hg k
  unfold dAbs at hg
  split at hg
  · cases hg
    obtain ⟨v, rfl, b⟩ := rpbs_one hb
    cases rpb_int b
    exact ⟨_, rfl, k _ _ _ .refl (.int _)⟩
  · cases hg
def dMin2 : List D → Option D
  | [.int i, .int j] => some (.int (if j < i then j else i))
  | _ => none
def dMax2 : List D → Option D
  | [.int i, .int j] => some (.int (if j > i then j else i))
  | _ => none
def rMin2i : List V → Hp → VK → Prop := fun xs H Q => ∃ i j, xs = [.int i, .int j] ∧ Q (.int (if j < i then j else i)) H
def rMax2i : List V → Hp → VK → Prop := fun xs H Q => ∃ i j, xs = [.int i, .int j] ∧ Q (.int (if j > i then j else i)) H
theorem d_min2 {K : PySem.W.Frag} : CallD K rMin2i dMin2 := by
  intro H ow vs ds z Q hb hg k
  unfold dMin2 at hg
  split at hg
  · cases hg
    obtain ⟨v, u, rfl, b1, b2⟩ := rpbs_two hb
    cases rpb_int b1
    cases rpb_int b2
    exact ⟨_, _, rfl, k _ _ _ .refl (.int _)⟩
  · cases hg
theorem d_max2 {K : PySem.W.Frag} : CallD K rMax2i dMax2 := by
  intro H ow vs ds z Q hb hg k
  unfold dMax2 at hg
  split at hg
  · cases hg
    obtain ⟨v, u, rfl, b1, b2⟩ := rpbs_two hb
    cases rpb_int b1
    cases rpb_int b2
    exact ⟨_, _, rfl, k _ _ _ .refl (.int _)⟩
  · cases hg
/-- list(xs): a new list -/
def dList : List D → Option (List D)
  | [.lst xs] => some xs
  | [.tup xs] => some xs
  | _ => none
def rListOf (K : PySem.W.Frag) : List V → Hp → VK → Prop := fun xs H Q => ∃ p ys, xs = [.ref p] ∧ (SqL K H p ys ∨ SqT K H p ys) ∧ ∀ l, H l = none → Q (.ref l) (upd H l (.lst ys))
theorem d_list {K : PySem.W.Frag} : CallN K (rListOf K) dList := by
  intro H ow vs ds z Q hb hg k
  unfold dList at hg
  split at hg
  · cases hg
    obtain ⟨v, rfl, a, xs, e, hs, r⟩ := rpbs_one hb
    subst e
    refine ⟨a, xs, rfl, .inl (SqL.of hs), fun l hl => ?_⟩
    obtain ⟨g, w, r'⟩ := new_own hl r
    exact k l xs _ _ g hl upd_same w r'
  · cases hg
    obtain ⟨v, rfl, b⟩ := rpbs_one hb
    obtain ⟨a, xs, e, hs, r⟩ := rpb_tup b
    subst e
    refine ⟨a, xs, rfl, .inr hs, fun l hl => ?_⟩
    obtain ⟨g, w, r'⟩ := new_own hl r
    exact k l xs _ _ g hl upd_same w r'
  · cases hg
def dTuple : List D → Option D
  | [.lst xs] => some (.tup xs)
  | [.tup xs] => some (.tup xs)
  | _ => none
def rTupOf (K : PySem.W.Frag) : List V → Hp → VK → Prop := fun xs H Q => ∃ p ys, xs = [.ref p] ∧ ((SqL K H p ys ∧ ∀ l, H l = none → Q (.ref l) (upd H l (.tup ys))) ∨ (SqT K H p ys ∧ Q (.ref p) H))
theorem d_tuple {K : PySem.W.Frag} : CallD K (rTupOf K) dTuple := by
  intro H ow vs ds z Q hb hg k
  unfold dTuple at hg
  split at hg
  · cases hg
    obtain ⟨v, rfl, a, xs, e, hs, r⟩ := rpbs_one hb
    subst e
    exact ⟨a, xs, rfl, .inl ⟨SqL.of hs, fun l hl => k _ _ _ (new_tup hl r).1 (new_tup hl r).2⟩⟩
  · cases hg
    obtain ⟨v, rfl, b⟩ := rpbs_one hb
    obtain ⟨a, xs, e, hs, r⟩ := rpb_tup b
    subst e
    exact ⟨a, xs, rfl, .inr ⟨hs, k _ _ _ .refl (.tup hs r)⟩⟩
  · cases hg
def asBs : List D → Option (List Bool)
  | [] => some []
  | .bl b :: ds => (asBs ds).map (b :: ·)
  | _ => none
theorem rpl_bls {K : PySem.W.Frag} {H : Hp} {ow : Addr → Nat} : ∀ {ds : List D} {vs : List V} {bs : List Bool}, RpL K H ow vs ds → asBs ds = some bs → vs = bs.map V.bl
  | [], _, _, r, h => by
    cases r
    cases h
    rfl
  | d :: ds, _, bs, r, h => by
    cases r with
    | cons r1 r2 =>
      cases r1 with
      | bl b =>
        have h : (asBs ds).map (b :: ·) = some bs := h
        cases e : asBs ds with
        | none =>
          rw [e] at h
          cases h
        | some cs =>
          rw [e] at h
          cases h
          rw [rpl_bls r2 e]
          rfl
      | _ => cases h
def dAll : List D → Option D
  | [.lst xs] => (asBs xs).map fun bs => .bl (bs.all id)
  | _ => none
def dAny : List D → Option D
  | [.lst xs] => (asBs xs).map fun bs => .bl (bs.any id)
  | _ => none
theorem d_all {K : PySem.W.Frag} : CallD K (rAll K) dAll := by
  intro H ow vs ds z Q hb hg k
  unfold dAll at hg
  split at hg
  · rename_i xs
    cases e : asBs xs with
    | none =>
      rw [e] at hg
      cases hg
    | some bs =>
      rw [e] at hg
      cases hg
      obtain ⟨v, rfl, a, us, e1, hs, r⟩ := rpbs_one hb
      subst e1
      have e2 := rpl_bls r e
      subst e2
      exact ⟨a, bs, rfl, SqL.of hs, k _ _ _ .refl (.bl _)⟩
  · cases hg
theorem d_any {K : PySem.W.Frag} : CallD K (rAny K) dAny := by
  intro H ow vs ds z Q hb hg k
  unfold dAny at hg
  split at hg
  · rename_i xs
    cases e : asBs xs with
    | none =>
      rw [e] at hg
      cases hg
    | some bs =>
      rw [e] at hg
      cases hg
      obtain ⟨v, rfl, a, us, e1, hs, r⟩ := rpbs_one hb
      subst e1
      have e2 := rpl_bls r e
      subst e2
      exact ⟨a, bs, rfl, SqL.of hs, k _ _ _ .refl (.bl _)⟩
  · cases hg
end Dy

namespace Dy
open PySem PySem.Spec PyProof.Rows L2

/-! ### what is stored at a name -/
/-- a datum, or a new list that the name alone will know -/
def SlN (K : PySem.W.Frag) (H0 H : Hp) (ow : Addr → Nat) (v : V) : Sl → Prop
  | .val d => Rp K H ow v d
  | .own xs => ∃ p vs, v = .ref p ∧ H0 p = none ∧ H p = some (.lst vs) ∧ ow p = 1 ∧ RpL K H ow vs xs
  | _ => False
structure JV (C : Cc) (e : Expr) (t : M Sl) : Prop where
  ex : ∃ te, (∀ κ, PE (C.X κ) e te) ∧ ∀ σ H ow ρ (Q : VK), SR C.K H ow σ ρ → EndE C σ H ow (t ρ) (fun s _ H' ow' => ∀ v, SlN C.K H H' ow' v s → Q v H') → te σ H Q
def mV (t : M D) : M Sl := t.bind fun d => M.ret (.val d)
def mO (t : M (List D)) : M Sl := t.bind fun xs => M.ret (.own xs)
def relab (ow : Addr → Nat) (v : V) (s : Sl) (i : Nat) : Addr → Nat := match s, v with
  | .own _, .ref p => shr ow p (i + 2)
  | _, _ => ow
section
variable {K : PySem.W.Frag} {an : List Nat} {H0 H1 H H' : Hp} {ow ow' : Addr → Nat} {σ : L2.St} {ρ : Ev} {v v' : V} {s s' : Sl} {i : Nat}
theorem SR.setOwn {p : Addr} {vs : List V} {xs : List D} (h : SR K H ow σ ρ) (hp : H p = some (.lst vs)) (w : ow p = 1) (r : RpL K H ow vs xs) : SR K H (shr ow p (i + 2)) (σ.set i (some (.ref p))) (ρ.set i (.own xs)) := by
  refine ⟨by simp [h.len], fun j t e => ?_⟩
  by_cases hj : i = j
  · subst hj
    by_cases hi : i < ρ.length
    · rw [List.getElem?_set_self hi] at e
      cases e
      rw [List.getElem?_set_self (by rw [h.len]; exact hi)]
      exact ⟨p, vs, rfl, hp, shr_same, shr_rpl w r⟩
    · rw [List.getElem?_eq_none (by simpa using hi)] at e
      cases e
  · rw [List.getElem?_set_ne hj] at e ⊢
    exact (shr_sr (n := i + 2) w h).get j t e
theorem relab_sr (h : SR K H ow σ ρ) (n : SlN K H0 H ow v s) : SR K H (relab ow v s i) (σ.set i (some v)) (ρ.set i s) := by
  cases s with
  | val d => exact h.setVal n
  | own xs =>
    obtain ⟨p, vs, rfl, _, hp, w, r⟩ := n
    exact h.setOwn hp w r
  | _ => exact n.elim
theorem relab_stp (st : Stp an H0 H ow ow') (n : SlN K H0 H ow' v s) : Stp an H0 H ow (relab ow' v s i) := by
  cases s with
  | val d => exact st
  | own xs =>
    obtain ⟨p, vs, rfl, hn, _⟩ := n
    exact shr_stp st hn
  | _ => exact n.elim
theorem SlN.stp (st : Stp an H H' ow ow') (n : SlN K H0 H ow v s) : SlN K H0 H' ow' v s := by
  cases s with
  | val d => exact Rp.stp st n
  | own xs =>
    obtain ⟨p, vs, e, hn, hp, w, r⟩ := n
    exact ⟨p, vs, e, hn, (st.keep _ _ hp (by rw [w]; decide)).1, (st.keep _ _ hp (by rw [w]; decide)).2.trans w, r.stp st⟩
  | _ => exact n.elim
/-- a later one is not the earlier one's list -/
theorem relab_sln (n : SlN K H0 H ow v s) (n' : SlN K H1 H ow v' s') (hd : ∀ p, H0 p = none → (∃ xs, s = .own xs ∧ v = .ref p) → H1 p ≠ none) : SlN K H1 H (relab ow v s i) v' s' := by
  cases s with
  | val d => exact n'
  | own xs =>
    obtain ⟨p, vs, rfl, hn, hp, w, r⟩ := n
    cases s' with
    | val d =>
      exact Rp.lab (fun a o _ ha => (shr_ne fun z => by rw [z, w] at ha; omega).trans ha) n'
    | own ys =>
      obtain ⟨q, us, rfl, hn', hq, w', r'⟩ := n'
      have hne : q ≠ p := fun z => hd p hn ⟨xs, rfl, rfl⟩ (z ▸ hn')
      exact ⟨q, us, rfl, hn', hq, (shr_ne hne).trans w', shr_rpl w r'⟩
    | _ => exact n'.elim
  | _ => exact n.elim
end
section
variable {C : Cc} {e a b c : Expr} {st : Stmt} {rest body orelse : List Stmt} {pos pos' : Pos} {x y : Str} {i j : Nat}
theorem jv_e {t : M D} (h : JE C e t) : JV C e (mV t) := by
  obtain ⟨q, p, k⟩ := h.ex
  exact ⟨q, p, fun σ H ow ρ Q sr hE => k σ H ow ρ Q sr (hE.bind.imp fun d ρ1 H1 ow1 s1 sr1 q1 v rv => q1 H1 ow1 .refl sr1 v rv)⟩
theorem jv_n {t : M (List D)} (h : JN C e t) : JV C e (mO t) := by
  obtain ⟨q, p, k⟩ := h.ex
  exact ⟨q, p, fun σ H ow ρ Q sr hE => k σ H ow ρ Q sr (hE.bind.imp fun d ρ1 H1 ow1 s1 sr1 q1 p vs hn hp w r => q1 H1 ow1 .refl sr1 _ ⟨p, vs, rfl, hn, hp, w, r⟩)⟩

/-! ### statements -/
def mNx : M Out := M.ret .nx
def mSet (i : Nat) (t : M Sl) : M Out := t.bind fun s ρ => .ok .nx (ρ.set i s)
def mPar (i j : Nat) (t u : M Sl) : M Out := t.bind fun s => u.bind fun s' ρ => .ok .nx ((ρ.set i s).set j s')
def mDrop (t : M D) : M Out := t.bind fun _ => M.ret .nx
def mRet (t : M D) : M Out := t.bind fun d => M.ret (.rt d)
def mSeq (t u : M Out) : M Out := t.bind fun o => match o with
  | .nx => u
  | .rt d => M.ret (.rt d)
  | .bk => M.ret .bk
  | .ct => M.ret .ct
theorem set_ends {t : M Sl} {σ : L2.St} {H : Hp} {ow : Addr → Nat} {ρ : Ev} {E : Ends} (ha : i ∉ C.an) (hE : End C σ H ow (mSet i t ρ) fun o _ σ' H' ow' => OutR C.K E o σ' H' ow') :
    EndE C σ H ow (t ρ) fun s _ H' ow' => ∀ v, SlN C.K H H' ow' v s → E.nx (σ.set i (some v)) H' := by
  unfold mSet M.bind at hE
  cases e1 : t ρ with
  | ok s ρ1 =>
    rw [e1] at hE
    intro H' ow' st sr v n
    exact hE (σ.set i (some v)) H' (relab ow' v s i) (relab_stp st n) (AnEq.set ha) (relab_sr sr n)
  | exc c d ρ1 =>
    rw [e1] at hE
    exact hE
  | stuck =>
    rw [e1] at hE
    exact hE
theorem js_set (ok : CcOk C) (i : Nat) {t : M Sl} (h : JV C e t) (ha : i ∉ C.an := by first | (show _ ∉ ([] : List Nat); decide) | (show _ ∉ ([0] : List Nat); decide)) (hi : ∀ κ, (C.X κ).N[i]? = some x := by intro _; rfl) (hx : ∀ κ, Loc (C.X κ).env.scope x := by intro _; first | exact .inl rfl | exact .inr rfl)
    (hs : ∀ κ, swapsWith e (some (.Name x pos')) pos.line (C.X κ).env = pure false := by intro _; rfl) (hf : ∀ κ, (C.X κ).fn x = true ∨ (C.X κ).env.scope.names.lookup x = some .local := by intro _; first | exact .inl rfl | exact .inr rfl | assumption) : JS C (.Assign [.Name x pos'] e pos) (mSet i t) := by
  obtain ⟨q, p, k⟩ := h.ex
  exact ⟨_, fun κ => ps_set (ok.nd κ) (hi κ) (hx κ) (p κ) (hs κ) (hf κ), fun σ H ow ρ E sr hE => k σ H ow ρ _ sr (set_ends ha hE)⟩
theorem js_par (ok : CcOk C) (i j : Nat) {t u : M Sl} {px py pt : Pos} {kt k2 pt2} (h : JV C a t) (h' : JV C b u) (hai : i ∉ C.an := by first | (show _ ∉ ([] : List Nat); decide) | (show _ ∉ ([0] : List Nat); decide)) (haj : j ∉ C.an := by first | (show _ ∉ ([] : List Nat); decide) | (show _ ∉ ([0] : List Nat); decide)) (hi : ∀ κ, (C.X κ).N[i]? = some x := by intro _; rfl) (hj : ∀ κ, (C.X κ).N[j]? = some y := by intro _; rfl)
    (hij : i ≠ j := by decide) (hx : ∀ κ, (C.X κ).env.scope.names.lookup x = some .local := by intro _; rfl) (hy : ∀ κ, (C.X κ).env.scope.names.lookup y = some .local := by intro _; rfl)
    (hw : ∀ κ, swappedStores [.Tuple [.Name x px, .Name y py] kt pt] (.Tuple [a, b] k2 pt2) (C.X κ).env = pure (some [x, y]) := by intro _; rfl)
    (hs : ∀ κ, swapsWithSole [.Tuple [.Name x px, .Name y py] kt pt] (.Tuple [a, b] k2 pt2) pos.line (C.X κ).env = pure false := by intro _; rfl)
    (hs1 : ∀ κ, starEach [a, b] (C.X κ).env = (false, eval a (C.X κ).env) :: starEach [b] (C.X κ).env := by intro _; rfl) (hs2 : ∀ κ, starEach [b] (C.X κ).env = (false, eval b (C.X κ).env) :: starEach [] (C.X κ).env := by intro _; rfl) :
    JS C (.Assign [.Tuple [.Name x px, .Name y py] kt pt] (.Tuple [a, b] k2 pt2) pos) (mPar i j t u) := by
  obtain ⟨q, p, k⟩ := h.ex
  obtain ⟨q', p', k'⟩ := h'.ex
  refine ⟨_, fun κ => ps_par (ok.calm κ) (ok.nd κ) (hi κ) (hj κ) hij (hx κ) (hy κ) (pa_cons (p κ) (pa_cons (p' κ) pa_nil (hs2 κ)) (hs1 κ)) (hw κ) (hs κ), fun σ H ow ρ E sr hE => ?_⟩
  unfold mPar M.bind at hE
  show q σ H fun v H1 => q' σ H1 fun w H2 => ∃ v' w', [v, w] = [v', w'] ∧ E.nx ((σ.set i (some v')).set j (some w')) H2
  refine k σ H ow ρ _ sr ?_
  cases e1 : t ρ with
  | exc c d ρ1 =>
    rw [e1] at hE
    exact hE
  | stuck =>
    rw [e1] at hE
    exact hE
  | ok s ρ1 =>
    rw [e1] at hE
    dsimp only at hE
    intro H1 ow1 s1 sr1 v n
    refine k' σ H1 ow1 ρ1 _ sr1 ?_
    cases e2 : u ρ1 with
    | exc c d ρ2 =>
      rw [e2] at hE
      exact Wish.from s1 .refl hE
    | stuck =>
      rw [e2] at hE
      exact hE
    | ok s' ρ2 =>
      rw [e2] at hE
      intro H2 ow2 s2 sr2 w n'
      refine ⟨v, w, rfl, ?_⟩
      have n2 : SlN C.K H H2 ow2 v s := n.stp s2
      have m2 : SlN C.K H1 H2 (relab ow2 v s i) w s' := relab_sln n2 n' fun p hp ⟨xs, es, ev⟩ => by
        subst es ev
        obtain ⟨p', vs, ep, hn, hp', _⟩ := n
        cases ep
        rw [hp']
        simp
      have m0 : SlN C.K H H2 (relab ow2 v s i) w s' := by
        cases s' with
        | own ys =>
          obtain ⟨p, vs, ep, hn, r⟩ := m2
          exact ⟨p, vs, ep, s1.free hn, r⟩
        | val d => exact m2
        | _ => exact m2.elim
      exact hE _ H2 _ (relab_stp (relab_stp (s1.trans s2) n2) m0) ((AnEq.set hai).trans (AnEq.set haj)) (relab_sr (relab_sr sr2 n2) m2)
theorem js_expr {t : M D} (h : JE C e t) (hs : ∀ κ, swapsWith e none pos.line (C.X κ).env = pure false := by intro _; rfl) : JS C (.Expr e pos) (mDrop t) := by
  obtain ⟨q, p, k⟩ := h.ex
  refine ⟨_, fun κ => ps_expr (p κ) (hs κ), fun σ H ow ρ E sr hE => k σ H ow ρ _ sr ((End.bindE hE).imp fun d ρ1 H1 ow1 s1 sr1 q1 v rv => ?_)⟩
  exact q1 σ H1 ow1 .refl .refl sr1
theorem js_ret {t : M D} (h : JE C e t) : JS C (.Return (some e) pos) (mRet t) := by
  obtain ⟨q, p, k⟩ := h.ex
  refine ⟨_, fun κ => ps_ret (p κ), fun σ H ow ρ E sr hE => k σ H ow ρ _ sr ((End.bindE hE).imp fun d ρ1 H1 ow1 s1 sr1 q1 v rv => ?_)⟩
  exact q1 σ H1 ow1 .refl .refl sr1 v rv
theorem js_retN : JS C (.Return none pos) (M.ret (.rt .non)) := ⟨_, fun _ => ps_retN, fun σ H ow ρ E sr hE => hE σ H ow .refl .refl sr _ .non⟩
theorem js_pass : JS C (.Pass pos) mNx := ⟨_, fun _ => ps_pass, fun σ H ow ρ E sr hE => hE σ H ow .refl .refl sr⟩
theorem js_brk : JS C (.Break pos) (M.ret .bk) := ⟨_, fun _ => ps_break, fun σ H ow ρ E sr hE => hE σ H ow .refl .refl sr⟩
theorem js_cont : JS C (.Continue pos) (M.ret .ct) := ⟨_, fun _ => ps_continue, fun σ H ow ρ E sr hE => hE σ H ow .refl .refl sr⟩
theorem jb_nil : JB C [] mNx := ⟨_, fun _ => pss_nil, fun σ H ow ρ E sr hE => hE σ H ow .refl .refl sr⟩
theorem jb_cons {t u : M Out} (h : JS C st t) (h' : JB C rest u) : JB C (st :: rest) (mSeq t u) := by
  obtain ⟨q, p, k⟩ := h.ex
  obtain ⟨q', p', k'⟩ := h'.ex
  refine ⟨_, fun κ => pss_cons (p κ) (p' κ), fun σ H ow ρ E sr hE => k σ H ow ρ _ sr ((End.bind hE).imp fun o ρ1 σ1 H1 ow1 s1 a1 sr1 q1 => ?_)⟩
  cases o with
  | nx => exact k' σ1 H1 ow1 ρ1 E sr1 q1
  | rt d => exact q1 σ1 H1 ow1 .refl .refl sr1
  | bk => exact q1 σ1 H1 ow1 .refl .refl sr1
  | ct => exact q1 σ1 H1 ow1 .refl .refl sr1
theorem jb_one {t : M Out} (h : JS C st t) : JB C [st] t := by
  obtain ⟨q, p, k⟩ := h.ex
  exact ⟨q, fun κ => pss_one (p κ), k⟩
theorem js_if {t : M Bool} {u v : M Out} (hc : JT C c t) (ha : JB C body u) (hb : JB C orelse v) : JS C (.If c body orelse pos) (mIf t u v) := by
  obtain ⟨q, p, k⟩ := hc.ex
  obtain ⟨qa, pa, ka⟩ := ha.ex
  obtain ⟨qb, pb, kb⟩ := hb.ex
  refine ⟨_, fun κ => ps_if (p κ) (pa κ) (pb κ), fun σ H ow ρ E sr hE => k σ H ow ρ _ sr ((End.bindE hE).imp fun b ρ1 H1 ow1 s1 sr1 q1 => ?_)⟩
  cases b with
  | true =>
    rw [if_pos rfl] at q1 ⊢
    exact ka σ H1 ow1 ρ1 E sr1 q1
  | false =>
    rw [if_neg Bool.false_ne_true] at q1 ⊢
    exact kb σ H1 ow1 ρ1 E sr1 q1

/-! ### while -/
def loopO (o : Out) (again : M Out) : M Out := match o with
  | .nx => again
  | .ct => again
  | .bk => M.ret .nx
  | .rt d => M.ret (.rt d)
def wTurn (b : M Out) (again : M Out) : Bool → M Out
  | true => b.bind fun o => loopO o again
  | false => M.ret .nx
def whileF : Nat → M Bool → M Out → M Out
  | 0, _, _ => M.fail
  | n + 1, t, b => t.bind (wTurn b (whileF n t b))
open Classical in
noncomputable def mWhile (t : M Bool) (b : M Out) : M Out := fun ρ => if h : ∃ n, whileF n t b ρ ≠ .stuck then whileF (Classical.choose h) t b ρ else .stuck
theorem bind_ok {α β : Type} {t : M α} {f : α → M β} {ρ ρ' : Ev} {a : α} (h : t ρ = .ok a ρ') : t.bind f ρ = f a ρ' := by
  unfold M.bind
  rw [h]
theorem bind_exc {α β : Type} {t : M α} {f : α → M β} {ρ ρ' : Ev} {c : Nat} {d : D} (h : t ρ = .exc c d ρ') : t.bind f ρ = .exc c d ρ' := by
  unfold M.bind
  rw [h]
theorem bind_stuck {α β : Type} {t : M α} {f : α → M β} {ρ : Ev} (h : t ρ = .stuck) : t.bind f ρ = .stuck := by
  unfold M.bind
  rw [h]
/-- what comes of a turn hangs on what comes of the turns behind it, where they come to something -/
theorem turn_of {t : M Bool} {b u v : M Out} {ρ : Ev} (h : t.bind (wTurn b u) ρ ≠ .stuck) (k : ∀ ρ', u ρ' ≠ .stuck → v ρ' = u ρ') : t.bind (wTurn b v) ρ = t.bind (wTurn b u) ρ := by
  cases e : t ρ with
  | ok c ρ1 =>
    rw [bind_ok e] at h ⊢
    rw [bind_ok e]
    cases c with
    | false => rfl
    | true =>
      have h : b.bind (fun o => loopO o u) ρ1 ≠ .stuck := h
      show b.bind (fun o => loopO o v) ρ1 = b.bind (fun o => loopO o u) ρ1
      cases e2 : b ρ1 with
      | ok o ρ2 =>
        rw [bind_ok e2] at h ⊢
        rw [bind_ok e2]
        cases o with
        | nx => exact k ρ2 h
        | ct => exact k ρ2 h
        | bk => rfl
        | rt d => rfl
      | exc c d ρ2 => rw [bind_exc e2, bind_exc e2]
      | stuck => rw [bind_stuck e2, bind_stuck e2]
  | exc c d ρ1 => rw [bind_exc e, bind_exc e]
  | stuck => rw [bind_stuck e, bind_stuck e]
theorem whileF_up {t : M Bool} {b : M Out} : ∀ {n : Nat} {ρ : Ev}, whileF n t b ρ ≠ .stuck → whileF (n + 1) t b ρ = whileF n t b ρ
  | 0, ρ, h => absurd rfl h
  | n + 1, ρ, h => turn_of h fun ρ' h' => whileF_up h'
theorem whileF_le {t : M Bool} {b : M Out} {n m : Nat} {ρ : Ev} (h : whileF n t b ρ ≠ .stuck) (l : n ≤ m) : whileF m t b ρ = whileF n t b ρ := by
  induction m with
  | zero =>
    have e : n = 0 := by omega
    rw [e]
  | succ m ih =>
    by_cases hl : n ≤ m
    · rw [whileF_up (by rw [ih hl]; exact h), ih hl]
    · have e : n = m + 1 := by omega
      rw [e]
theorem mWhile_of {t : M Bool} {b : M Out} {n : Nat} {ρ : Ev} (h : whileF n t b ρ ≠ .stuck) : mWhile t b ρ = whileF n t b ρ := by
  unfold mWhile
  have he : ∃ n, whileF n t b ρ ≠ .stuck := ⟨n, h⟩
  rw [dif_pos he]
  have h2 := Classical.choose_spec he
  rw [← whileF_le h (Nat.le_max_left n (Classical.choose he)), ← whileF_le h2 (Nat.le_max_right n (Classical.choose he))]
theorem mWhile_ex {t : M Bool} {b : M Out} {ρ : Ev} (h : mWhile t b ρ ≠ .stuck) : ∃ n, whileF n t b ρ = mWhile t b ρ := by
  unfold mWhile at h ⊢
  by_cases he : ∃ n, whileF n t b ρ ≠ .stuck
  · rw [dif_pos he]
    exact ⟨_, rfl⟩
  · rw [dif_neg he] at h
    exact absurd rfl h
/-- a while loop, a turn at a time -/
theorem mWhile_eq (t : M Bool) (b : M Out) (ρ : Ev) : mWhile t b ρ = t.bind (wTurn b (mWhile t b)) ρ := by
  by_cases he : ∃ n, whileF n t b ρ ≠ .stuck
  · obtain ⟨n, h⟩ := he
    rw [mWhile_of h]
    cases n with
    | zero => exact absurd rfl h
    | succ n => exact (turn_of h fun ρ' h' => mWhile_of h').symm
  · have e1 : mWhile t b ρ = .stuck := by
      unfold mWhile
      rw [dif_neg he]
    rw [e1]
    refine Eq.symm (Classical.byContradiction fun hc => he ?_)
    cases e : t ρ with
    | ok k ρ1 =>
      rw [bind_ok e] at hc
      cases k with
      | false => exact ⟨1, by show t.bind _ ρ ≠ _; rw [bind_ok e]; exact fun z => nomatch z⟩
      | true =>
        have hc : b.bind (fun o => loopO o (mWhile t b)) ρ1 ≠ .stuck := hc
        have fin : ∀ n, b.bind (fun o => loopO o (whileF n t b)) ρ1 ≠ .stuck → ∃ n, whileF n t b ρ ≠ .stuck := fun n hn => ⟨n + 1, by
          show t.bind (wTurn b (whileF n t b)) ρ ≠ .stuck
          rw [bind_ok e]
          exact hn⟩
        cases e2 : b ρ1 with
        | ok o ρ2 =>
          rw [bind_ok e2] at hc
          cases o with
          | nx =>
            obtain ⟨n, hn⟩ := mWhile_ex hc
            exact fin n (by rw [bind_ok e2]; show whileF n t b ρ2 ≠ _; rw [hn]; exact hc)
          | ct =>
            obtain ⟨n, hn⟩ := mWhile_ex hc
            exact fin n (by rw [bind_ok e2]; show whileF n t b ρ2 ≠ _; rw [hn]; exact hc)
          | bk => exact fin 0 (by rw [bind_ok e2]; exact fun z => nomatch z)
          | rt d => exact fin 0 (by rw [bind_ok e2]; exact fun z => nomatch z)
        | exc c d ρ2 => exact fin 0 (by rw [bind_exc e2]; exact fun z => nomatch z)
        | stuck => exact absurd (bind_stuck e2) hc
    | exc c d ρ1 => exact ⟨1, by show t.bind _ ρ ≠ _; rw [bind_exc e]; exact fun z => nomatch z⟩
    | stuck => exact absurd (bind_stuck e) hc
/-- loops: what may leave a turn -/
abbrev Own (C : Cc) : Prop := ∀ κ, PassesOwn (model (C.X κ).prog (C.X κ).w) (C.X κ).A (C.X κ).env (C.X κ).xe
theorem js_while (hp : Own C) {t : M Bool} {u : M Out} (hc : JT C c t) (hb : JB C body u) : JS C (.While c body [] pos) (mWhile t u) := by
  obtain ⟨q, p, k⟩ := hc.ex
  obtain ⟨qb, pb, kb⟩ := hb.ex
  refine ⟨_, fun κ => ps_while (hp κ) (p κ) (pb κ), fun σ H ow ρ E sr hE => ?_⟩
  have hn : mWhile t u ρ ≠ .stuck := fun z => by
    rw [z] at hE
    exact hE
  obtain ⟨n, en⟩ := mWhile_ex hn
  rw [← en] at hE
  refine ⟨fun m σ' H' => ∃ ow' ρ', Stp C.an H H' ow ow' ∧ AnEq C.an σ σ' ∧ SR C.K H' ow' σ' ρ' ∧ End C σ' H' ow' (whileF m t u ρ') (fun o _ σ' H' ow' => OutR C.K E o σ' H' ow'), ⟨n, ow, ρ, .refl, .refl, sr, hE⟩, ?_⟩
  rintro m σ1 H1 ⟨ow1, ρ1, s1, a1, sr1, h1⟩
  cases m with
  | zero => exact h1.elim
  | succ m =>
    refine k σ1 H1 ow1 ρ1 _ sr1 ((End.bindE (f := wTurn u (whileF m t u)) h1).imp fun b ρ2 H2 ow2 s2 sr2 q2 => ?_)
    cases b with
    | false =>
      rw [if_neg Bool.false_ne_true]
      exact q2 σ1 H2 ow2 .refl .refl sr2
    | true =>
      rw [if_pos rfl]
      refine ⟨fun σ' H' => ∃ ow' ρ', Stp C.an H H' ow ow' ∧ AnEq C.an σ σ' ∧ SR C.K H' ow' σ' ρ' ∧ End C σ' H' ow' (whileF m t u ρ') (fun o _ σ' H' ow' => OutR C.K E o σ' H' ow'), fun σ' H' h => ⟨m, Nat.lt_succ_self m, h⟩, ?_⟩
      refine kb σ1 H2 ow2 ρ2 _ sr2 ((End.bind (t := u) (f := fun o => loopO o (whileF m t u)) q2).imp fun o ρ3 σ3 H3 ow3 s3 a3 sr3 q3 => ?_)
      have w : End C σ3 H3 ow3 (whileF m t u ρ3) (fun o _ σ' H' ow' => OutR C.K E o σ' H' ow') → ∃ ow' ρ', Stp C.an H H3 ow ow' ∧ AnEq C.an σ σ3 ∧ SR C.K H3 ow' σ3 ρ' ∧ End C σ3 H3 ow' (whileF m t u ρ') (fun o _ σ' H' ow' => OutR C.K E o σ' H' ow') :=
        fun h => ⟨ow3, ρ3, (s1.trans s2).trans s3, a1.trans a3, sr3, h⟩
      cases o with
      | nx => exact w q3
      | ct => exact w q3
      | bk => exact q3 σ3 H3 ow3 .refl .refl sr3
      | rt d => exact q3 σ3 H3 ow3 .refl .refl sr3
end
end Dy

namespace Dy
open PySem PySem.Spec PyProof.Rows L2

/-! ### targets -/
/-- alike but at the places gs -/
def Dif (gs : List Nat) (σ σ' : L2.St) : Prop := σ'.length = σ.length ∧ ∀ i, i ∉ gs → σ'[i]? = σ[i]?
theorem Dif.refl {gs : List Nat} {σ : L2.St} : Dif gs σ σ := ⟨rfl, fun _ _ => rfl⟩
theorem Dif.trans {gs hs : List Nat} {σ σ1 σ2 : L2.St} (a : Dif gs σ σ1) (b : Dif hs σ1 σ2) : Dif (gs ++ hs) σ σ2 :=
  ⟨b.1.trans a.1, fun i h => (b.2 i fun z => h (List.mem_append_right _ z)).trans (a.2 i fun z => h (List.mem_append_left _ z))⟩
theorem Dif.an {gs an : List Nat} {σ σ' : L2.St} (a : Dif gs σ σ') (h : ∀ i ∈ gs, i ∉ an) : AnEq an σ σ' := fun i hi => a.2 i fun z => h i z hi
abbrev Tg := D → Ev → Option Ev
structure JG (C : Cc) (tg : Expr) (gs : List Nat) (g : Tg) : Prop where
  ex : ∃ tt, (∀ κ, PG (C.X κ) tg tt) ∧ ∀ v d σ H ow ρ ρ' (Q : L2.St → Hp → Prop), SR C.K H ow σ ρ → Rp C.K H ow v d → g d ρ = some ρ' → (∀ σ', Dif gs σ σ' → SR C.K H ow σ' ρ' → Q σ' H) → tt v σ H Q
structure JGs (C : Cc) (tgs : List Expr) (gs : List Nat) (g : List D → Ev → Option Ev) : Prop where
  ex : ∃ tt, (∀ κ, PGs (C.X κ) tgs tt) ∧ ∀ vs ds σ H ow ρ ρ' (Q : L2.St → Hp → Prop), SR C.K H ow σ ρ → RpL C.K H ow vs ds → g ds ρ = some ρ' → (∀ σ', Dif gs σ σ' → SR C.K H ow σ' ρ' → Q σ' H) → tt vs σ H Q
def gNm (i : Nat) : Tg := fun d ρ => some (ρ.set i (.val d))
def gsNil : List D → Ev → Option Ev
  | [], ρ => some ρ
  | _ :: _, _ => none
def gsCons (g : Tg) (h : List D → Ev → Option Ev) : List D → Ev → Option Ev
  | [], _ => none
  | d :: ds, ρ => (g d ρ).bind (h ds)
def gTp (n : Nat) (h : List D → Ev → Option Ev) : Tg := fun d ρ => match d with
  | .tup ds => if ds.length = n then h ds ρ else none
  | _ => none
section
variable {C : Cc} {e a b c tg it : Expr} {es : List Expr} {st : Stmt} {rest body orelse : List Stmt} {pos pos' : Pos} {x y : Str} {gs hs : List Nat} {g : Tg} {h : List D → Ev → Option Ev}
theorem jg_nm (ok : CcOk C) (i : Nat) (hi : ∀ κ, (C.X κ).N[i]? = some x := by intro _; rfl) (hx : ∀ κ, Loc (C.X κ).env.scope x := by intro _; first | exact .inl rfl | exact .inr rfl)
    (hf : ∀ κ, (C.X κ).fn x = true ∨ (C.X κ).env.scope.names.lookup x = some .local := by intro _; first | exact .inl rfl | exact .inr rfl | assumption) : JG C (.Name x pos) [i] (gNm i) := by
  refine ⟨_, fun κ => pg_name (ok.nd κ) (hi κ) (hx κ) (hf κ), fun v d σ H ow ρ ρ' Q sr r hg q => ?_⟩
  cases hg
  exact q _ ⟨by simp, fun j hj => List.getElem?_set_ne fun z => hj (by simp [z])⟩ (sr.setVal r)
theorem jgs_nil : JGs C [] [] gsNil := by
  refine ⟨_, fun _ => pgs_nil, fun vs ds σ H ow ρ ρ' Q sr r hg q => ?_⟩
  cases r with
  | nil =>
    cases hg
    exact ⟨rfl, q σ .refl sr⟩
  | cons _ _ => cases hg
theorem jgs_cons (h1 : JG C tg gs g) (h2 : JGs C es hs h) (hq : ∀ κ, (assignEach (tg :: es) (C.X κ).env).map (·.2) = assign tg (C.X κ).env :: (assignEach es (C.X κ).env).map (·.2) := by intro _; rfl) : JGs C (tg :: es) (gs ++ hs) (gsCons g h) := by
  obtain ⟨t1, p1, k1⟩ := h1.ex
  obtain ⟨t2, p2, k2⟩ := h2.ex
  refine ⟨_, fun κ => pgs_cons (p1 κ) (p2 κ) (hq κ), fun vs ds σ H ow ρ ρ' Q sr r hg q => ?_⟩
  cases r with
  | nil => cases hg
  | @cons v vs d ds r1 r2 =>
    have hg : (g d ρ).bind (h ds) = some ρ' := hg
    cases e1 : g d ρ with
    | none =>
      rw [e1] at hg
      cases hg
    | some ρ1 =>
      rw [e1] at hg
      exact ⟨v, vs, rfl, k1 v d σ H ow ρ ρ1 _ sr r1 e1 fun σ1 d1 sr1 => k2 vs ds σ1 H ow ρ1 ρ' Q sr1 r2 hg fun σ2 d2 sr2 => q σ2 (d1.trans d2) sr2⟩
theorem jg_tp (ok : CcOk C) {k n : Nat} (h1 : JGs C es gs h) (hn : ∀ κ, (assignEach es (C.X κ).env).length = n := by intro _; rfl) (hst : ∀ κ, (assignEach es (C.X κ).env).findIdx? (·.1) = none := by intro _; rfl) : JG C (.Tuple es k pos) gs (gTp n h) := by
  obtain ⟨t1, p1, k1⟩ := h1.ex
  refine ⟨gTup C.K n t1, fun κ => by rw [← ok.kk κ]; exact pg_tup (ok.calm κ) (p1 κ) (hn κ) (hst κ), fun v d σ H ow ρ ρ' Q sr r hg q => ?_⟩
  unfold gTp at hg
  cases r with
  | @tup a xs ds hs hl =>
    dsimp only at hg
    by_cases e : ds.length = n
    · rw [if_pos e] at hg
      exact ⟨a, xs, rfl, hs, hl.length.trans e, k1 xs ds σ H ow ρ ρ' Q sr hl hg q⟩
    · rw [if_neg e] at hg
      cases hg
  | _ => cases hg
def mAsg (g : Tg) (t : M D) : M Out := t.bind fun d ρ => match g d ρ with
  | some ρ' => .ok .nx ρ'
  | none => .stuck
theorem js_asg {t : M D} (h1 : JE C e t) (h2 : JG C tg gs g) (ha : ∀ i ∈ gs, i ∉ C.an := by first | (show ∀ i ∈ _, i ∉ ([] : List Nat); decide) | (show ∀ i ∈ _, i ∉ ([0] : List Nat); decide)) (hs : ∀ κ, swapsWithSole [tg] e pos.line (C.X κ).env = pure false := by intro _; rfl) (hw : ∀ κ, swappedStores [tg] e (C.X κ).env = pure none := by intro _; rfl)
    (hq : ∀ κ, (assignEach [tg] (C.X κ).env).map (·.2) = [assign tg (C.X κ).env] := by intro _; rfl) : JS C (.Assign [tg] e pos) (mAsg g t) := by
  obtain ⟨t1, p1, k1⟩ := h1.ex
  obtain ⟨t2, p2, k2⟩ := h2.ex
  refine ⟨_, fun κ => ps_asg (p1 κ) (p2 κ) (hs κ) (hw κ) (hq κ), fun σ H ow ρ E sr hE => k1 σ H ow ρ _ sr ((End.bindE hE).imp fun d ρ1 H1 ow1 s1 sr1 q1 v rv => ?_)⟩
  cases e1 : g d ρ1 with
  | none =>
    simp only [e1] at q1
    exact q1.elim
  | some ρ2 =>
    simp only [e1] at q1
    exact k2 v d σ H1 ow1 ρ1 ρ2 _ sr1 rv e1 fun σ' df sr' => q1 σ' H1 ow1 .refl (df.an ha) sr'

/-! ### what is walked -/
structure JI (C : Cc) (tg it : Expr) (t : M (List D)) : Prop where
  ex : ∃ wi, (∀ κ, PI (C.X κ) tg it wi) ∧ ∀ σ H ow ρ (R : It → Hp → Prop), SR C.K H ow σ ρ → EndE C σ H ow (t ρ) (fun ds _ H' ow' => ∀ J G Y, Walk J ds.length G Y → (∀ H2 ow2, Stp C.an H' H2 ow' ow2 → G H2) →
    (∀ i H2 ow2 x H3, i < ds.length → Stp C.an H' H2 ow' ow2 → Y i H2 x H3 → ∃ ow3 d, Grow H2 H3 ow2 ow3 ∧ ds[i]? = some d ∧ Rp C.K H3 ow3 x d) → R J H') → wi σ H R
/-- a list, a tuple, a text -/
def iAny (K : PySem.W.Frag) (tl : TE) : TI := fun σ H R => tl σ H fun x H1 => (∃ a, x = .ref a ∧ (∃ xs, SqL K H1 a xs) ∧ R (Itl K a) H1) ∨ (∃ a, x = .ref a ∧ (∃ xs, SqT K H1 a xs) ∧ R (Itt K a) H1) ∨ ∃ z, x = .str z ∧ R (Its z) H1
theorem pi_any {X : Cx} {l : Expr} {tl : TE} (hl : PE X l tl) : PI X tg l (iAny X.K tl) := by
  refine ⟨fun pn s0 sl H0 R I0 hw => ?_⟩
  refine thn (hl.run pn s0 sl H0 _ I0 hw) fun u s1 hu => ?_
  obtain ⟨w, H1, I1, rel, q⟩ := hu
  rcases q with ⟨a, ea, ⟨xs, hx⟩, hR⟩ | ⟨a, ea, ⟨xs, hx⟩, hR⟩ | ⟨z, ez, hR⟩
  · subst ea
    cases rel
    obtain ⟨vs, rv, pl, hz⟩ := I1.list hx
    refine wpAny_pyIter_list pl.isList ⟨s1.heap.objs.size, [s1.heap.objs.size], _, _, H1, rfl, ?_, turn_list a _, ⟨_, Heap.get?_push_size _ rfl, rfl, rfl⟩, ?_, hR⟩
    · exact I1.kept (t' := s1.toks) fun b o eb => Heap.get?_push_of_some _ eb
    · intro b hb
      rw [List.mem_singleton] at hb
      rw [hb]
      exact I1.fpOk (Nat.le_refl _) (I1.hok.fresh (Nat.le_refl _))
  · subst ea
    cases rel
    obtain ⟨vs, rv, pl, hz⟩ := I1.tuple hx
    refine wpAny_pyIter_tuple (show s1.heap.IsTuple a vs.toArray from pl) ⟨s1.heap.objs.size, [s1.heap.objs.size], _, _, H1, rfl, ?_, turn_tuple a _, ⟨_, Heap.get?_push_size _ rfl, rfl, rfl⟩, ?_, hR⟩
    · exact I1.kept (t' := s1.toks) fun b o eb => Heap.get?_push_of_some _ eb
    · intro b hb
      rw [List.mem_singleton] at hb
      rw [hb]
      exact I1.fpOk (Nat.le_refl _) (I1.hok.fresh (Nat.le_refl _))
  · subst ez
    obtain ⟨tk, rfl⟩ := rel
    by_cases hc : z.cps.all (· < 128) = true
    · exact wpAny_pyIter_ascii hc (pi_one (tk := s1.toks) I1 _ (turn_str _ z tk "str_ascii_iterator" (Or.inl rfl)) ⟨_, Heap.get?_push_size _ rfl, rfl, rfl⟩ hR)
    · exact wpAny_pyIter_wide (by simpa using hc) (pi_one (tk := s1.toks) I1 _ (turn_str _ z tk "str_iterator" (Or.inr rfl)) ⟨_, Heap.get?_push_size _ rfl, rfl, rfl⟩ hR)
def items : D → Option (List D)
  | .lst xs => some xs
  | .tup xs => some xs
  | .str s => some (s.map fun c => .str [c])
  | _ => none
def mItems (t : M D) : M (List D) := t.bind fun d => M.lift (items d)
theorem ji_any (ok : CcOk C) {t : M D} (h1 : JE C it t) : JI C tg it (mItems t) := by
  obtain ⟨t1, p1, k1⟩ := h1.ex
  refine ⟨iAny C.K t1, fun κ => by rw [← ok.kk κ]; exact pi_any (p1 κ), fun σ H ow ρ R sr hE => k1 σ H ow ρ _ sr (hE.bind.imp fun d ρ1 H1 ow1 s1 sr1 q1 v rv => ?_)⟩
  obtain ⟨ds, eds, q2⟩ := q1.lift
  have q3 := q2 H1 ow1 .refl sr1
  cases rv with
  | @lst a xs ds' e hs hl =>
    cases eds
    refine .inl ⟨a, rfl, ⟨xs, SqL.of hs⟩, q3 _ _ _ (by rw [← hl.length]; exact walk_list) (fun H2 ow2 s2 => SqL.of (s2.keep _ _ hs (by rw [e]; decide)).1) fun i H2 ow2 x H3 hi s2 y => ?_⟩
    obtain ⟨e3, ex⟩ := y
    subst e3
    have hd : ds[i]? = some (ds[i]'hi) := by simp
    obtain ⟨v, ev, rv⟩ := (hl.stp s2).get hd
    rw [ex] at ev
    cases ev
    exact ⟨ow2, _, .refl, hd, rv⟩
  | @tup a xs ds' hs hl =>
    cases eds
    refine .inr (.inl ⟨a, rfl, ⟨xs, hs⟩, q3 _ _ _ (by rw [← hl.length]; exact walk_tup) (fun H2 ow2 s2 => sqT_to (s2.tup _ _) hs) fun i H2 ow2 x H3 hi s2 y => ?_⟩)
    obtain ⟨e3, ex⟩ := y
    subst e3
    have hd : ds[i]? = some (ds[i]'hi) := by simp
    obtain ⟨v, ev, rv⟩ := (hl.stp s2).get hd
    rw [ex] at ev
    cases ev
    exact ⟨ow2, _, .refl, hd, rv⟩
  | @str s o =>
    cases eds
    have w : Walk (Its ⟨s.toArray⟩) (s.map fun c => D.str [c]).length (fun _ => True) (fun i H v H' => H' = H ∧ ∃ c, (⟨s.toArray⟩ : Str).cps[i]? = some c ∧ v = .str ⟨#[c]⟩) := by
      have e : (s.map fun c => D.str [c]).length = (⟨s.toArray⟩ : Str).cps.size := by simp
      rw [e]
      exact walk_str
    refine .inr (.inr ⟨_, rfl, q3 _ _ _ w (fun _ _ _ => trivial) fun i H2 ow2 x H3 hi s2 y => ?_⟩)
    obtain ⟨e3, c, ec, ev⟩ := y
    subst e3 ev
    have ec : s[i]? = some c := by simpa using ec
    refine ⟨ow2, .str [c], .refl, by simp [ec], .str ⟨by show 1 ≤ sizeLine; decide, fun c' h' => ?_⟩⟩
    rw [List.mem_singleton] at h'
    rw [h']
    exact o.2 c (List.mem_of_getElem? ec)
  | _ => cases eds
def rangeD (lo hi : Int) : List D := (List.range (hi - lo).toNat).map fun (i : Nat) => D.int (lo + i)
def smallI (i : Int) : Bool := decide (-(2 ^ 62) ≤ i) && decide (i < 2 ^ 62)
def dRange1 : List D → Option (List D)
  | [.int j] => if smallI j then some (rangeD 0 j) else none
  | _ => none
def dRange2 : List D → Option (List D)
  | [.int i, .int j] => if smallI i && smallI j then some (rangeD i j) else none
  | _ => none
theorem walk_rangeD {J : It} {lo : Int} {n : Nat} {ds : List D} (e : ds = (List.range n).map fun (i : Nat) => D.int (lo + i)) : Walk (Itr lo n) ds.length (fun _ => True) (YFn fun i => .int (lo + i)) := by
  have h : ds.length = n := by rw [e]; simp
  rw [h]
  exact walk_range
theorem rangeD_at {lo hi : Int} {i : Nat} (h : i < (rangeD lo hi).length) : (rangeD lo hi)[i]? = some (.int (lo + i)) := by
  unfold rangeD at h ⊢
  have h2 : i < (hi - lo).toNat := by simpa using h
  rw [List.getElem?_map, List.getElem?_range h2]
  rfl
theorem ji_range1 {t : M (List Op)} {p : Pos} (h1 : JA C [a] t) (hm : ∀ κ, (C.X κ).mg "range" = none) (hg : ∀ κ, Gl (C.X κ) "range" := by intro _; rfl) (hs : ∀ κ, starEach [a] (C.X κ).env = [(false, eval a (C.X κ).env)] := by intro _; rfl) :
    JI C tg (.Call (.Name "range" p) [a] [] pos) (mCall dRange1 t) := by
  obtain ⟨t1, p1, k1⟩ := h1.ex
  refine ⟨_, fun κ => pi_range1 (hg κ) (hm κ) (p1 κ) (hs κ), fun σ H ow ρ R sr hE => k1 σ H ow ρ _ sr (hE.bind.imp fun os ρ1 H1 ow1 s1 sr1 q1 vs rv => ?_)⟩
  obtain ⟨ds, bs, q2⟩ := q1.rds sr1 rv
  obtain ⟨z, ez, q3⟩ := q2.lift
  have q4 := q3 H1 ow1 .refl sr1
  unfold dRange1 at ez
  split at ez
  · rename_i j
    obtain ⟨v, rfl, b⟩ := rpbs_one bs
    cases rpb_int b
    split at ez
    · rename_i hj
      cases ez
      simp only [smallI, Bool.and_eq_true, decide_eq_true_eq] at hj
      refine ⟨j, rfl, hj.1, hj.2, q4 _ _ _ (walk_rangeD (J := Itr 0 j.toNat) (by unfold rangeD; rw [Int.sub_zero])) (fun _ _ _ => trivial) fun i H2 ow2 x H3 hi s2 y => ?_⟩
      obtain ⟨e3, ev⟩ := y
      subst e3 ev
      exact ⟨ow2, .int (0 + i), .refl, rangeD_at hi, .int _⟩
    · cases ez
  · cases ez
theorem ji_range2 {t : M (List Op)} {p : Pos} (h1 : JA C [a, b] t) (hm : ∀ κ, (C.X κ).mg "range" = none) (hg : ∀ κ, Gl (C.X κ) "range" := by intro _; rfl) (hs : ∀ κ, starEach [a, b] (C.X κ).env = [(false, eval a (C.X κ).env), (false, eval b (C.X κ).env)] := by intro _; rfl)
    (hs2 : ∀ κ, starEach [b] (C.X κ).env = [(false, eval b (C.X κ).env)] := by intro _; rfl) : JI C tg (.Call (.Name "range" p) [a, b] [] pos) (mCall dRange2 t) := by
  obtain ⟨t1, p1, k1⟩ := h1.ex
  refine ⟨_, fun κ => pi_range2 (hg κ) (hm κ) (p1 κ) (hs κ) (hs2 κ), fun σ H ow ρ R sr hE => k1 σ H ow ρ _ sr (hE.bind.imp fun os ρ1 H1 ow1 s1 sr1 q1 vs rv => ?_)⟩
  obtain ⟨ds, bs, q2⟩ := q1.rds sr1 rv
  obtain ⟨z, ez, q3⟩ := q2.lift
  have q4 := q3 H1 ow1 .refl sr1
  unfold dRange2 at ez
  split at ez
  · rename_i k j
    obtain ⟨v, u, rfl, b1, b2⟩ := rpbs_two bs
    cases rpb_int b1
    cases rpb_int b2
    split at ez
    · rename_i hj
      cases ez
      simp only [smallI, Bool.and_eq_true, decide_eq_true_eq] at hj
      refine ⟨k, j, rfl, ⟨hj.1.1, hj.1.2, hj.2.1, hj.2.2⟩, q4 _ _ _ (walk_rangeD (J := Itr k (j - k).toNat) rfl) (fun _ _ _ => trivial) fun i H2 ow2 x H3 hi s2 y => ?_⟩
      obtain ⟨e3, ev⟩ := y
      subst e3 ev
      exact ⟨ow2, .int (k + i), .refl, rangeD_at hi, .int _⟩
    · cases ez
  · cases ez
/-- zip of two lists, two tuples (taken along, so that they stand) -/
def zipD : List D → List D → List D
  | a :: as, b :: bs => .tup [a, b] :: zipD as bs
  | _, _ => []
theorem zipD_length : ∀ as bs : List D, (zipD as bs).length = min as.length bs.length
  | [], _ => by simp [zipD]
  | _ :: _, [] => by simp [zipD]
  | a :: as, b :: bs => by simp [zipD, zipD_length as bs, Nat.succ_min_succ]
theorem zipD_at : ∀ {as bs : List D} {i : Nat}, i < (zipD as bs).length → ∃ a b, as[i]? = some a ∧ bs[i]? = some b ∧ (zipD as bs)[i]? = some (.tup [a, b])
  | [], _, _, h => by simp [zipD] at h
  | _ :: _, [], _, h => by simp [zipD] at h
  | a :: as, b :: bs, 0, _ => ⟨a, b, rfl, rfl, rfl⟩
  | a :: as, b :: bs, i + 1, h => by
    obtain ⟨c, d, h1, h2, h3⟩ := zipD_at (as := as) (bs := bs) (i := i) (by simpa [zipD] using h)
    exact ⟨c, d, by simpa using h1, by simpa using h2, by simpa [zipD] using h3⟩
def dZip : List D → Option (List D)
  | [.lst as, .lst bs] => some (zipD as bs)
  | [.tup as, .tup bs] => some (zipD as bs)
  | _ => none
theorem walk_zipT {K : PySem.W.Frag} {a b : Addr} {xs ys : List V} {n : Nat} (hn : n = min xs.length ys.length) : Walk (RZ.ItzT K a b) n (fun H => SqT K H a xs ∧ SqT K H b ys) (YPair (fun i => xs[i]?) (fun i => ys[i]?)) := by
  refine ⟨fun i H0 hi q => ?_, fun H0 q => ?_, fun i H0 v H' hi q y => ?_⟩
  · have l1 : i < xs.length := by omega
    have l2 : i < ys.length := by omega
    exact ⟨xs, ys, xs[i], ys[i], q.1, q.2, by simp [l1], by simp [l2]⟩
  · exact ⟨xs, ys, q.1, q.2, by omega⟩
  · obtain ⟨T, u, z, g1, g2, g3, g4, g5⟩ := y
    exact ⟨T, u, z, g1, g2, g3, g4 xs q.1, g5 ys q.2⟩
/-- a pair that the walk has laid -/
theorem pair_yield {K : PySem.W.Frag} {an : List Nat} {H1 H2 H3 : Hp} {ow1 ow2 : Addr → Nat} {xs ys : List V} {as bs : List D} {i : Nat} {x : V} (ra : RpL K H1 ow1 xs as) (rb : RpL K H1 ow1 ys bs) (hi : i < (zipD as bs).length) (s : Stp an H1 H2 ow1 ow2)
    (y : YPair (fun i => xs[i]?) (fun i => ys[i]?) i H2 x H3) : ∃ ow3 d, Grow H2 H3 ow2 ow3 ∧ (zipD as bs)[i]? = some d ∧ Rp K H3 ow3 x d := by
  obtain ⟨T, u, v, e1, hT, e3, e4, e5⟩ := y
  subst e1 e3
  have e4 : xs[i]? = some u := e4
  have e5 : ys[i]? = some v := e5
  obtain ⟨c, d, h1, h2, h3⟩ := zipD_at hi
  obtain ⟨u', eu, ru⟩ := (ra.stp s).get h1
  obtain ⟨v', ev, rv⟩ := (rb.stp s).get h2
  rw [e4] at eu
  rw [e5] at ev
  cases eu
  cases ev
  have r : RpL K H2 ow2 [u, v] [c, d] := .cons ru (.cons rv .nil)
  exact ⟨_, _, (new_tup hT r).1, h3, (new_tup hT r).2⟩
theorem ji_zip (ok : CcOk C) {t : M (List D)} {p tpos : Pos} {elts : List Expr} {kk : Nat} (h1 : JL C [a, b] t) (hm : ∀ κ, (C.X κ).mg "zip" = none) (hg : ∀ κ, Gl (C.X κ) "zip" := by intro _; rfl)
    (hs : ∀ κ, starEach [a, b] (C.X κ).env = (false, eval a (C.X κ).env) :: starEach [b] (C.X κ).env := by intro _; rfl) (hpl : ∀ κ, (backTo pos (starEach [b] (C.X κ).env)).any (·.1) = false := by intro _; rfl) :
    JI C (.Tuple elts kk tpos) (.Call (.Name "zip" p) [a, b] [] pos) (t.bind fun ds => M.lift (dZip ds)) := by
  obtain ⟨t1, p1, k1⟩ := h1.ex
  refine ⟨RZ.iZipA C.K t1, fun κ => by rw [← ok.kk κ]; exact RZ.pi_zipA (hg κ) (hm κ) (p1 κ) (hs κ) (hpl κ), fun σ H ow ρ R sr hE => k1 σ H ow ρ _ sr (hE.bind.imp fun ds ρ1 H1 ow1 s1 sr1 q1 vs rv => ?_)⟩
  obtain ⟨z, ez, q3⟩ := q1.lift
  have q4 := q3 H1 ow1 .refl sr1
  unfold dZip at ez
  split at ez
  · cases ez
    cases rv with
    | cons r1 r2 =>
      cases r2 with
      | cons r2 r3 =>
        cases r3
        cases r1 with
        | @lst a' xs _ e hs hl =>
          cases r2 with
          | @lst b' ys _ e' hs' hl' =>
            refine ⟨a', b', xs, ys, rfl, .inl ⟨SqL.of hs, SqL.of hs', q4 _ _ _ (walk_zip (by rw [zipD_length, hl.length, hl'.length])) (fun H2 ow2 s2 => ⟨SqL.of (s2.keep _ _ hs (by rw [e]; decide)).1, SqL.of (s2.keep _ _ hs' (by rw [e']; decide)).1⟩) fun i H2 ow2 x H3 hi s2 y => ?_⟩⟩
            exact pair_yield hl hl' hi s2 y
  · cases ez
    cases rv with
    | cons r1 r2 =>
      cases r2 with
      | cons r2 r3 =>
        cases r3
        cases r1 with
        | @tup a' xs _ hs hl =>
          cases r2 with
          | @tup b' ys _ hs' hl' =>
            refine ⟨a', b', xs, ys, rfl, .inr ⟨hs, hs', q4 _ _ _ (walk_zipT (by rw [zipD_length, hl.length, hl'.length])) (fun H2 ow2 s2 => ⟨sqT_to (s2.tup _ _) hs, sqT_to (s2.tup _ _) hs'⟩) fun i H2 ow2 x H3 hi s2 y => ?_⟩⟩
            exact pair_yield hl hl' hi s2 y
  · cases ez

/-! ### for -/
def mFor (g : Tg) (b : M Out) : List D → M Out
  | [] => M.ret .nx
  | d :: ds => fun ρ => match g d ρ with
    | some ρ' => b.bind (fun o => loopO o (mFor g b ds)) ρ'
    | none => .stuck
def mForI (g : Tg) (b : M Out) (t : M (List D)) : M Out := t.bind fun ds => mFor g b ds
theorem js_for (ok : CcOk C) (hp : Own C) {t : M (List D)} {u : M Out} (h1 : JI C tg it t) (h2 : JG C tg gs g) (hb : JB C body u) (ha : ∀ i ∈ gs, i ∉ C.an := by first | (show ∀ i ∈ _, i ∉ ([] : List Nat); decide) | (show ∀ i ∈ _, i ∉ ([0] : List Nat); decide)) (hs : ∀ κ, ∀ x, foldedSetIterable it (C.X κ).env x = pure x := by intro _; intro _; rfl) :
    JS C (.For tg it body [] pos) (mForI g u t) := by
  obtain ⟨wi, p1, k1⟩ := h1.ex
  obtain ⟨tt, p2, k2⟩ := h2.ex
  obtain ⟨tb, p3, k3⟩ := hb.ex
  refine ⟨_, fun κ => ps_for (hp κ) (ok.calm κ) (p1 κ) (p2 κ) (p3 κ) (hs κ), fun σ H ow ρ E sr hE => k1 σ H ow ρ _ sr ((End.bindE hE).imp fun ds ρ1 H1 ow1 s1 sr1 q1 J G Y w hG hY => ?_)⟩
  refine for_it w (fun i σ' H' => ∃ ow' ρ', Stp C.an H1 H' ow1 ow' ∧ AnEq C.an σ σ' ∧ SR C.K H' ow' σ' ρ' ∧ End C σ' H' ow' (mFor g u (ds.drop i) ρ') (fun o _ σ' H' ow' => OutR C.K E o σ' H' ow')) ⟨ow1, ρ1, .refl, .refl, sr1, q1⟩ (fun i σ' H' _ ⟨ow', ρ', s', _⟩ => hG H' ow' s') ?_ ?_
  · rintro i x σ2 H2 H3 hi ⟨ow2, ρ2, s2, a2, sr2, q2⟩ y
    obtain ⟨ow3, d, g3, hd, r3⟩ := hY i H2 ow2 x H3 hi s2 y
    have ed : ds.drop i = d :: ds.drop (i + 1) := by
      rw [List.drop_eq_getElem_cons hi]
      have : ds[i] = d := by simpa [hi] using hd
      rw [this]
    rw [ed] at q2
    have sr3 := sr2.grow g3
    have q3 : End C σ2 H3 ow3 (mFor g u (d :: ds.drop (i + 1)) ρ2) (fun o _ σ' H' ow' => OutR C.K E o σ' H' ow') := q2.from g3.stp .refl
    unfold mFor at q3
    cases e1 : g d ρ2 with
    | none =>
      simp only [e1] at q3
      exact q3.elim
    | some ρ4 =>
      simp only [e1] at q3
      refine k2 x d σ2 H3 ow3 ρ2 ρ4 _ sr3 r3 e1 fun σ4 df sr4 => ?_
      have q4 := (q3.from (σ1 := σ4) .refl (df.an ha)).bind
      refine k3 σ4 H3 ow3 ρ4 _ sr4 (q4.imp fun o ρ5 σ5 H5 ow5 s5 a5 sr5 q5 => ?_)
      have fin : End C σ5 H5 ow5 (mFor g u (ds.drop (i + 1)) ρ5) (fun o _ σ' H' ow' => OutR C.K E o σ' H' ow') → ∃ ow' ρ', Stp C.an H1 H5 ow1 ow' ∧ AnEq C.an σ σ5 ∧ SR C.K H5 ow' σ5 ρ' ∧ End C σ5 H5 ow' (mFor g u (ds.drop (i + 1)) ρ') (fun o _ σ' H' ow' => OutR C.K E o σ' H' ow') :=
        fun h => ⟨ow5, ρ5, (s2.trans g3.stp).trans s5, (a2.trans (df.an ha)).trans a5, sr5, h⟩
      cases o with
      | nx => exact fin q5
      | ct => exact fin q5
      | bk => exact q5 σ5 H5 ow5 .refl .refl sr5
      | rt d => exact q5 σ5 H5 ow5 .refl .refl sr5
  · rintro σ2 H2 ⟨ow2, ρ2, s2, a2, sr2, q2⟩
    rw [List.drop_length] at q2
    exact q2 σ2 H2 ow2 .refl .refl sr2
end
end Dy

namespace Dy
open PySem PySem.Spec PyProof.Rows L2

/-! ### comprehensions -/
def Cc.blk (C : Cc) (scope : Scope) : Cc where
  ι := C.ι × Shared × Hp × Addr × List (Str × Addr) × List Addr
  X := fun q => (C.X q.1).blk q.2.1 q.2.2.1 scope (compEnvC scope q.2.2.2.2.1 q.2.2.2.1 (C.X q.1).env) q.2.2.2.2.2
  K := C.K
  W := fun _ _ _ _ => False
  an := C.an
  xc := C.xc
theorem CcOk.blk {C : Cc} (ok : CcOk C) (scope : Scope) : CcOk (C.blk scope) := ⟨fun q => ok.calm q.1, fun q => ok.hu q.1, fun q => ok.nd q.1, fun q => ok.kk q.1⟩
def wipeE (ρ : Ev) : List Nat → Ev
  | [] => ρ
  | v :: vs => (wipeE ρ vs).set v .un
theorem SR.wipe {K : PySem.W.Frag} {H : Hp} {ow : Addr → Nat} {σ : L2.St} {ρ : Ev} (h : SR K H ow σ ρ) : ∀ vs : List Nat, SR K H ow (wipe σ vs) (wipeE ρ vs)
  | [] => h
  | v :: vs => (SR.wipe h vs).setUn
theorem wipe_at {σ : L2.St} : ∀ {vs : List Nat} {i : Nat}, i ∉ vs → (wipe σ vs)[i]? = σ[i]?
  | [], _, _ => rfl
  | v :: vs, i, h => by
    unfold wipe
    rw [List.getElem?_set_ne fun z => h (by simp [z])]
    exact wipe_at fun z => h (List.mem_cons_of_mem _ z)
theorem wipeE_at {ρ : Ev} : ∀ {vs : List Nat} {i : Nat}, i ∉ vs → (wipeE ρ vs)[i]? = ρ[i]?
  | [], _, _ => rfl
  | v :: vs, i, h => by
    unfold wipeE
    rw [List.getElem?_set_ne fun z => h (by simp [z])]
    exact wipeE_at fun z => h (List.mem_cons_of_mem _ z)
theorem wipeE_length (ρ : Ev) : ∀ vs : List Nat, (wipeE ρ vs).length = ρ.length
  | [] => rfl
  | v :: vs => by unfold wipeE; rw [List.length_set, wipeE_length ρ vs]
theorem wipe_in {σ : L2.St} : ∀ {vs : List Nat} {i : Nat}, i ∈ vs → i < σ.length → (wipe σ vs)[i]? = some none
  | [], _, h, _ => nomatch h
  | v :: vs, i, h, hl => by
    unfold wipe
    by_cases e : v = i
    · subst e
      rw [List.getElem?_set_self (by rw [wipe_length]; exact hl)]
    · rw [List.getElem?_set_ne e]
      rcases List.mem_cons.mp h with z | z
      · exact absurd z.symm e
      · exact wipe_in z hl
theorem wipe_dif {gs vs : List Nat} {σ σ2 : L2.St} (d : Dif gs (wipe σ vs) σ2) (h : ∀ i ∈ gs, i ∈ vs) : wipe σ2 vs = wipe σ vs := by
  refine List.ext_getElem? fun i => ?_
  have e1 : σ2.length = σ.length := by rw [d.1, wipe_length]
  by_cases hi : i ∈ vs
  · by_cases hl : i < σ.length
    · rw [wipe_in hi (by rw [e1]; exact hl), wipe_in hi hl]
    · rw [List.getElem?_eq_none (by rw [wipe_length, e1]; omega), List.getElem?_eq_none (by rw [wipe_length]; omega)]
  · rw [wipe_at hi, d.2 i fun z => hi (h i z)]
/-- the block's own names hold behind it what they held ahead of it -/
def keepV : Option Sl → Sl
  | some (.val d) => .val d
  | _ => .un
def restE (ρ0 ρ : Ev) : List Nat → Ev
  | [] => ρ
  | v :: vs => (restE ρ0 ρ vs).set v (keepV ρ0[v]?)
theorem SR.rest {K : PySem.W.Frag} {an : List Nat} {H H' : Hp} {ow ow' : Addr → Nat} {σ : L2.St} {ρ0 ρ : Ev} {vs : List Nat} (h0 : SR K H ow σ ρ0) (s : Stp an H H' ow ow') (h : SR K H' ow' (L2.wipe σ vs) (wipeE ρ vs)) : SR K H' ow' σ (restE ρ0 ρ vs) := by
  have hlen : σ.length = ρ.length := by
    have := h.len
    rw [wipe_length, wipeE_length] at this
    exact this
  have rl : ∀ us : List Nat, (restE ρ0 ρ us).length = ρ.length := fun us => by
    induction us with
    | nil => rfl
    | cons v us ih => unfold restE; rw [List.length_set, ih]
  have out : ∀ (us : List Nat) (i : Nat), i ∉ us → (restE ρ0 ρ us)[i]? = ρ[i]? := fun us => by
    induction us with
    | nil => exact fun _ _ => rfl
    | cons v us ih =>
      intro i hi
      unfold restE
      rw [List.getElem?_set_ne fun z => hi (by simp [z])]
      exact ih i fun z => hi (List.mem_cons_of_mem _ z)
  have inn : ∀ (us : List Nat) (i : Nat), i ∈ us → i < ρ.length → (restE ρ0 ρ us)[i]? = some (keepV ρ0[i]?) := fun us => by
    induction us with
    | nil => exact fun _ h => nomatch h
    | cons v us ih =>
      intro i hi hl
      unfold restE
      by_cases e : v = i
      · subst e
        rw [List.getElem?_set_self (by rw [rl]; exact hl)]
      · rw [List.getElem?_set_ne e]
        rcases List.mem_cons.mp hi with z | z
        · exact absurd z.symm e
        · exact ih i z hl
  refine ⟨by rw [rl]; exact hlen, fun i t e => ?_⟩
  by_cases hi : i ∈ vs
  · have hl : i < ρ.length := by
      have := (List.getElem?_eq_some_iff.mp e).1
      rw [rl] at this
      exact this
    rw [inn vs i hi hl] at e
    cases e
    cases e2 : ρ0[i]? with
    | none => trivial
    | some s0 =>
      cases s0 with
      | val d =>
        obtain ⟨v, ev, r⟩ := h0.get i _ e2
        exact ⟨v, ev, Rp.stp s r⟩
      | _ => trivial
  · rw [out vs i hi] at e
    have := h.get i t (by rw [wipeE_at hi]; exact e)
    rw [wipe_at hi] at this
    exact this
def lcD (vs : List Nat) (g : Tg) (tt : M Bool) (te : M D) : List D → List D → M (List D)
  | [], acc => M.ret acc
  | d :: ds, acc => fun ρ => match g d (wipeE ρ vs) with
    | none => .stuck
    | some ρ1 => match tt ρ1 with
      | .ok true ρ2 => (match te ρ2 with
        | .ok y ρ3 => if acc.length < sizeLine then lcD vs g tt te ds (acc ++ [y]) ρ3 else .stuck
        | _ => .stuck)
      | .ok false ρ2 => lcD vs g tt te ds acc ρ2
      | _ => .stuck
def mLc (vs : List Nat) (g : Tg) (tt : M Bool) (te : M D) (ti : M (List D)) : M (List D) := ti.bind fun ds ρ => match lcD vs g tt te ds [] ρ with
  | .ok zs ρ' => .ok zs (restE ρ ρ' vs)
  | _ => .stuck
/-- the tests of a comprehension -/
structure JF (C : Cc) (ifs : List Expr) (t : M Bool) : Prop where
  ex : ∃ te, (∀ κ, PTs (C.X κ) ifs te) ∧ ∀ σ H ow ρ (Q : Bool → Hp → Prop), SR C.K H ow σ ρ → EndE C σ H ow (t ρ) (fun b _ H' _ => Q b H') → te σ H Q
section
variable {C : Cc} {elt tg it c : Expr} {ifs : List Expr} {scope : Scope} {own : List (Str × Nat)} {pos spos py : Pos} {gs : List Nat} {g : Tg} {y : Str}
theorem jf_nil : JF C [] (M.ret true) := ⟨_, fun _ => pts_nil, fun σ H ow ρ Q sr hE => hE H ow .refl sr⟩
theorem jf_one {t : M Bool} (h : JT C c t) : JF C [c] t := by
  obtain ⟨q, p, k⟩ := h.ex
  exact ⟨q, fun κ => pts_one (p κ), k⟩
/-- what the reading of a comprehension comes to -/
theorem lc_reads (vs : List Nat) {wi : TI} {ti : M (List D)} {tt : M Bool} {te : M D} {qg : TG} {qt : TT} {qe : TE}
    (k1 : ∀ σ H ow ρ (R : It → Hp → Prop), SR C.K H ow σ ρ → EndE C σ H ow (ti ρ) (fun ds _ H' ow' => ∀ J G Y, Walk J ds.length G Y → (∀ H2 ow2, Stp C.an H' H2 ow' ow2 → G H2) →
      (∀ i H2 ow2 x H3, i < ds.length → Stp C.an H' H2 ow' ow2 → Y i H2 x H3 → ∃ ow3 d, Grow H2 H3 ow2 ow3 ∧ ds[i]? = some d ∧ Rp C.K H3 ow3 x d) → R J H') → wi σ H R)
    (k2 : ∀ v d σ H ow ρ ρ' (Q : L2.St → Hp → Prop), SR C.K H ow σ ρ → Rp C.K H ow v d → g d ρ = some ρ' → (∀ σ', Dif gs σ σ' → SR C.K H ow σ' ρ' → Q σ' H) → qg v σ H Q)
    (k3 : ∀ σ H ow ρ (Q : Bool → Hp → Prop), SR C.K H ow σ ρ → EndE (C.blk scope) σ H ow (tt ρ) (fun b _ H' _ => Q b H') → qt σ H Q)
    (k4 : ∀ σ H ow ρ (Q : VK), SR C.K H ow σ ρ → EndE (C.blk scope) σ H ow (te ρ) (fun d _ H' ow' => ∀ v, Rp C.K H' ow' v d → Q v H') → qe σ H Q) (hgs : ∀ i ∈ gs, i ∈ vs) :
    ∀ σ H ow ρ (Q : VK), SR C.K H ow σ ρ → EndE C σ H ow (mLc vs g tt te ti ρ) (fun xs _ H' ow' => ∀ p us, H p = none → H' p = some (.lst us) → ow' p = 1 → RpL C.K H' ow' us xs → Q (.ref p) H') → tLc wi qg qt qe vs σ H Q := by
  intro σ H ow ρ Q sr hE
  refine k1 σ H ow ρ _ sr (hE.bind.imp fun ds ρ1 H1 ow1 s1 sr1 q1 J G Y w hG hY => ?_)
  cases e0 : lcD vs g tt te ds [] ρ1 with
  | exc c d ρ2 =>
    simp only [e0] at q1
    exact q1.elim
  | stuck =>
    simp only [e0] at q1
    exact q1.elim
  | ok zs ρf =>
    simp only [e0] at q1
    intro Dl hD
    have g0 : Grow H1 (upd H1 Dl (.lst [])) ow1 (own0 H1 ow1 1) := Grow.of (same_new hD)
    refine lc_it w (fun i H' => ∃ ow' ρ' acc accV, Stp C.an H1 H' ow1 ow' ∧ H' Dl = some (.lst accV) ∧ ow' Dl = 1 ∧ RpL C.K H' ow' accV acc ∧ SR C.K H' ow' (wipe σ vs) (wipeE ρ' vs) ∧ lcD vs g tt te (ds.drop i) acc ρ' = .ok zs ρf)
      ⟨own0 H1 ow1 1, ρ1, [], [], g0.stp, upd_same, own0_none hD, .nil, (sr1.grow g0).wipe vs, e0⟩ (fun i H' _ ⟨ow', _, _, _, s', _⟩ => hG H' ow' s') ?_ ?_
    · rintro i x H2 H3 hi ⟨ow2, ρ2, acc, accV, s2, hD2, w2, ra, sr2, q2⟩ hy
      obtain ⟨ow3, d, g3, hd, r3⟩ := hY i H2 ow2 x H3 hi s2 hy
      have ed : ds.drop i = d :: ds.drop (i + 1) := by
        rw [List.drop_eq_getElem_cons hi]
        have : ds[i] = d := by simpa [hi] using hd
        rw [this]
      rw [ed] at q2
      have sr3 := sr2.grow g3
      unfold lcD at q2
      cases e1 : g d (wipeE ρ2 vs) with
      | none =>
        simp only [e1] at q2
        cases q2
      | some ρ4 =>
        simp only [e1] at q2
        refine k2 x d (wipe σ vs) H3 ow3 (wipeE ρ2 vs) ρ4 _ sr3 r3 e1 fun σ4 df sr4 => ⟨wipe_dif df hgs, ?_⟩
        have hD3 := g3 _ _ hD2
        refine k3 σ4 H3 ow3 ρ4 _ sr4 ?_
        cases e2 : tt ρ4 with
        | exc c d ρ5 =>
          simp only [e2] at q2
          cases q2
        | stuck =>
          simp only [e2] at q2
          cases q2
        | ok b ρ5 =>
          intro H5 ow5 s5 sr5
          have hD5 := s5.keep _ _ hD3.1 (by rw [hD3.2, w2]; decide)
          have wD5 : ow5 Dl = 1 := hD5.2.trans (hD3.2.trans w2)
          have ra5 := (ra.grow g3).stp s5
          have st5 := (s2.trans g3.stp).trans s5
          cases b with
          | false =>
            simp only [e2] at q2
            rw [if_neg Bool.false_ne_true]
            refine ⟨ow5, ρ5, acc, accV, st5, hD5.1, wD5, ra5, ?_, q2⟩
            rw [← wipe_dif df hgs]
            exact sr5.wipe vs
          | true =>
            simp only [e2] at q2
            rw [if_pos rfl]
            refine k4 σ4 H5 ow5 ρ5 _ sr5 ?_
            cases e3 : te ρ5 with
            | exc c d ρ6 =>
              simp only [e3] at q2
              cases q2
            | stuck =>
              simp only [e3] at q2
              cases q2
            | ok y ρ6 =>
              simp only [e3] at q2
              intro H6 ow6 s6 sr6 v rv
              have hD6 := s6.keep _ _ hD5.1 (by rw [wD5]; decide)
              have wD6 : ow6 Dl = 1 := hD6.2.trans wD5
              by_cases hl : acc.length < sizeLine
              · rw [if_pos hl] at q2
                have ra6 : RpL C.K H6 ow6 accV acc := ra5.stp s6
                refine ⟨accV, hD6.1, by rw [ra6.length]; exact hl, ?_⟩
                -- the list at Dl grows: nobody reads it yet
                have sd : ∀ a o, H6 a = some o → a ≠ Dl → upd H6 Dl (.lst (accV ++ [v])) a = some o := fun a o ha hn => by
                  rw [upd_ne hn]
                  exact ha
                have sB : Stp C.an H1 (upd H6 Dl (.lst (accV ++ [v]))) ow1 ow6 := by
                  have sA := st5.trans s6
                  have nD : ∀ a o, H1 a = some o → a ≠ Dl := fun a o ha => ne_of_none ha hD
                  refine ⟨fun a o ha l => ⟨sd _ _ (sA.keep a o ha l).1 (nD a o ha), (sA.keep a o ha l).2⟩, fun a xs ha => ?_, fun a ob u ha => sd _ _ (sA.frz a ob u ha) (nD a _ ha), fun a o ha l m => sA.anc a o ha l m, fun a o ha => ?_⟩
                  · rcases sA.tup a xs ha with z | ⟨o, z⟩
                    · exact .inl (sd _ _ z fun e => by rw [e, hD6.1] at z; cases z)
                    · exact .inr ⟨o, sd _ _ z fun e => by rw [e, hD6.1] at z; cases z⟩
                  · obtain ⟨o', z⟩ := sA.here a o ha
                    exact ⟨o', sd _ _ z (nD a o ha)⟩
                -- from H6 to the grown heap: what is read stays
                have sC : ∀ a o, H6 a = some o → ow6 a = 0 → upd H6 Dl (.lst (accV ++ [v])) a = some o := fun a o ha h0 => sd a o ha fun e => by rw [e, wD6] at h0; cases h0
                have rpl : ∀ {us : List V} {es : List D}, RpL C.K H6 ow6 us es → RpL C.K (upd H6 Dl (.lst (accV ++ [v]))) ow6 us es := fun {us es} r => by
                  have s7 : Stp [] H6 (upd H6 Dl (.lst (accV ++ [v]))) (fun a => if a = Dl then 2 else ow6 a) (fun a => if a = Dl then 2 else ow6 a) := by
                    refine ⟨fun a o ha l => ?_, fun a xs ha => ?_, fun a ob u ha => sd _ _ ha (fun e => by (rw [e, hD6.1] at ha; cases ha)), fun _ _ _ _ m => absurd m (by simp), fun a o ha => ?_⟩
                    · have hn : a ≠ Dl := fun e => by
                        rw [if_pos e] at l
                        omega
                      exact ⟨sd a o ha hn, rfl⟩
                    · rcases ha with z | ⟨o, z⟩
                      · exact .inl (sd _ _ z fun e => by rw [e, hD6.1] at z; cases z)
                      · exact .inr ⟨o, sd _ _ z fun e => by rw [e, hD6.1] at z; cases z⟩
                    · by_cases e : a = Dl
                      · rw [e]
                        exact ⟨_, upd_same⟩
                      · exact ⟨o, sd a o ha e⟩
                  have z0 : ∀ a o, H6 a = some o → ow6 a = 0 → (if a = Dl then 2 else ow6 a) = 0 := fun a o _ h0 => by
                    rw [if_neg fun e => by rw [e, wD6] at h0; cases h0]
                    exact h0
                  have z1 : ∀ a o, upd H6 Dl (.lst (accV ++ [v])) a = some o → (if a = Dl then 2 else ow6 a) = 0 → ow6 a = 0 := fun a o _ h0 => by
                    by_cases e : a = Dl
                    · rw [if_pos e] at h0
                      cases h0
                    · rw [if_neg e] at h0
                      exact h0
                  exact ((r.lab z0).stp s7).lab z1
                refine ⟨ow6, ρ6, acc ++ [y], accV ++ [v], sB, upd_same, wD6, rpl (ra6.append (.one rv)), ?_, q2⟩
                rw [← wipe_dif df hgs]
                have sr7 := sr6.wipe vs
                refine ⟨sr7.len, fun j t e => ?_⟩
                have q := sr7.get j t e
                have one : ∀ {u : V} {d : D}, Rp C.K H6 ow6 u d → Rp C.K (upd H6 Dl (.lst (accV ++ [v]))) ow6 u d := fun r => by
                  cases rpl (.one r) with
                  | cons h1 _ => exact h1
                cases t with
                | un => trivial
                | val d =>
                  obtain ⟨u, eu, ru⟩ := q
                  exact ⟨u, eu, one ru⟩
                | own xs =>
                  obtain ⟨p, us, ep, hp, hw, r⟩ := q
                  exact ⟨p, us, ep, sd _ _ hp fun e => by rw [e, wD6] at hw; omega, hw, rpl r⟩
                | deal cs b =>
                  obtain ⟨p, q', ep, hp, hq, n, w1, w2'⟩ := q
                  exact ⟨p, q', ep, sd _ _ hp fun e => by rw [e, wD6] at w1; omega, sd _ _ hq fun e => by rw [e, wD6] at w2'; omega, n, w1, w2'⟩
                | scr ns =>
                  obtain ⟨a, ea, hs⟩ := q
                  refine ⟨a, ea, ?_⟩
                  rcases hs with ⟨ob, hs⟩ | hs
                  · exact .inl ⟨ob, sd _ _ hs fun e => by rw [e, hD6.1] at hs; cases hs⟩
                  · exact .inr hs
              · rw [if_neg hl] at q2
                cases q2
    · rintro H2 ⟨ow2, ρ2, acc, accV, s2, hD2, w2, ra, sr2, q2⟩
      rw [List.drop_length] at q2
      cases q2
      exact q1 H2 ow2 s2 (sr1.rest s2 sr2) Dl accV (s1.free hD) hD2 w2 ra
theorem jn_lc (ok : CcOk C) {ti : M (List D)} {tt : M Bool} {te : M D} (own : List (Str × Nat)) (h1 : JI C tg it ti) (hg : JG (C.blk scope) tg gs g) (ht : JF (C.blk scope) ifs tt) (he : JE (C.blk scope) elt te)
    (okb : ∀ κ, blkC (C.X κ).N (C.X κ).env.scope scope own = true := by intro _; kernel_rfl) (hgs : ∀ i ∈ gs, i ∈ own.map (·.2) := by decide) (hs : ∀ κ, ∀ x, foldedSetIterable it (C.X κ).env x = pure x := by intro _; intro _; rfl) :
    JN C (.ListComp elt [⟨tg, it, ifs, 0⟩] scope pos) (mLc (own.map (·.2)) g tt te ti) := by
  obtain ⟨wi, p1, k1⟩ := h1.ex
  obtain ⟨qg, p2, k2⟩ := hg.ex
  obtain ⟨qt, p3, k3⟩ := ht.ex
  obtain ⟨qe, p4, k4⟩ := he.ex
  refine ⟨tLc wi qg qt qe (own.map (·.2)), fun κ => pe_lc (ok.calm κ) (ok.nd κ) (p1 κ) (blkOk_by (okb κ)) (fun s H Ca cl fp => p2 ⟨κ, s, H, Ca, cl, fp⟩) (fun s H Ca cl fp => p3 ⟨κ, s, H, Ca, cl, fp⟩) (fun s H Ca cl fp => p4 ⟨κ, s, H, Ca, cl, fp⟩) (hs κ), ?_⟩
  exact lc_reads _ k1 k2 k3 k4 hgs
/-- name = [..] -/
theorem js_setLc (ok : CcOk C) (i : Nat) {ti : M (List D)} {tt : M Bool} {te : M D} (own : List (Str × Nat)) (h1 : JI C tg it ti) (hg : JG (C.blk scope) tg gs g) (ht : JF (C.blk scope) ifs tt) (he : JE (C.blk scope) elt te) (ha : i ∉ C.an := by first | (show _ ∉ ([] : List Nat); decide) | (show _ ∉ ([0] : List Nat); decide))
    (hy : ∀ κ, (C.X κ).N[i]? = some y := by intro _; rfl) (hyl : ∀ κ, (C.X κ).env.scope.names.lookup y = some .local := by intro _; rfl) (hsw : ∀ κ, swapsWith (.ListComp elt [⟨tg, it, ifs, 0⟩] scope pos) (some (.Name y py)) spos.line (C.X κ).env = pure true := by intro _; exact sw_true rfl rfl rfl (by decide +kernel))
    (okb : ∀ κ, blkC (C.X κ).N (C.X κ).env.scope scope own = true := by intro _; kernel_rfl) (hgs : ∀ i ∈ gs, i ∈ own.map (·.2) := by decide) (hs : ∀ κ, ∀ x, foldedSetIterable it (C.X κ).env x = pure x := by intro _; intro _; rfl) :
    JS C (.Assign [.Name y py] (.ListComp elt [⟨tg, it, ifs, 0⟩] scope pos) spos) (mSet i (mO (mLc (own.map (·.2)) g tt te ti))) := by
  obtain ⟨wi, p1, k1⟩ := h1.ex
  obtain ⟨qg, p2, k2⟩ := hg.ex
  obtain ⟨qt, p3, k3⟩ := ht.ex
  obtain ⟨qe, p4, k4⟩ := he.ex
  refine ⟨tAsg (tLc wi qg qt qe (own.map (·.2))) (gName i), fun κ => ps_setLc (ok.calm κ) (ok.nd κ) (hy κ) (hyl κ) (hsw κ) (p1 κ) (blkOk_by (okb κ)) (fun s H Ca cl fp => p2 ⟨κ, s, H, Ca, cl, fp⟩) (fun s H Ca cl fp => p3 ⟨κ, s, H, Ca, cl, fp⟩) (fun s H Ca cl fp => p4 ⟨κ, s, H, Ca, cl, fp⟩) (hs κ), fun σ H ow ρ E sr hE => ?_⟩
  refine lc_reads _ k1 k2 k3 k4 hgs σ H ow ρ _ sr ?_
  have hE' := set_ends ha hE
  exact hE'.bind.imp fun xs ρ1 H1 ow1 s1 sr1 q1 p us hn hp w r => q1 H1 ow1 .refl sr1 _ ⟨p, us, rfl, hn, hp, w, r⟩
end
end Dy

namespace Dy
open PySem PySem.Spec PyProof.Rows L2

/-! ### defs -/
abbrev Fd := List Sl → Res D
def initE (n : Nat) (as : List Sl) : Ev := as ++ List.replicate (n - as.length) .un
def bodyF (n : Nat) (b : M Out) : Fd := fun as => match b (initE n as) with
  | .ok .nx ρ => .ok .non ρ
  | .ok (.rt d) ρ => .ok d ρ
  | .ok _ _ => .stuck
  | .exc c d ρ => .exc c d ρ
  | .stuck => .stuck
/-- what the callers' slots hold behind a call -/
def Outs (K : PySem.W.Frag) (an : List Nat) (H' : Hp) (ow' : Addr → Nat) (vs : List V) (ρ' : Ev) : Prop := ∀ i ∈ an, ∀ s, ρ'[i]? = some s → SlIs K H' ow' i vs[i]? s
/-- a def's promise by a function of data -/
def spD (K : PySem.W.Frag) (xc : Nat → Value → Prop) (an : List Nat) (n : Nat) (F : Fd) : Sp := fun vs H Q E => ∃ ow as, as.length = n ∧ SR K H ow (vs.map some) as ∧ match F as with
  | .ok d ρ' => ∀ v H' ow', Stp an H H' ow ow' → Outs K an H' ow' vs ρ' → Rp K H' ow' v d → Q v H'
  | .exc c d ρ' => ∀ cls dx H' ow' v, Stp an H H' ow ow' → Outs K an H' ow' vs ρ' → xc c cls → H' dx = some (.xd [("at", v)]) → Rp K H' ow' v d → E cls (some dx) H'
  | .stuck => False
theorem SR.init {K : PySem.W.Frag} {H : Hp} {ow : Addr → Nat} {vs : List V} {as : List Sl} (N : List Str) (h : SR K H ow (vs.map some) as) : SR K H ow (L2.start N vs) (initE N.length as) := by
  have hl : vs.length = as.length := by simpa using h.len
  refine ⟨by simp [L2.start, initE, hl], fun i s e => ?_⟩
  unfold L2.start initE at *
  by_cases hi : i < as.length
  · rw [List.getElem?_append_left hi] at e
    rw [List.getElem?_append_left (by simpa [hl] using hi)]
    exact h.get i s e
  · rw [List.getElem?_append_right (by omega)] at e
    rw [List.getElem?_replicate] at e
    split at e
    · cases e
      trivial
    · cases e
section
variable {P : Program} {w : World} {K : PySem.W.Frag} {mg : Str → Option Value} {base : Heap} {xc : Nat → Value → Prop}
/-- a def's body runs here -/
def ccOf (P : Program) (w : World) (K : PySem.W.Frag) (mg : Str → Option Value) (base : Heap) (xc : Nat → Value → Prop) (an : List Nat) (N : List Str) (qual : Str) (scope : Scope) (f : Addr) (cd : Value) (A : Around) (outer : List Env) (s : Shared) (H : Hp) (E : XK) : Cc where
  ι := Unit
  X := fun _ => cxOf (L2.CX P w) P w K mg base N qual scope f cd A outer s H E
  K := K
  W := fun cls d _ H => E cls d H
  an := an
  xc := xc
theorem ccOf_ok {an : List Nat} {N ps : List Str} {qual : Str} {scope : Scope} {f : Addr} {cd : Value} {A : Around} {outer : List Env} {s : Shared} {H : Hp} {E : XK} {k : Nat} (S : FnScope N ps scope) (hr : Room k (A.deeper (envOfC qual scope s.heap.objs.size f cd))) :
    CcOk (ccOf P w K mg base xc an N qual scope f cd A outer s H E) :=
  ⟨fun _ => rfl, fun _ => by have := hr.un; show (A.deeper (envOfC qual scope s.heap.objs.size f cd)).units + 200 < cLine; omega, fun _ => S.nd, fun _ => rfl⟩
theorem ccOf_own {an : List Nat} {N : List Str} {qual : Str} {scope : Scope} {f : Addr} {cd : Value} {A : Around} {outer : List Env} {s : Shared} {H : Hp} {E : XK} : Own (ccOf P w K mg base xc an N qual scope f cd A outer s H E) := fun _ => passes_of rfl
/-- what is raised by a callee goes where it is wished -/
def PassC (C : Cc) : Prop := ∀ κ σ, PassesAt (L2.CX (C.X κ).prog (C.X κ).w) (C.X κ) σ (WE C.W σ)
theorem ccOf_pass {an : List Nat} {N : List Str} {qual : Str} {scope : Scope} {f : Addr} {cd : Value} {A : Around} {outer : List Env} {s : Shared} {H : Hp} {E : XK} : PassC (ccOf P w K mg base xc an N qual scope f cd A outer s H E) := fun _ σ =>
  passAt (takes_of rfl rfl rfl rfl) σ
theorem PassC.blk {C : Cc} {scope : Scope} : PassC (C.blk scope) := fun _ _ _ _ _ _ _ _ h => by
  obtain ⟨_, _, _, _, _, _, _, _, _, _, _, _, z⟩ := h
  exact z.elim
/-- THE RULE for a def -/
theorem fn_D {x qual : Str} {st : Stmt} {f : Addr} {fd : FuncData} {N ps : List Str} {k : Nat} {an : List Nat} {b : M Out} (F : Fun K x qual st f fd) (S : FnScope N ps (defScope st)) (han : ∀ i ∈ an, i < ps.length)
    (hb : ∀ (cdv : Value) (A : Around) (outer : List Env) (s : Shared) (H : Hp) (E : XK), Room k (A.deeper (envOfC qual (defScope st) s.heap.objs.size f cdv)) → JB (ccOf P w K mg base xc an N qual (defScope st) f cdv A outer s H E) (defBody st) b) :
    FnOk P w K mg base (L2.CX P w) (k + 1) f fd ps (spD K xc an ps.length (bodyF N.length b)) := by
  refine F.okX S (fun vs H Q E h => ?_) (fun cdv A outer s H vs Q E hr h => ?_)
  · obtain ⟨ow, as, hl, sr, _⟩ := h
    have := sr.len
    rw [List.length_map] at this
    rw [this, hl]
  · obtain ⟨ow, as, hl, sr, hF⟩ := h
    obtain ⟨t, p, kk⟩ := (hb cdv A outer s H E hr).ex
    refine ⟨t, p (), kk _ H ow (initE N.length as) _ (sr.init N) ?_⟩
    have hvl : vs.length = ps.length := by
      have := sr.len
      rw [List.length_map] at this
      rw [this, hl]
    have outs : ∀ {ρ' : Ev} {σ' : L2.St} {H' : Hp} {ow' : Addr → Nat}, AnEq an (L2.start N vs) σ' → SR K H' ow' σ' ρ' → Outs K an H' ow' vs ρ' := fun {ρ' σ' H' ow'} a sr' i hi s' e => by
      have q := sr'.get i s' e
      have hi' : i < vs.length := by rw [hvl]; exact han i hi
      have e2 : (σ'[i]?).join = vs[i]? := by
        rw [a i hi]
        unfold L2.start
        rw [List.getElem?_append_left (by simpa using hi'), List.getElem?_map]
        cases vs[i]? <;> rfl
      rw [e2] at q
      exact q
    unfold bodyF at hF
    cases e : b (initE N.length as) with
    | ok o ρ' =>
      rw [e] at hF
      intro σ' H' ow' s' a' sr'
      cases o with
      | nx => exact hF .non H' ow' s' (outs a' sr') .non
      | rt d => exact fun v rv => hF v H' ow' s' (outs a' sr') rv
      | bk => exact hF.elim
      | ct => exact hF.elim
    | exc c d ρ' =>
      rw [e] at hF
      intro cls dx σ' H' ow' v s' a' sr' hx hd rv
      exact hF cls dx H' ow' v s' (outs a' sr') hx hd rv
    | stuck =>
      rw [e] at hF
      exact hF.elim
end

/-! ### calls -/
def sharedO (ρ : Ev) : Op → Bool
  | .sh _ => true
  | .nm i => match ρ[i]? with
    | some (.val _) => true
    | _ => false
def callA (F : Fd) (os : List Op) (ds : List D) : M D := fun ρ => match F (ds.map .val) with
  | .ok d _ => if d.flat || os.all (sharedO ρ) then .ok d ρ else .stuck
  | .exc c d _ => if d.flat then .exc c d ρ else .stuck
  | .stuck => .stuck
def mCallA (F : Fd) (t : M (List Op)) : M D := t.bind fun os => (rdOs os).bind fun ds => callA F os ds
section
variable {K : PySem.W.Frag} {H : Hp} {ow : Addr → Nat} {σ : L2.St} {ρ : Ev}
theorem RpB.all {v : V} {d : D} (h : RpB K H ow v d) : Rp K H (fun _ => 0) v d := by
  cases d with
  | lst ds =>
    obtain ⟨a, xs, e, hs, hl⟩ := h
    subst e
    exact .lst rfl hs (hl.lab fun _ _ _ _ => rfl)
  | non => exact Rp.lab (fun _ _ _ _ => rfl) h
  | bl b => exact Rp.lab (fun _ _ _ _ => rfl) h
  | int i => exact Rp.lab (fun _ _ _ _ => rfl) h
  | str q => exact Rp.lab (fun _ _ _ _ => rfl) h
  | tup xs => exact Rp.lab (fun _ _ _ _ => rfl) h
theorem RpBs.all : ∀ {ds : List D} {vs : List V}, RpBs K H ow vs ds → RpL K H (fun _ => 0) vs ds
  | [], _, h => by
    cases h
    exact .nil
  | d :: ds, _, h => by
    cases h with
    | cons h1 h2 => exact .cons h1.all (RpBs.all h2)
/-- operands that are nobody's own -/
theorem shared_rp (sr : SR K H ow σ ρ) {o : Op} {v : V} (h : RO K H ow σ v o) {d : D} (e : rdO o ρ = .ok d ρ) (hs : sharedO ρ o = true) : Rp K H ow v d := by
  cases o with
  | sh d' =>
    have e : Res.ok d' ρ = Res.ok d ρ := e
    cases e
    exact h
  | nm i =>
    have e : rdSl i ρ = .ok d ρ := e
    unfold rdSl at e
    unfold sharedO at hs
    cases e2 : ρ[i]? with
    | none =>
      rw [e2] at e
      cases e
    | some s =>
      rw [e2] at e
      simp only [e2] at hs
      have q := sr.get i s e2
      have h : σ[i]? = some (some v) := h
      rw [h] at q
      cases s with
      | val d' =>
        have e : Res.ok d' ρ = Res.ok d ρ := e
        cases e
        obtain ⟨v', ev, r⟩ := q
        cases ev
        exact r
      | _ => cases hs
theorem shared_rps (sr : SR K H ow σ ρ) : ∀ {os : List Op} {vs : List V} {ds : List D}, ROs K H ow σ vs os → rdOs os ρ = .ok ds ρ → os.all (sharedO ρ) = true → RpL K H ow vs ds
  | [], _, _, r, e, _ => by
    cases r
    have e : Res.ok [] ρ = Res.ok _ ρ := e
    cases e
    exact .nil
  | o :: os, _, ds, r, e, hs => by
    cases r with
    | cons r1 r2 =>
      simp only [List.all_cons, Bool.and_eq_true] at hs
      have e : ((rdO o).bind fun d => (rdOs os).bind fun ds => M.ret (d :: ds)) ρ = .ok ds ρ := e
      rcases rdO_cases o ρ with ⟨d, e1⟩ | e1
      · rw [bind_ok e1] at e
        cases e2 : rdOs os ρ with
        | ok ds' ρ' =>
          rw [bind_ok e2] at e
          have e : Res.ok (d :: ds') ρ' = Res.ok ds ρ := e
          cases e
          exact .cons (shared_rp sr r1 e1 hs.1) (shared_rps sr r2 e2 hs.2)
        | exc c d' ρ' =>
          rw [bind_exc e2] at e
          cases e
        | stuck =>
          rw [bind_stuck e2] at e
          cases e
      · rw [bind_stuck e1] at e
        cases e
theorem rdOs_same : ∀ {os : List Op} {ds : List D} {ρ' : Ev}, rdOs os ρ = .ok ds ρ' → ρ' = ρ
  | [], _, _, e => by
    have e : Res.ok [] ρ = Res.ok _ _ := e
    cases e
    rfl
  | o :: os, ds, ρ', e => by
    have e : ((rdO o).bind fun d => (rdOs os).bind fun ds => M.ret (d :: ds)) ρ = .ok ds ρ' := e
    rcases rdO_cases o ρ with ⟨d, e1⟩ | e1
    · rw [bind_ok e1] at e
      cases e2 : rdOs os ρ with
      | ok ds' ρ'' =>
        rw [bind_ok e2] at e
        have e : Res.ok (d :: ds') ρ'' = Res.ok ds ρ' := e
        cases e
        exact rdOs_same e2
      | exc c d' ρ'' =>
        rw [bind_exc e2] at e
        cases e
      | stuck =>
        rw [bind_stuck e2] at e
        cases e
    · rw [bind_stuck e1] at e
      cases e
theorem sr_vals : ∀ {ds : List D} {vs : List V}, RpL K H ow vs ds → SR K H ow (vs.map some) (ds.map Sl.val) := fun {ds vs} r => by
  refine ⟨by simp [r.length], fun i s e => ?_⟩
  rw [List.getElem?_map] at e
  cases e2 : ds[i]? with
  | none =>
    rw [e2] at e
    cases e
  | some d =>
    rw [e2] at e
    cases e
    obtain ⟨v, ev, rv⟩ := r.get e2
    exact ⟨v, by rw [List.getElem?_map, ev]; rfl, rv⟩
end
section
variable {C : Cc} {e : Expr} {es : List Expr} {pos p : Pos} {x : Str} {k : Nat} {f : Addr} {fd : FuncData} {ps : List Str} {F : Fd}
theorem call_ends {t : M (List Op)} {te : TA} (kd : ∀ σ H ow ρ (Q : List V → Hp → Prop), SR C.K H ow σ ρ → EndE C σ H ow (t ρ) (fun os _ H' ow' => ∀ vs, ROs C.K H' ow' σ vs os → Q vs H') → te σ H Q) {n : Nat} (hn : ∀ os ρ ρ', t ρ = .ok os ρ' → os.length = n) :
    ∀ σ H ow ρ (Q : VK), SR C.K H ow σ ρ → EndE C σ H ow (mCallA F t ρ) (fun d _ H' ow' => ∀ v, Rp C.K H' ow' v d → Q v H') → tCallS (spD C.K C.xc [] n F) (WE C.W) te σ H Q := by
  intro σ H ow ρ Q sr hE
  have hE0 := hE.bind
  refine kd σ H ow ρ _ sr ?_
  cases e0 : t ρ with
  | exc c d ρ1 =>
    rw [e0] at hE0
    exact hE0
  | stuck =>
    rw [e0] at hE0
    exact hE0
  | ok os ρ1 =>
    rw [e0] at hE0
    intro H1 ow1 s1 sr1 vs rv
    have hl : os.length = n := hn os ρ ρ1 e0
    have q : EndE C σ H1 ow1 ((rdOs os).bind (fun ds => callA F os ds) ρ1) (fun d _ H' ow' => ∀ v, Rp C.K H' ow' v d → Q v H') := hE0 H1 ow1 s1 sr1
    cases e1 : rdOs os ρ1 with
    | exc c d ρ2 =>
      rw [bind_exc e1] at q
      have q1 := EndE.rds (f := fun ds => callA F os ds) sr1 rv (by rw [bind_exc e1]; exact q)
      obtain ⟨ds, bs, q2⟩ := q1
      exfalso
      -- reading operands raises nothing
      have : ∀ os : List Op, ∀ c d ρ2, rdOs os ρ1 ≠ .exc c d ρ2 := fun os => by
        induction os with
        | nil => exact fun _ _ _ z => nomatch z
        | cons o os ih =>
          intro c d ρ2 z
          have z : ((rdO o).bind fun d => (rdOs os).bind fun ds => M.ret (d :: ds)) ρ1 = .exc c d ρ2 := z
          rcases rdO_cases o ρ1 with ⟨d', e1⟩ | e1
          · rw [bind_ok e1] at z
            cases e2 : rdOs os ρ1 with
            | ok ds' ρ'' =>
              rw [bind_ok e2] at z
              exact nomatch z
            | exc c' d'' ρ'' => exact ih _ _ _ e2
            | stuck =>
              rw [bind_stuck e2] at z
              exact nomatch z
          · rw [bind_stuck e1] at z
            exact nomatch z
      exact this os _ _ _ e1
    | stuck =>
      rw [bind_stuck e1] at q
      exact q.elim
    | ok ds ρ2 =>
      have e2 := rdOs_same e1
      subst e2
      obtain ⟨ds', bs, q'⟩ := EndE.rds (f := fun ds => callA F os ds) sr1 rv q
      rw [bind_ok e1] at q
      have hds : RpBs C.K H1 ow1 vs ds := by
        have := EndE.rds (C := C) (σ := σ) (H := H1) (ow := ow1) (ρ := ρ2) (f := fun ds0 => M.ret ds0) (G := fun a _ _ _ => a = ds) sr1 rv (by rw [bind_ok e1]; exact fun _ _ _ _ => rfl)
        obtain ⟨ds2, bs2, q2⟩ := this
        have q2 : ds2 = ds := q2 H1 ow1 .refl sr1
        rw [← q2]
        exact bs2
      have hlen : ds.length = n := by
        have h1 : vs.length = ds.length := hds.all.length
        have h2 : ∀ {vs : List V} {os : List Op}, ROs C.K H1 ow1 σ vs os → vs.length = os.length := fun {vs os} r => by
          induction r with
          | nil => rfl
          | cons _ _ ih => simp [ih]
        rw [← h1, h2 rv, hl]
      unfold callA at q
      show spD C.K C.xc [] n F vs H1 Q (WE C.W σ)
      by_cases hsh : os.all (sharedO ρ2) = true
      · -- nobody's own list among them
        have hr := shared_rps sr1 rv e1 hsh
        have hr' : RpL C.K H1 (fun a => min (ow1 a) 1) vs ds := hr.lab fun a o _ h0 => by show min (ow1 a) 1 = 0; omega
        refine ⟨fun a => min (ow1 a) 1, ds.map .val, by simpa using hlen, sr_vals hr', ?_⟩
        have keep : ∀ {H' : Hp} {ow' : Addr → Nat}, Stp [] H1 H' (fun a => min (ow1 a) 1) ow' → Grow H1 H' ow1 (own0 H1 ow1 0) ∧ ∀ a o, H' a = some o → ow' a = 0 → own0 H1 ow1 0 a = 0 := fun {H' ow'} s => by
          refine ⟨Grow.of fun a o ha => (s.keep a o ha (by show min (ow1 a) 1 ≤ 1; omega)).1, fun a o _ h0 => ?_⟩
          cases ha : H1 a with
          | none => exact own0_none ha
          | some u =>
            rw [own0_some ha]
            have h3 : ow' a = min (ow1 a) 1 := (s.keep a u ha (by show min (ow1 a) 1 ≤ 1; omega)).2
            omega
        cases e3 : F (ds.map .val) with
        | ok d ρ3 =>
          rw [e3] at q
          simp only [hsh, Bool.or_true, if_true] at q
          intro v H' ow' s _ rv'
          obtain ⟨g, z⟩ := keep s
          exact q H' _ g.stp (sr1.grow g) v (rv'.lab z)
        | exc c d ρ3 =>
          rw [e3] at q
          by_cases hf : d.flat = true
          · simp only [hf, if_true] at q
            intro cls dx H' ow' v s _ hx hd rv'
            obtain ⟨g, z⟩ := keep s
            exact q cls dx σ H' _ v g.stp .refl (sr1.grow g) hx hd (rv'.lab z)
          · simp only [hf, if_false] at q
            exact q.elim
        | stuck =>
          rw [e3] at q
          exact q.elim
      · have hr' : RpL C.K H1 (fun _ => 0) vs ds := hds.all
        refine ⟨fun _ => 0, ds.map .val, by simpa using hlen, sr_vals hr', ?_⟩
        have keep : ∀ {H' : Hp} {ow' : Addr → Nat}, Stp [] H1 H' (fun _ => 0) ow' → Grow H1 H' ow1 (own0 H1 ow1 0) := fun {H' ow'} s => Grow.of fun a o ha => (s.keep a o ha (Nat.zero_le _)).1
        cases e3 : F (ds.map .val) with
        | ok d ρ3 =>
          rw [e3] at q
          by_cases hf : d.flat = true
          · simp only [hf, Bool.true_or, if_true] at q
            intro v H' ow' s _ rv'
            exact q H' _ (keep s).stp (sr1.grow (keep s)) v (Rp.free (fun _ _ h => h) hf rv')
          · simp only [hf, hsh, Bool.or_self, if_false] at q
            exact q.elim
        | exc c d ρ3 =>
          rw [e3] at q
          by_cases hf : d.flat = true
          · simp only [hf, if_true] at q
            intro cls dx H' ow' v s _ hx hd rv'
            exact q cls dx σ H' _ v (keep s).stp .refl (sr1.grow (keep s)) hx hd (Rp.free (fun _ _ h => h) hf rv')
          · simp only [hf, if_false] at q
            exact q.elim
        | stuck =>
          rw [e3] at q
          exact q.elim
theorem mCons_len {α : Type} {t : M α} {u : M (List α)} {n : Nat} (h : ∀ xs ρ ρ', u ρ = .ok xs ρ' → xs.length = n) : ∀ xs ρ ρ', mCons t u ρ = .ok xs ρ' → xs.length = n + 1 := fun xs ρ ρ' e => by
  unfold mCons at e
  cases e1 : t ρ with
  | ok a ρ1 =>
    rw [bind_ok e1] at e
    cases e2 : u ρ1 with
    | ok ys ρ2 =>
      rw [bind_ok e2] at e
      have e : Res.ok (a :: ys) ρ2 = Res.ok xs ρ' := e
      cases e
      simp [h ys _ _ e2]
    | exc c d ρ2 =>
      rw [bind_exc e2] at e
      cases e
    | stuck =>
      rw [bind_stuck e2] at e
      cases e
  | exc c d ρ1 =>
    rw [bind_exc e1] at e
    cases e
  | stuck =>
    rw [bind_stuck e1] at e
    cases e
theorem ret_len {α : Type} : ∀ (xs : List α) ρ ρ', (M.ret ([] : List α)) ρ = .ok xs ρ' → xs.length = 0 := fun xs ρ ρ' e => by
  have e : Res.ok ([] : List α) ρ = Res.ok xs ρ' := e
  cases e
  rfl
/-- a call whose arguments are data -/
theorem je_call {t : M (List Op)} (hx : PassC C) (Fn : ∀ κ, FnOk (C.X κ).prog (C.X κ).w (C.X κ).K (C.X κ).mg (C.X κ).base (L2.CX (C.X κ).prog (C.X κ).w) k f fd ps (spD C.K C.xc [] ps.length F)) (hr : ∀ κ, Room k (C.X κ).A) (hm : ∀ κ, (C.X κ).mg x = some (.ref f))
    (hk : ∀ κ, PySem.W.keepIn (C.X κ).K (.ref f) = true) (hb : ∀ κ, Binds (C.X κ).K fd ps []) (ha : JA C (e :: es) t) (hn : ∀ os ρ ρ', t ρ = .ok os ρ' → os.length = ps.length) (hg : ∀ κ, Gl (C.X κ) x := by intro _; rfl) (hdb : (x == ("__debug__" : Str)) = false := by decide)
    (he : ∀ κ, starEach (e :: es) (C.X κ).env = (false, eval e (C.X κ).env) :: starEach es (C.X κ).env := by intro _; rfl) (hpl : ∀ κ, (backTo pos (starEach es (C.X κ).env)).any (·.1) = false := by intro _; rfl) : JE C (.Call (.Name x p) (e :: es) [] pos) (mCallA F t) := by
  obtain ⟨te, pt, kt⟩ := ha.ex
  exact ⟨_, fun κ => pe_callS (Fn κ) (hr κ) (hg κ) (hm κ) (hk κ) (hb κ) (hx κ) (pt κ) hdb (he κ) (hpl κ), call_ends kt hn⟩

/-! ### calls that change their first argument: a source of draws, or a list that a slot alone knows -/
def ownSl : Sl → Bool
  | .own _ => true
  | .deal _ _ => true
  | _ => false
def chkOwn (j : Nat) : M Unit := fun ρ => match ρ[j]? with
  | some s => if ownSl s then .ok () ρ else .stuck
  | none => .stuck
def callD (F : Fd) (j : Nat) (ds : List D) : M D := fun ρ => match ρ[j]? with
  | some s => if ownSl s then (match F (s :: ds.map .val) with
    | .ok d ρ' => (match ρ'[0]? with
      | some s' => if ownSl s' then .ok d (ρ.set j s') else .stuck
      | none => .stuck)
    | _ => .stuck) else .stuck
  | none => .stuck
def mCallD (F : Fd) (j : Nat) (t : M (List D)) : M D := (chkOwn j).bind fun _ => t.bind fun ds => callD F j ds
/-- a slot's own, seen with other owners' numbers -/
theorem SlIs.move {K : PySem.W.Frag} {H : Hp} {ow ow' : Addr → Nat} {i j : Nat} {o : Option V} {s : Sl} (hs : ownSl s = true) (h0 : ∀ a u, H a = some u → ow a = 0 → ow' a = 0) (h1 : ∀ a u, H a = some u → ow a = i + 2 → ow' a = j + 2) (h : SlIs K H ow i o s) : SlIs K H ow' j o s := by
  cases s with
  | own xs =>
    obtain ⟨p, vs, e, hp, w, r⟩ := h
    exact ⟨p, vs, e, hp, h1 _ _ hp w, r.lab h0⟩
  | deal cs b =>
    obtain ⟨p, q, e, hp, hq, n, w1, w2⟩ := h
    exact ⟨p, q, e, hp, hq, n, h1 _ _ hp w1, h1 _ _ hq w2⟩
  | _ => cases hs
theorem SlIs.ref {K : PySem.W.Frag} {H : Hp} {ow : Addr → Nat} {i : Nat} {o : Option V} {s : Sl} (hs : ownSl s = true) (h : SlIs K H ow i o s) : ∃ p, o = some (.ref p) := by
  cases s with
  | own xs =>
    obtain ⟨p, vs, e, _⟩ := h
    exact ⟨p, e⟩
  | deal cs b =>
    obtain ⟨p, q, e, _⟩ := h
    exact ⟨p, e⟩
  | _ => cases hs
/-- the owners as the callee sees them: its first slot's are the caller's slot j's -/
def owC (ow : Addr → Nat) (j : Nat) : Addr → Nat := fun a => if ow a = 0 then 0 else if ow a = j + 2 then 2 else 1
def owB (H : Hp) (ow owc : Addr → Nat) (j : Nat) : Addr → Nat := fun a => if owc a = 0 then 0 else if owc a = 2 then j + 2 else match H a with
  | some _ => ow a
  | none => 1
theorem callD_ends {j : Nat} {t : M (List D)} {te : TA} (kd : ∀ σ H ow ρ (Q : List V → Hp → Prop), SR C.K H ow σ ρ → EndE C σ H ow (t ρ) (fun ds _ H' ow' => ∀ vs, RpL C.K H' ow' vs ds → Q vs H') → te σ H Q) {n : Nat} (hn : ∀ ds ρ ρ', t ρ = .ok ds ρ' → ds.length + 1 = n) :
    ∀ σ H ow ρ (Q : VK), SR C.K H ow σ ρ → EndE C σ H ow (mCallD F j t ρ) (fun d _ H' ow' => ∀ v, Rp C.K H' ow' v d → Q v H') → tCallS (spD C.K C.xc [0] n F) (WE C.W) (tCons (tVar j) te) σ H Q := by
  intro σ H ow ρ Q sr hE
  unfold mCallD at hE
  have hc : ∃ s, ρ[j]? = some s ∧ ownSl s = true := by
    cases e : ρ[j]? with
    | none =>
      rw [bind_stuck (by unfold chkOwn; rw [e])] at hE
      exact hE.elim
    | some s =>
      by_cases hs : ownSl s = true
      · exact ⟨s, rfl, hs⟩
      · rw [bind_stuck (by unfold chkOwn; rw [e]; simp [hs])] at hE
        exact hE.elim
  obtain ⟨s0, es0, hs0⟩ := hc
  rw [bind_ok (a := ()) (ρ' := ρ) (by unfold chkOwn; rw [es0]; simp [hs0])] at hE
  obtain ⟨p, ep⟩ := (sr.get j s0 es0).ref hs0
  have eσ : σ[j]? = some (some (.ref p)) := by
    cases e3 : σ[j]? with
    | none =>
      rw [e3] at ep
      cases ep
    | some o =>
      rw [e3] at ep
      have ep : o = some (.ref p) := ep
      rw [ep]
  refine ⟨.ref p, eσ, ?_⟩
  have hE0 := hE.bind
  refine kd σ H ow ρ _ sr ?_
  cases e0 : t ρ with
  | exc c d ρ1 =>
    rw [e0] at hE0
    exact hE0
  | stuck =>
    rw [e0] at hE0
    exact hE0
  | ok ds ρ1 =>
    rw [e0] at hE0
    intro H1 ow1 s1 sr1 vs rv
    have hl := hn ds ρ ρ1 e0
    have q : EndE C σ H1 ow1 (callD F j ds ρ1) (fun d _ H' ow' => ∀ v, Rp C.K H' ow' v d → Q v H') := hE0 H1 ow1 s1 sr1
    unfold callD at q
    cases es : ρ1[j]? with
    | none =>
      simp only [es] at q
      exact q.elim
    | some s =>
      simp only [es] at q
      by_cases hs : ownSl s = true
      · simp only [hs, if_true] at q
        have sj := sr1.get j s es
        rw [eσ] at sj
        have z0 : ∀ a u, H1 a = some u → ow1 a = 0 → owC ow1 j a = 0 := fun a u _ h => by
          unfold owC
          rw [if_pos h]
        have z2 : ∀ a u, H1 a = some u → ow1 a = j + 2 → owC ow1 j a = 0 + 2 := fun a u _ h => by
          unfold owC
          rw [if_neg (by omega), if_pos h]
        have srC : SR C.K H1 (owC ow1 j) ((V.ref p :: vs).map some) (s :: ds.map .val) := by
          have r := sr_vals (rv.lab z0)
          refine ⟨by simp [rv.length], fun i t' e => ?_⟩
          cases i with
          | zero =>
            simp at e
            subst e
            exact sj.move hs z0 z2
          | succ i =>
            have q := r.get i t' (by simpa using e)
            cases t' with
            | val d => exact q
            | un => trivial
            | own xs =>
              exfalso
              have e : (ds.map Sl.val)[i]? = some (.own xs) := by simpa using e
              rw [List.getElem?_map] at e
              cases h : ds[i]? <;> rw [h] at e <;> cases e
            | deal cs b =>
              exfalso
              have e : (ds.map Sl.val)[i]? = some (.deal cs b) := by simpa using e
              rw [List.getElem?_map] at e
              cases h : ds[i]? <;> rw [h] at e <;> cases e
            | scr ns =>
              exfalso
              have e : (ds.map Sl.val)[i]? = some (.scr ns) := by simpa using e
              rw [List.getElem?_map] at e
              cases h : ds[i]? <;> rw [h] at e <;> cases e
        refine ⟨owC ow1 j, s :: ds.map .val, by simpa using hl, srC, ?_⟩
        cases eF : F (s :: ds.map .val) with
        | exc c d ρ2 =>
          simp only [eF] at q
          exact q.elim
        | stuck =>
          simp only [eF] at q
          exact q.elim
        | ok d ρ2 =>
          simp only [eF] at q
          cases es2 : ρ2[0]? with
          | none =>
            simp only [es2] at q
            exact q.elim
          | some s' =>
            simp only [es2] at q
            by_cases hs' : ownSl s' = true
            · simp only [hs', if_true] at q
              intro v H' owc' st outs rv'
              have lo : ∀ a, owC ow1 j a ≤ 2 := fun a => by
                unfold owC
                split
                · omega
                · split <;> omega
              -- what the callee did not own stands
              have keep : ∀ a u, H1 a = some u → ow1 a ≠ j + 2 → H' a = some u ∧ owB H1 ow1 owc' j a = ow1 a := fun a u ha hn => by
                have l1 : owC ow1 j a ≤ 1 := by
                  unfold owC
                  by_cases h0 : ow1 a = 0
                  · rw [if_pos h0]
                    exact Nat.zero_le _
                  · rw [if_neg h0, if_neg hn]
                    exact Nat.le_refl _
                obtain ⟨k1, k2⟩ := st.keep a u ha l1
                refine ⟨k1, ?_⟩
                unfold owB
                rw [k2]
                unfold owC
                by_cases h0 : ow1 a = 0
                · rw [if_pos h0, if_pos rfl, h0]
                · rw [if_neg h0, if_neg hn, if_neg (by decide), if_neg (by decide), ha]
              have own : ∀ a u, H1 a = some u → ow1 a = j + 2 → owB H1 ow1 owc' j a = j + 2 := fun a u ha hj => by
                have e2 : owC ow1 j a = 2 := by
                  unfold owC
                  rw [if_neg (by omega), if_pos hj]
                have k2 := st.anc a u ha (by rw [e2]; decide) (by rw [e2]; decide)
                unfold owB
                rw [k2, e2]
                rfl
              have sB : Stp C.an H1 H' ow1 (owB H1 ow1 owc' j) := by
                refine ⟨fun a u ha l => keep a u ha (by omega), st.tup, st.frz, fun a u ha l m => ?_, st.here⟩
                by_cases hj : ow1 a = j + 2
                · rw [own a u ha hj, hj]
                · exact (keep a u ha hj).2
              have zl : ∀ a u, H' a = some u → owc' a = 0 → owB H1 ow1 owc' j a = 0 := fun a u _ h => by
                unfold owB
                rw [if_pos h]
              have sr' : SR C.K H' (owB H1 ow1 owc' j) σ (ρ1.set j s') := by
                refine ⟨by simp [sr1.len], fun i t' e => ?_⟩
                by_cases hi : j = i
                · subst hi
                  have hlt : j < ρ1.length := (List.getElem?_eq_some_iff.mp es).1
                  rw [List.getElem?_set_self hlt] at e
                  cases e
                  rw [eσ]
                  have o := outs 0 (by simp) s' es2
                  refine SlIs.move (i := 0) hs' zl (fun a u _ h => ?_) o
                  unfold owB
                  rw [if_neg (by omega), if_pos h]
                · rw [List.getElem?_set_ne hi] at e
                  have o := sr1.get i t' e
                  cases t' with
                  | un => trivial
                  | val d =>
                    obtain ⟨u, eu, r⟩ := o
                    exact ⟨u, eu, r.stp sB⟩
                  | own xs =>
                    obtain ⟨p', us, eu, hp, w, r⟩ := o
                    obtain ⟨k1, k2⟩ := keep _ _ hp (by omega)
                    exact ⟨p', us, eu, k1, k2.trans w, r.stp sB⟩
                  | deal cs b =>
                    obtain ⟨p', q', eu, hp, hq, n, w1, w2⟩ := o
                    obtain ⟨k1, k2⟩ := keep _ _ hp (by omega)
                    obtain ⟨k3, k4⟩ := keep _ _ hq (by omega)
                    exact ⟨p', q', eu, k1, k3, n, k2.trans w1, k4.trans w2⟩
                  | scr ns =>
                    obtain ⟨a, ea, hh⟩ := o
                    refine ⟨a, ea, ?_⟩
                    rcases hh with ⟨ob, hh⟩ | hh
                    · exact .inl ⟨ob, st.frz _ _ _ hh⟩
                    · exact .inr hh
              exact q H' _ sB sr' v (rv'.lab zl)
            · simp only [hs', if_false] at q
              exact q.elim
      · simp only [hs, if_false] at q
        exact q.elim
theorem je_callD (j : Nat) {t : M (List D)} {y : Str} {py : Pos} (hx : PassC C) (Fn : ∀ κ, FnOk (C.X κ).prog (C.X κ).w (C.X κ).K (C.X κ).mg (C.X κ).base (L2.CX (C.X κ).prog (C.X κ).w) k f fd ps (spD C.K C.xc [0] ps.length F)) (hr : ∀ κ, Room k (C.X κ).A) (hm : ∀ κ, (C.X κ).mg x = some (.ref f))
    (hk : ∀ κ, PySem.W.keepIn (C.X κ).K (.ref f) = true) (hb : ∀ κ, Binds (C.X κ).K fd ps []) (ha : JL C es t) (hn : ∀ ds ρ ρ', t ρ = .ok ds ρ' → ds.length + 1 = ps.length) (hg : ∀ κ, Gl (C.X κ) x := by intro _; rfl) (hdb : (x == ("__debug__" : Str)) = false := by decide)
    (hN : ∀ κ, (C.X κ).N[j]? = some y := by intro _; rfl) (hv : ∀ κ, Vis (C.X κ).env.scope y := by intro _; first | exact Or.inl rfl | exact Or.inr (Or.inl rfl) | exact Or.inr (Or.inr rfl)) (hd : (y == ("__debug__" : Str)) = false := by decide) (hcd : (y == ("__classdict__" : Str)) = false := by decide)
    (he : ∀ κ, starEach (.Name y py :: es) (C.X κ).env = (false, eval (.Name y py) (C.X κ).env) :: starEach es (C.X κ).env := by intro _; rfl) (hpl : ∀ κ, (backTo pos (starEach es (C.X κ).env)).any (·.1) = false := by intro _; rfl) : JE C (.Call (.Name x p) (.Name y py :: es) [] pos) (mCallD F j t) := by
  obtain ⟨te, pt, kt⟩ := ha.ex
  exact ⟨_, fun κ => pe_callS (Fn κ) (hr κ) (hg κ) (hm κ) (hk κ) (hb κ) (hx κ) (pa_cons (pe_var (hN κ) (hv κ) hd hcd) (pt κ) (he κ)) hdb (he κ) (hpl κ), callD_ends kt hn⟩
end
end Dy

namespace Dy
open PySem PySem.Spec PyProof.Rows L2

/-! ### a list that a slot alone knows, changed -/
section
variable {K : PySem.W.Frag} {an : List Nat} {H : Hp} {ow : Addr → Nat} {σ : L2.St} {ρ : Ev} {i : Nat} {p : Addr} {vs us : List V} {xs ys : List D}
theorem own_stp (hp : H p = some (.lst vs)) (w : ow p = i + 2) : Stp an H (upd H p (.lst us)) ow ow := by
  refine ⟨fun a o ha l => ⟨?_, rfl⟩, fun a zs ha => ?_, fun a ob u ha => ?_, fun _ _ _ _ _ => rfl, fun a o ha => ?_⟩
  · rw [upd_ne fun e => by rw [e, w] at l; omega]
    exact ha
  · rcases ha with z | ⟨o, z⟩
    · refine .inl ?_
      rw [upd_ne fun e => by rw [e, hp] at z; cases z]
      exact z
    · refine .inr ⟨o, ?_⟩
      rw [upd_ne fun e => by rw [e, hp] at z; cases z]
      exact z
  · rw [upd_ne fun e => by rw [e, hp] at ha; cases ha]
    exact ha
  · by_cases e : a = p
    · rw [e]
      exact ⟨_, upd_same⟩
    · exact ⟨o, by rw [upd_ne e]; exact ha⟩
theorem own_sr (sr : SR K H ow σ ρ) (e0 : ρ[i]? = some (.own xs)) (eσ : (σ[i]?).join = some (.ref p)) (hp : H p = some (.lst vs)) (w : ow p = i + 2) (r : RpL K H ow us ys) : SR K (upd H p (.lst us)) ow σ (ρ.set i (.own ys)) := by
  have st : Stp [] H (upd H p (.lst us)) ow ow := own_stp hp w
  refine ⟨by simp [sr.len], fun j t e => ?_⟩
  by_cases hj : i = j
  · subst hj
    have hlt : i < ρ.length := (List.getElem?_eq_some_iff.mp e0).1
    rw [List.getElem?_set_self hlt] at e
    cases e
    exact ⟨p, us, eσ, upd_same, w, r.stp st⟩
  · rw [List.getElem?_set_ne hj] at e
    have o := sr.get j t e
    have ne : ∀ a, ow a = j + 2 → a ≠ p := fun a h z => by rw [z, w] at h; omega
    cases t with
    | un => trivial
    | val d =>
      obtain ⟨u, eu, ru⟩ := o
      exact ⟨u, eu, ru.stp st⟩
    | own zs =>
      obtain ⟨p', us', eu, hp', w', r'⟩ := o
      exact ⟨p', us', eu, by rw [upd_ne (ne p' w')]; exact hp', w', r'.stp st⟩
    | deal cs b =>
      obtain ⟨p', q', eu, hp', hq', n, w1, w2⟩ := o
      exact ⟨p', q', eu, by rw [upd_ne (ne p' w1)]; exact hp', by rw [upd_ne (ne q' w2)]; exact hq', n, w1, w2⟩
    | scr ns =>
      obtain ⟨a, ea, hh⟩ := o
      refine ⟨a, ea, ?_⟩
      rcases hh with ⟨ob, hh⟩ | hh
      · exact .inl ⟨ob, st.frz _ _ _ hh⟩
      · exact .inr hh
theorem join_some {o : Option (Option V)} {v : V} (h : o.join = some v) : o = some (some v) := by
  cases o with
  | none => cases h
  | some x =>
    have h : x = some v := h
    rw [h]
end
def ownD (i : Nat) : M (List D) := fun ρ => match ρ[i]? with
  | some (.own xs) => .ok xs ρ
  | _ => .stuck
theorem ownD_cases (i : Nat) (ρ : Ev) : (∃ xs, ρ[i]? = some (.own xs) ∧ ownD i ρ = .ok xs ρ) ∨ ownD i ρ = .stuck := by
  unfold ownD
  cases e : ρ[i]? with
  | none => exact .inr rfl
  | some s =>
    cases s with
    | own xs => exact .inl ⟨xs, rfl, rfl⟩
    | _ => exact .inr rfl
def putD (i : Nat) (xs : List D) (d : D) : M D := fun ρ => .ok d (ρ.set i (.own xs))
def mAppend (i : Nat) (t : M D) : M D := (ownD i).bind fun _ => t.bind fun d => (ownD i).bind fun xs => if xs.length < sizeLine then putD i (xs ++ [d]) .non else M.fail
def mPop (i : Nat) : M D := (ownD i).bind fun xs => match xs[xs.length - 1]? with
  | some d => putD i xs.dropLast d
  | none => M.fail
def mPopAt (i : Nat) (t : M Op) : M D := (ownD i).bind fun _ => t.bind fun x => (rdO x).bind fun d => (asI d).bind fun k => (ownD i).bind fun xs => if xs.length ≤ sizeLine then (match ixN xs.length k with
  | some j => (match xs[j]? with
    | some d => putD i (xs.eraseIdx j) d
    | none => M.fail)
  | none => M.fail) else M.fail
def mExtend (i : Nat) (t : M D) : M D := (ownD i).bind fun _ => t.bind fun d => (ownD i).bind fun xs => match d with
  | .lst ys => if xs.length + ys.length ≤ sizeLine then putD i (xs ++ ys) .non else M.fail
  | _ => M.fail
section
variable {C : Cc} {e a b : Expr} {pos cpos apos py : Pos} {y : Str} {i : Nat}
/-- a slot's own list, as it stands -/
theorem own_at {σ : L2.St} {H : Hp} {ow : Addr → Nat} {ρ : Ev} {xs : List D} (sr : SR C.K H ow σ ρ) (e : ρ[i]? = some (.own xs)) : ∃ p vs, σ[i]? = some (some (.ref p)) ∧ H p = some (.lst vs) ∧ ow p = i + 2 ∧ RpL C.K H ow vs xs := by
  obtain ⟨p, vs, ep, hp, w, r⟩ := sr.get i _ e
  exact ⟨p, vs, join_some ep, hp, w, r⟩
theorem EndE.own {α : Type} {σ : L2.St} {H : Hp} {ow : Addr → Nat} {ρ : Ev} {f : List D → M α} {G : α → Ev → Hp → (Addr → Nat) → Prop} (h : EndE C σ H ow ((ownD i).bind f ρ) G) : ∃ xs, ρ[i]? = some (.own xs) ∧ EndE C σ H ow (f xs ρ) G := by
  rcases ownD_cases i ρ with ⟨xs, e1, e2⟩ | e2
  · rw [bind_ok e2] at h
    exact ⟨xs, e1, h⟩
  · rw [bind_stuck e2] at h
    exact h.elim
theorem je_append (ok : CcOk C) (i : Nat) {t : M D} (h : JE C e t) (hN : ∀ κ, (C.X κ).N[i]? = some y := by intro _; rfl) (hv : ∀ κ, Vis (C.X κ).env.scope y := by intro _; first | exact Or.inl rfl | exact Or.inr (Or.inl rfl) | exact Or.inr (Or.inr rfl))
    (hd : (y == ("__debug__" : Str)) = false := by decide) (hcd : (y == ("__classdict__" : Str)) = false := by decide) (hbase : ∀ κ, attributeBase (.Name y py) "append" (C.X κ).env (eval (.Name y py) (C.X κ).env) = eval (.Name y py) (C.X κ).env := by intro _; rfl)
    (hline : (apos.endLine == cpos.line) = true := by rfl)
    (hfew : ∀ κ, ((backTo cpos (starEach [e] (C.X κ).env)).all (fun x => !x.1) && (backToKw cpos (keywordEach [] (C.X κ).env)).all (fun x => x.1.isSome) && decide ([e].length + ([] : List Keyword).length + (if ([] : List Keyword).isEmpty then 0 else 1) < 30)) = true := by intro _; rfl)
    (hs : ∀ κ, starEach [e] (C.X κ).env = (false, eval e (C.X κ).env) :: starEach [] (C.X κ).env := by intro _; rfl) (hp : ∀ κ, (backTo cpos (starEach [] (C.X κ).env)).any (·.1) = false := by intro _; rfl) :
    JE C (.Call (.Attribute (.Name y py) "append" apos) [e] [] cpos) (mAppend i t) := by
  obtain ⟨q, p, k⟩ := h.ex
  refine ⟨tBM C.K "list" rAppend (tVar i) (tCons q tNil), fun κ => ?_, fun σ H ow ρ Q sr hE => ?_⟩
  · rw [← ok.kk κ]
    exact pe_bm PySem.F.plainAttrs_list PySem.F.slot_list_append PySem.F.type_list_append mt_append (pe_var (hN κ) (hv κ) hd hcd) (pa_cons (p κ) pa_nil (hs κ)) (hbase κ) (hfew κ) hline (hs κ) (hp κ)
  · obtain ⟨xs0, e0, h1⟩ := EndE.own hE
    obtain ⟨p0, vs0, eσ, hp0, w0, r0⟩ := own_at sr e0
    refine ⟨.ref p0, eσ, .inl ⟨rfl, vs0, SqL.of hp0⟩, k σ H ow ρ _ sr (h1.bind.imp fun d ρ1 H1 ow1 s1 sr1 q1 v rv => ?_)⟩
    obtain ⟨xs, e1, q2⟩ := EndE.own q1
    obtain ⟨p1, vs, eσ1, hp1, w1, r1⟩ := own_at sr1 e1
    rw [eσ] at eσ1
    cases eσ1
    by_cases hl : xs.length < sizeLine
    · rw [if_pos hl] at q2
      refine ⟨p0, vs, v, rfl, rfl, hp1, by rw [r1.length]; exact hl, ?_⟩
      exact q2 _ ow1 (own_stp hp1 w1) (own_sr sr1 e1 (by rw [eσ]; rfl) hp1 w1 (r1.append (.one rv))) _ .non
    · rw [if_neg hl] at q2
      exact q2.elim
theorem je_extend (ok : CcOk C) (i : Nat) {t : M D} (h : JE C e t) (hN : ∀ κ, (C.X κ).N[i]? = some y := by intro _; rfl) (hv : ∀ κ, Vis (C.X κ).env.scope y := by intro _; first | exact Or.inl rfl | exact Or.inr (Or.inl rfl) | exact Or.inr (Or.inr rfl))
    (hd : (y == ("__debug__" : Str)) = false := by decide) (hcd : (y == ("__classdict__" : Str)) = false := by decide) (hbase : ∀ κ, attributeBase (.Name y py) "extend" (C.X κ).env (eval (.Name y py) (C.X κ).env) = eval (.Name y py) (C.X κ).env := by intro _; rfl)
    (hline : (apos.endLine == cpos.line) = true := by rfl)
    (hfew : ∀ κ, ((backTo cpos (starEach [e] (C.X κ).env)).all (fun x => !x.1) && (backToKw cpos (keywordEach [] (C.X κ).env)).all (fun x => x.1.isSome) && decide ([e].length + ([] : List Keyword).length + (if ([] : List Keyword).isEmpty then 0 else 1) < 30)) = true := by intro _; rfl)
    (hs : ∀ κ, starEach [e] (C.X κ).env = (false, eval e (C.X κ).env) :: starEach [] (C.X κ).env := by intro _; rfl) (hp : ∀ κ, (backTo cpos (starEach [] (C.X κ).env)).any (·.1) = false := by intro _; rfl) :
    JE C (.Call (.Attribute (.Name y py) "extend" apos) [e] [] cpos) (mExtend i t) := by
  obtain ⟨q, p, k⟩ := h.ex
  refine ⟨tBM C.K "list" rExtend (tVar i) (tCons q tNil), fun κ => ?_, fun σ H ow ρ Q sr hE => ?_⟩
  · rw [← ok.kk κ]
    exact pe_bm PySem.F.plainAttrs_list PySem.F.slot_list_extend PySem.F.type_list_extend mt_extend (pe_var (hN κ) (hv κ) hd hcd) (pa_cons (p κ) pa_nil (hs κ)) (hbase κ) (hfew κ) hline (hs κ) (hp κ)
  · obtain ⟨xs0, e0, h1⟩ := EndE.own hE
    obtain ⟨p0, vs0, eσ, hp0, w0, r0⟩ := own_at sr e0
    refine ⟨.ref p0, eσ, .inl ⟨rfl, vs0, SqL.of hp0⟩, k σ H ow ρ _ sr (h1.bind.imp fun d ρ1 H1 ow1 s1 sr1 q1 v rv => ?_)⟩
    obtain ⟨xs, e1, q2⟩ := EndE.own q1
    obtain ⟨p1, vs, eσ1, hp1, w1, r1⟩ := own_at sr1 e1
    rw [eσ] at eσ1
    cases eσ1
    cases rv with
    | @lst b us ds h0 hb hl2 =>
      dsimp only at q2
      by_cases hl : xs.length + ds.length ≤ sizeLine
      · rw [if_pos hl] at q2
        refine ⟨p0, b, vs, us, rfl, rfl, hp1, hb, by rw [r1.length, hl2.length]; exact hl, ?_⟩
        exact q2 _ ow1 (own_stp hp1 w1) (own_sr sr1 e1 (by rw [eσ]; rfl) hp1 w1 (r1.append hl2)) _ .non
      · rw [if_neg hl] at q2
        exact q2.elim
    | _ => exact q2.elim
theorem je_pop (ok : CcOk C) (i : Nat) (hN : ∀ κ, (C.X κ).N[i]? = some y := by intro _; rfl) (hv : ∀ κ, Vis (C.X κ).env.scope y := by intro _; first | exact Or.inl rfl | exact Or.inr (Or.inl rfl) | exact Or.inr (Or.inr rfl))
    (hd : (y == ("__debug__" : Str)) = false := by decide) (hcd : (y == ("__classdict__" : Str)) = false := by decide) (hbase : ∀ κ, attributeBase (.Name y py) "pop" (C.X κ).env (eval (.Name y py) (C.X κ).env) = eval (.Name y py) (C.X κ).env := by intro _; rfl)
    (hline : (apos.endLine == cpos.line) = true := by rfl) :
    JE C (.Call (.Attribute (.Name y py) "pop" apos) [] [] cpos) (mPop i) := by
  refine ⟨tBM0 C.K "list" rPop (tVar i), fun κ => ?_, fun σ H ow ρ Q sr hE => ?_⟩
  · rw [← ok.kk κ]
    exact pe_bm0 PySem.F.plainAttrs_list PySem.F.slot_list_pop PySem.F.type_list_pop mt_pop (pe_var (hN κ) (hv κ) hd hcd) (hbase κ) hline
  · obtain ⟨xs, e0, q2⟩ := EndE.own hE
    obtain ⟨p0, vs, eσ, hp0, w0, r0⟩ := own_at sr e0
    cases e1 : xs[xs.length - 1]? with
    | none =>
      simp only [e1] at q2
      exact q2.elim
    | some d =>
      simp only [e1] at q2
      obtain ⟨v, ev, rv⟩ := r0.get e1
      refine ⟨.ref p0, eσ, .inl ⟨rfl, vs, SqL.of hp0⟩, p0, vs, v, rfl, rfl, hp0, by rw [r0.length]; exact ev, ?_⟩
      have st : Stp C.an H (upd H p0 (.lst vs.dropLast)) ow ow := own_stp hp0 w0
      have rl : RpL C.K H ow vs.dropLast xs.dropLast := by
        rw [List.dropLast_eq_take, List.dropLast_eq_take, r0.length]
        exact r0.take _
      exact q2 _ ow st (own_sr sr e0 (by rw [eσ]; rfl) hp0 w0 rl) v (rv.stp st)
theorem je_popAt (ok : CcOk C) (i : Nat) {t : M Op} (h : JO C e t) (hN : ∀ κ, (C.X κ).N[i]? = some y := by intro _; rfl) (hv : ∀ κ, Vis (C.X κ).env.scope y := by intro _; first | exact Or.inl rfl | exact Or.inr (Or.inl rfl) | exact Or.inr (Or.inr rfl))
    (hd : (y == ("__debug__" : Str)) = false := by decide) (hcd : (y == ("__classdict__" : Str)) = false := by decide) (hbase : ∀ κ, attributeBase (.Name y py) "pop" (C.X κ).env (eval (.Name y py) (C.X κ).env) = eval (.Name y py) (C.X κ).env := by intro _; rfl)
    (hline : (apos.endLine == cpos.line) = true := by rfl)
    (hfew : ∀ κ, ((backTo cpos (starEach [e] (C.X κ).env)).all (fun x => !x.1) && (backToKw cpos (keywordEach [] (C.X κ).env)).all (fun x => x.1.isSome) && decide ([e].length + ([] : List Keyword).length + (if ([] : List Keyword).isEmpty then 0 else 1) < 30)) = true := by intro _; rfl)
    (hs : ∀ κ, starEach [e] (C.X κ).env = (false, eval e (C.X κ).env) :: starEach [] (C.X κ).env := by intro _; rfl) (hp : ∀ κ, (backTo cpos (starEach [] (C.X κ).env)).any (·.1) = false := by intro _; rfl) :
    JE C (.Call (.Attribute (.Name y py) "pop" apos) [e] [] cpos) (mPopAt i t) := by
  obtain ⟨q, p, k⟩ := h.ex
  refine ⟨tBM C.K "list" rPopAt (tVar i) (tCons q tNil), fun κ => ?_, fun σ H ow ρ Q sr hE => ?_⟩
  · rw [← ok.kk κ]
    exact pe_bm PySem.F.plainAttrs_list PySem.F.slot_list_pop PySem.F.type_list_pop mt_popAt (pe_var (hN κ) (hv κ) hd hcd) (pa_cons (p κ) pa_nil (hs κ)) (hbase κ) (hfew κ) hline (hs κ) (hp κ)
  · obtain ⟨xs0, e0, h1⟩ := EndE.own hE
    obtain ⟨p0, vs0, eσ, hp0, w0, r0⟩ := own_at sr e0
    refine ⟨.ref p0, eσ, .inl ⟨rfl, vs0, SqL.of hp0⟩, k σ H ow ρ _ sr (h1.bind.imp fun o ρ1 H1 ow1 s1 sr1 q1 v rv => ?_)⟩
    obtain ⟨d, bd, q1⟩ := q1.rd1 sr1 rv
    cases d with
    | int j =>
      cases rpb_int bd
      obtain ⟨xs, e1, q2⟩ := EndE.own (show EndE C σ H1 ow1 ((ownD i).bind _ ρ1) _ from q1)
      obtain ⟨p1, vs, eσ1, hp1, w1, r1⟩ := own_at sr1 e1
      rw [eσ] at eσ1
      cases eσ1
      by_cases hl : xs.length ≤ sizeLine
      · rw [if_pos hl] at q2
        cases e2 : ixN xs.length j with
        | none =>
          simp only [e2] at q2
          exact q2.elim
        | some m =>
          simp only [e2] at q2
          cases e3 : xs[m]? with
          | none =>
            simp only [e3] at q2
            exact q2.elim
          | some d =>
            simp only [e3] at q2
            obtain ⟨u, eu, ru⟩ := r1.get e3
            obtain ⟨h1, h2, h3, h4⟩ := ixN_seq e2
            have hz : (sizeLine : Nat) < 2 ^ 62 := by decide
            refine ⟨p0, vs, j, m, u, rfl, rfl, hp1, by omega, by omega, by rw [r1.length]; exact h1, eu, ?_⟩
            have st : Stp C.an H1 (upd H1 p0 (.lst (vs.eraseIdx m))) ow1 ow1 := own_stp hp1 w1
            exact q2 _ ow1 st (own_sr sr1 e1 (by rw [eσ]; rfl) hp1 w1 (r1.eraseIdx m)) u (ru.stp st)
      · rw [if_neg hl] at q2
        exact q2.elim
    | _ => exact q1.elim

/-! ### the module's names -/
theorem je_glob {x : Str} {v : V} {u : Value} {d : D} (hm : ∀ κ, (C.X κ).mg x = some u) (r : RelV v u) (rp : ∀ H ow, Rp C.K H ow v d) (hg : ∀ κ, Gl (C.X κ) x := by intro _; rfl) (hd : (x == ("__debug__" : Str)) = false := by decide) : JE C (.Name x pos) (M.ret d) :=
  je_c (fun κ => pe_glob (hg κ) (hm κ) r hd) rp

/-! ### isinstance -/
def D.ty : D → String
  | .non => "NoneType"
  | .bl _ => "bool"
  | .int _ => "int"
  | .str _ => "str"
  | .tup _ => "tuple"
  | .lst _ => "list"
theorem RpB.ty {K : PySem.W.Frag} {H : Hp} {ow : Addr → Nat} {v : V} {d : D} (h : RpB K H ow v d) : TyX K H v (.type d.ty) := by
  cases d with
  | non =>
    cases rpb_non h
    exact .base .non
  | bl b =>
    cases rpb_bl h
    exact .base (.bl b)
  | int i =>
    cases rpb_int h
    exact .base (.int i)
  | str s =>
    obtain ⟨e, _⟩ := rpb_str h
    subst e
    exact .base (.str _)
  | lst xs =>
    obtain ⟨a, vs, e, hs, _⟩ := h
    subst e
    exact .base (.lst hs)
  | tup xs =>
    obtain ⟨a, vs, e, hs, _⟩ := rpb_tup h
    subst e
    rcases hs with (hs | ⟨o, hs⟩) | ⟨o, its, n, hk, hc, _⟩
    · exact .base (.tup hs)
    · exact .fTuple hs
    · exact .kTuple hk hc
/-- a class of a datum -/
def isTy (T : String) (d : D) : Bool := d.ty == T || (d.ty == "bool" && T == "int")
def tyOk (T : String) : Bool := T == "tuple" || T == "list" || T == "int" || T == "bool" || T == "str"
def tys : List String := ["NoneType", "bool", "int", "str", "tuple", "list"]
theorem ty_tab : (tys.all fun s => tys.all fun T => !tyOk T || (kitB s T == some (s == T || (s == "bool" && T == "int")))) = true := by decide +kernel
theorem ty_in (d : D) : d.ty ∈ tys := by cases d <;> simp [D.ty, tys]
theorem kit_isTy {K : PySem.W.Frag} {T : String} (h : tyOk T = true) (d : D) : PySem.W.kitOne K (.type d.ty) (.type T) = some (isTy T d) := by
  have hT : T ∈ tys := by
    simp only [tyOk, Bool.or_eq_true, beq_iff_eq] at h
    rcases h with (((h | h) | h) | h) | h <;> simp [h, tys]
  have q := List.all_eq_true.mp (List.all_eq_true.mp ty_tab _ (ty_in d)) T hT
  rw [h, Bool.not_true, Bool.false_or] at q
  exact kit_ty (eq_of_beq q)
def mIsi (T : String) (ta : M Op) : M D := ta.bind fun x => (rdO x).bind fun d => M.ret (.bl (isTy T d))
def mIsi2 (T U : String) (ta : M Op) : M D := ta.bind fun x => (rdO x).bind fun d => M.ret (.bl (isTy T d || isTy U d))
theorem je_isi (ok : CcOk C) {T : String} {nT : Str} {p pT : Pos} {ta : M Op} (h : JO C a ta) (hm : ∀ κ, (C.X κ).mg "isinstance" = none) (hmT : ∀ κ, (C.X κ).mg nT = none) (hT : bootBuiltins nT = some (.type T)) (okT : tyOk T = true := by decide +kernel) (hg : ∀ κ, Gl (C.X κ) "isinstance" := by intro _; rfl) (hgT : ∀ κ, Gl (C.X κ) nT := by intro _; rfl)
    (hn : nT ≠ "__name__" := by decide) (hd : (nT == ("__debug__" : Str)) = false := by decide) (hs1 : ∀ κ, starEach [a, .Name nT pT] (C.X κ).env = (false, eval a (C.X κ).env) :: starEach [.Name nT pT] (C.X κ).env := by intro _; rfl)
    (hs2 : ∀ κ, starEach [.Name nT pT] (C.X κ).env = (false, eval (.Name nT pT) (C.X κ).env) :: starEach [] (C.X κ).env := by intro _; rfl) (hpl : ∀ κ, (backTo pos (starEach [.Name nT pT] (C.X κ).env)).any (·.1) = false := by intro _; rfl) :
    JE C (.Call (.Name "isinstance" p) [a, .Name nT pT] [] pos) (mIsi T ta) := by
  obtain ⟨q, pa, k⟩ := h.ex
  refine ⟨tCB (rIsi C.K) (tCons q (tCons (tC (.ty T)) tNil)), fun κ => ?_, ?_⟩
  · rw [← ok.kk κ]
    exact pe_callB call_isi (hg κ) (hm κ) PyProof.Rows.boot_isinstance (pa_cons (pa κ) (pa_cons (pe_bltn (hgT κ) (hmT κ) hT rfl hn hd) pa_nil (hs2 κ)) (hs1 κ)) (by decide) (by decide) (hs1 κ) (hpl κ)
  · refine fun σ H ow ρ Q sr hE => k σ H ow ρ _ sr (hE.bind.imp fun o ρ1 H1 ow1 s1 sr1 q1 v rv => ?_)
    obtain ⟨d, bd, q2⟩ := q1.rd1 sr1 rv
    exact ⟨v, .ty T, .type d.ty, .type T, isTy T d, rfl, .ty T, bd.ty, kit_isTy okT d, q2 H1 ow1 .refl sr1 _ (.bl _)⟩
/-- isinstance(x, (T, U)) -/
theorem je_isi2 (ok : CcOk C) {T U : String} {nT nU : Str} {p pT pU tp : Pos} {kt} {ta : M Op} (h : JO C a ta) (hm : ∀ κ, (C.X κ).mg "isinstance" = none) (hmT : ∀ κ, (C.X κ).mg nT = none) (hmU : ∀ κ, (C.X κ).mg nU = none) (hT : bootBuiltins nT = some (.type T)) (hU : bootBuiltins nU = some (.type U))
    (okT : tyOk T = true := by decide +kernel) (okU : tyOk U = true := by decide +kernel) (hg : ∀ κ, Gl (C.X κ) "isinstance" := by intro _; rfl) (hgT : ∀ κ, Gl (C.X κ) nT := by intro _; rfl) (hgU : ∀ κ, Gl (C.X κ) nU := by intro _; rfl)
    (hn : nT ≠ "__name__" := by decide) (hd : (nT == ("__debug__" : Str)) = false := by decide) (hnU : nU ≠ "__name__" := by decide) (hdU : (nU == ("__debug__" : Str)) = false := by decide)
    (hs1 : ∀ κ, starEach [a, .Tuple [.Name nT pT, .Name nU pU] kt tp] (C.X κ).env = (false, eval a (C.X κ).env) :: starEach [.Tuple [.Name nT pT, .Name nU pU] kt tp] (C.X κ).env := by intro _; rfl)
    (hs2 : ∀ κ, starEach [.Tuple [.Name nT pT, .Name nU pU] kt tp] (C.X κ).env = (false, eval (.Tuple [.Name nT pT, .Name nU pU] kt tp) (C.X κ).env) :: starEach [] (C.X κ).env := by intro _; rfl)
    (hs3 : ∀ κ, starEach [.Name nT pT, .Name nU pU] (C.X κ).env = (false, eval (.Name nT pT) (C.X κ).env) :: starEach [.Name nU pU] (C.X κ).env := by intro _; rfl) (hs4 : ∀ κ, starEach [.Name nU pU] (C.X κ).env = (false, eval (.Name nU pU) (C.X κ).env) :: starEach [] (C.X κ).env := by intro _; rfl)
    (hpl : ∀ κ, (backTo pos (starEach [.Tuple [.Name nT pT, .Name nU pU] kt tp] (C.X κ).env)).any (·.1) = false := by intro _; rfl) :
    JE C (.Call (.Name "isinstance" p) [a, .Tuple [.Name nT pT, .Name nU pU] kt tp] [] pos) (mIsi2 T U ta) := by
  obtain ⟨q, pa, k⟩ := h.ex
  refine ⟨tCB (rIsiT C.K) (tCons q (tCons (tTup (tCons (tC (.ty T)) (tCons (tC (.ty U)) tNil))) tNil)), fun κ => ?_, ?_⟩
  · rw [← ok.kk κ]
    exact pe_callB call_isiT (hg κ) (hm κ) PyProof.Rows.boot_isinstance (pa_cons (pa κ) (pa_cons (pe_tup (pa_cons (pe_bltn (hgT κ) (hmT κ) hT rfl hn hd) (pa_cons (pe_bltn (hgU κ) (hmU κ) hU rfl hnU hdU) pa_nil (hs4 κ)) (hs3 κ))) pa_nil (hs2 κ)) (hs1 κ)) (by decide) (by decide) (hs1 κ) (hpl κ)
  · refine fun σ H ow ρ Q sr hE => k σ H ow ρ _ sr (hE.bind.imp fun o ρ1 H1 ow1 s1 sr1 q1 v rv => ?_)
    obtain ⟨d, bd, q2⟩ := q1.rd1 sr1 rv
    refine ⟨by show 2 ≤ sizeLine; decide, fun tp hp => ?_⟩
    have g : Grow H1 (upd H1 tp (.tup [.ty T, .ty U])) ow1 (own0 H1 ow1 0) := Grow.of (same_new hp)
    refine ⟨v, tp, [.ty T, .ty U], .type d.ty, [.type T, .type U], isTy T d || isTy U d, rfl, upd_same, .cons (.ty T) (.cons (.ty U) .nil), (bd.grow g).ty, ?_, q2 _ _ g.stp (sr1.grow g) _ (.bl _)⟩
    refine kitAny_cons (kit_isTy okT d) (fun e => ?_) fun e => by rw [e]; rfl
    refine kitAny_cons (kit_isTy okU d) (fun e2 => ?_) fun e2 => by rw [e2, Bool.or_true]
    rw [e, e2]
    rfl

/-! ### join -/
def asSs : List D → Option (List (List Nat))
  | [] => some []
  | .str s :: ds => (asSs ds).map (s :: ·)
  | _ => none
theorem rpl_strs {K : PySem.W.Frag} {H : Hp} {ow : Addr → Nat} : ∀ {ds : List D} {vs : List V} {ss : List (List Nat)}, RpL K H ow vs ds → asSs ds = some ss → vs = (ss.map fun s => (⟨s.toArray⟩ : Str)).map V.str ∧ ∀ s ∈ ss, sOk s
  | [], _, _, r, h => by
    cases r
    cases h
    exact ⟨rfl, fun _ z => nomatch z⟩
  | d :: ds, _, ss, r, h => by
    cases r with
    | cons r1 r2 =>
      cases r1 with
      | @str s o =>
        have h : (asSs ds).map (s :: ·) = some ss := h
        cases e : asSs ds with
        | none =>
          rw [e] at h
          cases h
        | some cs =>
          rw [e] at h
          cases h
          obtain ⟨q1, q2⟩ := rpl_strs r2 e
          refine ⟨by rw [q1]; rfl, fun t ht => ?_⟩
          rcases List.mem_cons.mp ht with z | z
          · rw [z]
            exact o
          · exact q2 t z
      | _ => cases h
def sumL (ss : List (List Nat)) : Nat := (ss.map (·.length)).sum
def dJoin : D → D → Option D
  | .str a, .lst xs => (asSs xs).bind fun ss => if sumL ss + ss.length * a.length ≤ sizeLine then some (.str (TL.joinL a ss)) else none
  | .str a, .tup xs => (asSs xs).bind fun ss => if sumL ss + ss.length * a.length ≤ sizeLine then some (.str (TL.joinL a ss)) else none
  | _, _ => none
theorem joinL_length (a : List Nat) : ∀ ss : List (List Nat), (TL.joinL a ss).length ≤ sumL ss + ss.length * a.length
  | [] => Nat.zero_le _
  | [x] => by
    show x.length ≤ _
    simp [sumL]
  | x :: y :: r => by
    have h := joinL_length a (y :: r)
    show (x ++ (a ++ TL.joinL a (y :: r))).length ≤ _
    simp only [List.length_append, sumL, List.map_cons, List.sum_cons, List.length_cons, Nat.add_mul, Nat.one_mul] at h ⊢
    omega
theorem joinL_mem {a : List Nat} {c : Nat} : ∀ {ss : List (List Nat)}, c ∈ TL.joinL a ss → c ∈ a ∨ ∃ s ∈ ss, c ∈ s
  | [], h => nomatch h
  | [x], h => .inr ⟨x, by simp, h⟩
  | x :: y :: r, h => by
    have h : c ∈ x ++ (a ++ TL.joinL a (y :: r)) := h
    rcases List.mem_append.mp h with h | h
    · exact .inr ⟨x, by simp, h⟩
    · rcases List.mem_append.mp h with h | h
      · exact .inl h
      · rcases joinL_mem h with h | ⟨s, hs, h⟩
        · exact .inl h
        · exact .inr ⟨s, List.mem_cons_of_mem _ hs, h⟩
theorem join_str (a : List Nat) (ss : List (List Nat)) : Txt.join (⟨a.toArray⟩ : Str) (ss.map fun s => (⟨s.toArray⟩ : Str)) = ⟨(TL.joinL a ss).toArray⟩ := by
  refine TL.ext_tl ?_
  rw [TL.join_eq, TL.tl_join]
  have e1 : TL.tl (⟨a.toArray⟩ : Str) = a := by simp [TL.tl]
  have e2 : (ss.map fun s => (⟨s.toArray⟩ : Str)).map TL.tl = ss := by
    rw [List.map_map]
    have : (TL.tl ∘ fun s : List Nat => (⟨s.toArray⟩ : Str)) = id := by
      funext s
      simp [TL.tl]
    rw [this, List.map_id]
  rw [e1, e2]
def asStr : D → M Unit
  | .str _ => M.ret ()
  | _ => M.fail
def mJoin (ta : M Op) (tb : M Op) : M D := ta.bind fun x => (rdO x).bind fun s => (asStr s).bind fun _ => tb.bind fun y => (rdO y).bind fun d => M.lift (dJoin s d)
def rJn (K : PySem.W.Frag) : V → List V → Hp → VK → Prop := fun x xs H Q => ∃ a p, ∃ ys : List Str, x = .str a ∧ xs = [.ref p] ∧ (SqL K H p (ys.map V.str) ∨ SqT K H p (ys.map V.str)) ∧ (ys.map (·.length)).sum + ys.length * a.length ≤ 16777216 ∧ Q (.str (Txt.join a ys)) H
theorem je_join (ok : CcOk C) {ta tb : M Op} (h : JO C a ta) (h' : JO C b tb) (hs : ∀ κ, starEach [b] (C.X κ).env = [(false, eval b (C.X κ).env)] := by intro _; rfl) (hbase : ∀ κ, attributeBase a "join" (C.X κ).env (eval a (C.X κ).env) = eval a (C.X κ).env := by intro _; rfl)
    (hline : (apos.endLine == cpos.line) = true := by rfl) : JE C (.Call (.Attribute a "join" apos) [b] [] cpos) (mJoin ta tb) := by
  obtain ⟨qa, pa, ka⟩ := h.ex
  obtain ⟨qb, pb, kb⟩ := h'.ex
  refine ⟨tM1 (rJn C.K) qa qb, fun κ => ?_, fun σ H ow ρ Q sr hE => ?_⟩
  · rw [← ok.kk κ]
    exact pe_join (pa κ) (pb κ) (hs κ) (hbase κ) hline
  · refine ka σ H ow ρ _ sr (hE.bind.imp fun x ρ1 H1 ow1 s1 sr1 q1 v rv => ?_)
    obtain ⟨s, bs, q2⟩ := q1.rd1 sr1 rv
    cases s with
    | str a =>
      obtain ⟨e1, o1⟩ := rpb_str bs
      subst e1
      refine ⟨⟨_, rfl⟩, kb σ H1 ow1 ρ1 _ sr1 ((show EndE C σ H1 ow1 (tb.bind _ ρ1) _ from q2).bind.imp fun y ρ2 H2 ow2 s2 sr2 q3 u ru => ?_)⟩
      obtain ⟨d, bd, q4⟩ := q3.rd1 sr2 ru
      obtain ⟨z, ez, q5⟩ := q4.lift
      have fin : ∀ (p : Addr) (vs : List V) (xs : List D), u = .ref p → (SqL C.K H2 p vs ∨ SqT C.K H2 p vs) → RpL C.K H2 ow2 vs xs → ((asSs xs).bind fun ss => if sumL ss + ss.length * a.length ≤ sizeLine then some (D.str (TL.joinL a ss)) else none) = some z → rJn C.K (.str ⟨a.toArray⟩) [u] H2 Q := by
        intro p vs xs eu hq r ez
        cases e : asSs xs with
        | none =>
          rw [e] at ez
          cases ez
        | some ss =>
          rw [e] at ez
          have ez : (if sumL ss + ss.length * a.length ≤ sizeLine then some (D.str (TL.joinL a ss)) else none) = some z := ez
          by_cases hl : sumL ss + ss.length * a.length ≤ sizeLine
          · rw [if_pos hl] at ez
            cases ez
            obtain ⟨q6, q7⟩ := rpl_strs r e
            subst q6 eu
            refine ⟨_, p, _, rfl, rfl, hq, ?_, ?_⟩
            · have e3 : ((ss.map fun s => (⟨s.toArray⟩ : Str)).map (·.length)).sum = sumL ss := by
                unfold sumL
                rw [List.map_map]
                exact congrArg List.sum (List.map_congr_left fun s _ => str_len s)
              rw [e3, str_len, List.length_map]
              rw [sizeLine_eq] at hl
              exact hl
            · rw [join_str]
              refine q5 H2 ow2 .refl sr2 _ (.str ⟨Nat.le_trans (joinL_length a ss) hl, fun c hc => ?_⟩)
              rcases joinL_mem hc with h | ⟨s, hs, h⟩
              · exact o1.2 c h
              · exact (q7 s hs).2 c h
          · rw [if_neg hl] at ez
            cases ez
      cases d with
      | lst xs =>
        obtain ⟨p, vs, eu, hq, r⟩ := bd
        exact fin p vs xs eu (.inl (SqL.of hq)) r ez
      | tup xs =>
        obtain ⟨p, vs, eu, hq, r⟩ := rpb_tup bd
        exact fin p vs xs eu (.inr hq) r ez
      | _ => cases ez
    | _ => exact q2.elim

/-! ### the script -/
def scrSl (i : Nat) (lo hi : Option Int) : M (List D) := fun ρ => match ρ[i]? with
  | some (.scr ns) => .ok (cutL (ns.map D.int) lo hi) ρ
  | _ => .stuck
theorem rpl_ints {K : PySem.W.Frag} {H : Hp} {ow : Addr → Nat} : ∀ ns : List Int, RpL K H ow (ns.map V.int) (ns.map D.int)
  | [] => .nil
  | n :: ns => .cons (.int n) (rpl_ints ns)
theorem jn_scr (ok : CcOk C) (i : Nat) {p2 : Pos} {n : Int} {j pos'} (hN : ∀ κ, (C.X κ).N[i]? = some y := by intro _; rfl) (hv : ∀ κ, Vis (C.X κ).env.scope y := by intro _; first | exact Or.inl rfl | exact Or.inr (Or.inl rfl) | exact Or.inr (Or.inr rfl))
    (hd : (y == ("__debug__" : Str)) = false := by decide) (hcd : (y == ("__classdict__" : Str)) = false := by decide) : JN C (.Subscript (.Name y py) (.Slice none (some (.Constant (.int n) j pos')) none p2) pos) (scrSl i none (some n)) := by
  refine ⟨tSl (rSlL C.K) (tVar i) tNoPart (tPart (tC (.int n))), fun κ => pe_slice (by rw [← ok.kk κ]; exact sl_list) (pe_var (hN κ) (hv κ) hd hcd) po_none (po_some pe_int), fun σ H ow ρ Q sr hE => ?_⟩
  unfold scrSl at hE
  cases e : ρ[i]? with
  | none =>
    simp only [e] at hE
    exact hE.elim
  | some s =>
    cases s with
    | scr ns =>
      simp only [e] at hE
      obtain ⟨a, ea, hs⟩ := sr.get i _ e
      have hq : SqL C.K H a (ns.map V.int) := by
        rcases hs with ⟨ob, hs⟩ | hs
        · exact .inl (.inr ⟨ob, hs⟩)
        · exact hs H
      refine ⟨.ref a, join_some ea, n, rfl, a, _, rfl, hq, fun p hp => ?_⟩
      obtain ⟨g, w, r⟩ := new_own (K := C.K) (ow := ow) hp ((rpl_ints ns).cut none (some n))
      exact hE _ _ g.stp (sr.grow g) p _ hp upd_same w r
    | _ =>
      simp only [e] at hE
      exact hE.elim
end
end Dy

namespace Dy
open PySem PySem.Spec PyProof.Rows L2

/-! ### calls by keywords alone, in the parameters' order -/
def KwBinds (K : PySem.W.Frag) (fd : FuncData) (ps : List Str) : Prop := ∀ (s : Shared) (us : List Value), K.In s.heap → us.length = ps.length → BindsTo s fd ⟨[], ps.zip us⟩ (ps.zip us)
theorem kw_binds {K : PySem.W.Frag} {x qual : Str} {st : Stmt} {f : Addr} {fd : FuncData} {ps : List Str} (F : Fun K x qual st f fd)
    (h : ∀ (kV doc pm : Value) (an : Option Addr) (cdv ct : Value) (us : List Value), us.length = ps.length → bindArgs (PySem.W.fnOf x qual (defArgs st) (defBody st) (defScope st) .none kV doc pm an cdv ct) ⟨[], ps.zip us⟩ = pure (ps.zip us)) : KwBinds K fd ps := by
  obtain ⟨oc, od, kV, doc, pm, an, cdv, ct, osl, rfl, lk, hcd⟩ := F.ex
  exact fun s us _ hl => .of_eq (h kV doc pm an cdv ct us hl)
theorem pe_callKw {X : Cx} {CX : CXT} {k : Nat} {f : Addr} {fd : FuncData} {ps : List Str} {sp : Sp} {E : L2.St → XK} {x : Str} {p pos : Pos} {kws : List Keyword} {t : TA} (Fn : FnOk X.prog X.w X.K X.mg X.base CX k f fd ps sp) (hr : Room k X.A) (hg : Gl X x) (hm : X.mg x = some (.ref f))
    (hk : PySem.W.keepIn X.K (.ref f) = true) (hb : KwBinds X.K fd ps) (hx : ∀ σ, PassesAt CX X σ (E σ)) (hkw : PK X kws t) (hall : (backToKw pos (keywordEach kws X.env)).all (·.1.isSome) = true) (hks : (backToKw pos (keywordEach kws X.env)).filterMap (·.1) = ps)
    (hpl : ((backTo pos (starEach [] X.env)).any (·.1) || (backToKw pos (keywordEach kws X.env)).any (·.1.isNone)) = false) (hdb : (x == ("__debug__" : Str)) = false := by decide) : PE X (.Call (.Name x p) [] kws pos) (tCallS sp E t) := by
  refine ⟨fun pn s0 sl H0 Q I0 hw => ?_⟩
  refine wpAny_Call_Name_kw (ld_glob I0 hg hm ?_ hdb)
  refine PySem.W.callWith_KW0 (h₀ := X.base) I0.ok.mod.kin hk hall (thn (hkw.run pos pn s0 sl H0 _ I0 hw) fun ws s1 hq => ?_) hpl
  obtain ⟨vs, H1, I1, rv, q⟩ := hq
  refine ⟨I1.kIn, ?_⟩
  rw [hks]
  have hl : ws.length = ps.length := by
    rw [← rv.length]
    exact Fn.len _ _ _ _ q
  refine wpAny_call (codeAny_mono (Fn.run X.A X.stack s1 H1 ⟨[], ps.zip ws⟩ ws vs Q (E sl) hr I1.env0 (hb s1 ws I1.kIn hl) rv q) fun r s2 hz => ?_)
  cases r with
  | error er => exact hx sl pn H1 s1 er s2 I1 hz
  | ok fl =>
    cases fl with
    | ret u => exact I1.after hz
    | next => exact hz.elim
    | brk => exact hz.elim
    | cont => exact hz.elim
structure JK (C : Cc) (kws : List Keyword) (t : M (List Op)) : Prop where
  ex : ∃ te, (∀ κ, PK (C.X κ) kws te) ∧ ∀ σ H ow ρ (Q : List V → Hp → Prop), SR C.K H ow σ ρ → EndE C σ H ow (t ρ) (fun os _ H' ow' => ∀ vs, ROs C.K H' ow' σ vs os → Q vs H') → te σ H Q
section
variable {C : Cc} {a b e : Expr} {kws : List Keyword} {pos p kp : Pos} {x : Str} {nm : Option Str} {k : Nat} {f : Addr} {fd : FuncData} {ps : List Str} {F : Fd} {ta : M Op} {t : M (List Op)}
theorem jk_nil : JK C [] (M.ret []) := ⟨_, fun _ => pk_nil, fun σ H ow ρ Q sr hE => hE H ow .refl sr [] .nil⟩
theorem jk_cons (ha : JO C a ta) (hr : JK C kws t) : JK C (⟨nm, a, kp⟩ :: kws) (mCons ta t) := by
  obtain ⟨q, p, k⟩ := ha.ex
  obtain ⟨q', p', k'⟩ := hr.ex
  refine ⟨_, fun κ => pk_cons (p κ) (p' κ), fun σ H ow ρ Q sr hE => k σ H ow ρ _ sr (hE.bind.imp fun x ρ1 H1 ow1 s1 sr1 q1 v rv => ?_)⟩
  refine k' σ H1 ow1 ρ1 _ sr1 (q1.bind.imp fun xs ρ2 H2 ow2 s2 sr2 q2 vs rvs => ?_)
  exact q2 H2 ow2 .refl sr2 _ (.cons (rv.stp s2) rvs)
theorem je_callKw (hx : PassC C) (Fn : ∀ κ, FnOk (C.X κ).prog (C.X κ).w (C.X κ).K (C.X κ).mg (C.X κ).base (L2.CX (C.X κ).prog (C.X κ).w) k f fd ps (spD C.K C.xc [] ps.length F)) (hr : ∀ κ, Room k (C.X κ).A) (hm : ∀ κ, (C.X κ).mg x = some (.ref f))
    (hk : ∀ κ, PySem.W.keepIn (C.X κ).K (.ref f) = true) (hb : ∀ κ, KwBinds (C.X κ).K fd ps) (ha : JK C kws t) (hn : ∀ os ρ ρ', t ρ = .ok os ρ' → os.length = ps.length) (hg : ∀ κ, Gl (C.X κ) x := by intro _; rfl) (hdb : (x == ("__debug__" : Str)) = false := by decide)
    (hall : ∀ κ, (backToKw pos (keywordEach kws (C.X κ).env)).all (·.1.isSome) = true := by intro _; rfl) (hks : ∀ κ, (backToKw pos (keywordEach kws (C.X κ).env)).filterMap (·.1) = ps := by intro _; rfl)
    (hpl : ∀ κ, ((backTo pos (starEach [] (C.X κ).env)).any (·.1) || (backToKw pos (keywordEach kws (C.X κ).env)).any (·.1.isNone)) = false := by intro _; rfl) : JE C (.Call (.Name x p) [] kws pos) (mCallA F t) := by
  obtain ⟨te, pt, kt⟩ := ha.ex
  exact ⟨_, fun κ => pe_callKw (Fn κ) (hr κ) (hg κ) (hm κ) (hk κ) (hb κ) (hx κ) (pt κ) (hall κ) (hks κ) (hpl κ) hdb, call_ends kt hn⟩

/-! ### names for the generator -/
def mSh (t : M D) : M Op := t.bind fun d => M.ret (.sh d)
def mShN (t : M (List D)) : M Op := t.bind fun xs => M.ret (.sh (.lst xs))
def mEN (t : M (List D)) : M D := t.bind fun xs => M.ret (.lst xs)
def mNm (i : Nat) : M Op := (rdSl i).bind fun _ => M.ret (.nm i)
theorem jo_e {t : M D} (h : JE C e t) : JO C e (mSh t) := h.toO
theorem jo_n {t : M (List D)} (h : JN C e t) : JO C e (mShN t) := h.toO
theorem je_n {t : M (List D)} (h : JN C e t) : JE C e (mEN t) := h.toE
theorem jt_e (ok : CcOk C) {t : M D} (h : JE C e t) (he : ∀ κ, ∀ whole, isTrue e (C.X κ).env whole = (do let v ← whole; standAt e.pos; holding [v] (truthy v)) := by intro _; intro _; rfl) : JT C e (mTru (mSh t)) := jt_truth ok.kk h.toO he

/-- the draw of a source: laid as a slot of its own -/
def mDeal (i : Nat) (F : Fd) (j : Nat) (n : Int) : M Out := fun ρ => match ρ[j]? with
  | some (.scr ns) => (match F [.scr ns, .val (.int n)] with
    | .ok (.lst [.lst cs, .int b]) _ => (match asIs cs with
      | some zs => .ok .nx (ρ.set i (.deal zs b))
      | none => .stuck)
    | _ => .stuck)
  | _ => .stuck
where
  asIs : List D → Option (List Int)
    | [] => some []
    | .int i :: ds => (asIs ds).map (i :: ·)
    | _ => none
theorem rpl_asIs {K : PySem.W.Frag} {H : Hp} {ow : Addr → Nat} : ∀ {ds : List D} {vs : List V} {zs : List Int}, RpL K H ow vs ds → mDeal.asIs ds = some zs → vs = zs.map V.int
  | [], _, _, r, h => by
    cases r
    cases h
    rfl
  | d :: ds, _, zs, r, h => by
    cases r with
    | cons r1 r2 =>
      cases r1 with
      | int i =>
        have h : (mDeal.asIs ds).map (i :: ·) = some zs := h
        cases e : mDeal.asIs ds with
        | none =>
          rw [e] at h
          cases h
        | some cs =>
          rw [e] at h
          cases h
          rw [rpl_asIs r2 e]
          rfl
      | _ => cases h
/-- deal = draw(script, n) -/
theorem js_deal (ok : CcOk C) (hx : PassC C) (i j : Nat) {y z : Str} {n : Int} {py pz pn spos : Pos} {kn} (Fn : ∀ κ, FnOk (C.X κ).prog (C.X κ).w (C.X κ).K (C.X κ).mg (C.X κ).base (L2.CX (C.X κ).prog (C.X κ).w) k f fd ps (spD C.K C.xc [] 2 F)) (hr : ∀ κ, Room k (C.X κ).A) (hm : ∀ κ, (C.X κ).mg x = some (.ref f))
    (hk : ∀ κ, PySem.W.keepIn (C.X κ).K (.ref f) = true) (hb : ∀ κ, Binds (C.X κ).K fd ps []) (ha : i ∉ C.an := by first | (show _ ∉ ([] : List Nat); decide) | (show _ ∉ ([0] : List Nat); decide)) (hy : ∀ κ, (C.X κ).N[j]? = some y := by intro _; rfl) (hv : ∀ κ, Vis (C.X κ).env.scope y := by intro _; first | exact Or.inl rfl | exact Or.inr (Or.inl rfl) | exact Or.inr (Or.inr rfl))
    (hd : (y == ("__debug__" : Str)) = false := by decide) (hcd : (y == ("__classdict__" : Str)) = false := by decide) (hg : ∀ κ, Gl (C.X κ) x := by intro _; rfl) (hdb : (x == ("__debug__" : Str)) = false := by decide)
    (he : ∀ κ, starEach [.Name y py, .Constant (.int n) kn pn] (C.X κ).env = (false, eval (.Name y py) (C.X κ).env) :: starEach [.Constant (.int n) kn pn] (C.X κ).env := by intro _; rfl) (he2 : ∀ κ, starEach [.Constant (.int n) kn pn] (C.X κ).env = (false, eval (.Constant (.int n) kn pn) (C.X κ).env) :: starEach [] (C.X κ).env := by intro _; rfl)
    (hpl : ∀ κ, (backTo pos (starEach [.Constant (.int n) kn pn] (C.X κ).env)).any (·.1) = false := by intro _; rfl) (hi : ∀ κ, (C.X κ).N[i]? = some z := by intro _; rfl) (hz : ∀ κ, Loc (C.X κ).env.scope z := by intro _; first | exact .inl rfl | exact .inr rfl)
    (hs : ∀ κ, swapsWith (.Call (.Name x p) [.Name y py, .Constant (.int n) kn pn] [] pos) (some (.Name z pz)) spos.line (C.X κ).env = pure false := by intro _; rfl) (hf : ∀ κ, (C.X κ).fn z = true ∨ (C.X κ).env.scope.names.lookup z = some .local := by intro _; first | exact .inl rfl | exact .inr rfl | assumption) :
    JS C (.Assign [.Name z pz] (.Call (.Name x p) [.Name y py, .Constant (.int n) kn pn] [] pos) spos) (mDeal i F j n) := by
  refine ⟨_, fun κ => ps_set (ok.nd κ) (hi κ) (hz κ) (pe_callS (Fn κ) (hr κ) (hg κ) (hm κ) (hk κ) (hb κ) (hx κ) (pa_cons (pe_var (hy κ) (hv κ) hd hcd) (pa_cons pe_int pa_nil (he2 κ)) (he κ)) hdb (he κ) (hpl κ)) (hs κ) (hf κ), fun σ H ow ρ E sr hE => ?_⟩
  unfold mDeal at hE
  cases e0 : ρ[j]? with
  | none =>
    simp only [e0] at hE
    exact hE.elim
  | some s =>
    cases s with
    | scr ns =>
      simp only [e0] at hE
      obtain ⟨a, ea, hsc⟩ := sr.get j _ e0
      refine ⟨.ref a, join_some ea, ?_⟩
      -- the callee sees all that stands as another's: what it gives is new
      refine ⟨fun _ => 1, [.scr ns, .val (.int n)], rfl, ⟨rfl, fun m t e => ?_⟩, ?_⟩
      · match m, e with
        | 0, e =>
          cases e
          exact ⟨a, rfl, hsc⟩
        | 1, e =>
          cases e
          exact ⟨_, rfl, .int n⟩
      · cases eF : F [.scr ns, .val (.int n)] with
        | exc c d ρ1 =>
          simp only [eF] at hE
          exact hE.elim
        | stuck =>
          simp only [eF] at hE
          exact hE.elim
        | ok d ρ1 =>
          simp only [eF] at hE
          intro v H' ow' st _ rv
          show E.nx (σ.set i (some v)) H'
          split at hE
          · rename_i cs b ρ2 heq
            cases heq
            cases ez : mDeal.asIs cs with
            | none =>
              simp only [ez] at hE
              exact hE.elim
            | some zs =>
              simp only [ez] at hE
              have new : ∀ q o, H' q = some o → ow' q = 0 → H q = none := fun q o _ h0 => by
                cases h : H q with
                | none => rfl
                | some u =>
                  have := (st.keep q u h (Nat.le_refl _)).2
                  rw [h0] at this
                  cases this
              cases rv with
              | @lst p us ds h0 hp hl =>
                cases hl with
                | cons r1 r2 =>
                  cases r2 with
                  | cons r2 r3 =>
                    cases r3
                    cases r2
                    cases r1 with
                    | @lst q ws es h1 hq hw =>
                      have ew := rpl_asIs hw ez
                      subst ew
                      have np : H p = none := new p _ hp h0
                      have nq : H q = none := new q _ hq h1
                      have hpq : p ≠ q := fun e => by
                        subst e
                        rw [hp] at hq
                        cases zs with
                        | nil => cases hq
                        | cons z0 zs => cases hq
                      have same : Same H H' := fun a u h => (st.keep a u h (Nat.le_refl _)).1
                      -- the owners behind the call
                      have g : Grow H H' ow (own0 H ow (i + 2)) := Grow.of same
                      have srG := sr.grow g
                      refine hE _ H' (own0 H ow (i + 2)) g.stp (AnEq.set ha) ⟨by simp [srG.len], fun m t e => ?_⟩
                      by_cases hm : i = m
                      · subst hm
                        by_cases hlt : i < ρ.length
                        · rw [List.getElem?_set_self hlt] at e
                          cases e
                          rw [List.getElem?_set_self (by rw [sr.len]; exact hlt)]
                          exact ⟨p, q, rfl, hp, hq, hpq, own0_none np, own0_none nq⟩
                        · rw [List.getElem?_eq_none (by simpa using hlt)] at e
                          cases e
                      · rw [List.getElem?_set_ne hm] at e ⊢
                        exact srG.get m t e
          · exact hE.elim
    | _ =>
      simp only [e0] at hE
      exact hE.elim
end
end Dy

namespace Dy
open PySem PySem.Spec PyProof.Rows L2

/-! ### name op= e, for numbers and texts -/
def dAugAdd : D → D → Option D
  | .int a, .int b => some (.int (a + b))
  | .str a, .str b => if a.length + b.length ≤ sizeLine then some (.str (a ++ b)) else none
  | _, _ => none
def mAug (i : Nat) (g : D → D → Option D) (t : M Op) : M Out := fun ρ => match ρ[i]? with
  | some (.val d) => (t.bind fun y => (rdO y).bind fun e => (M.lift (g d e)).bind fun z ρ => .ok .nx (ρ.set i (.val z))) ρ
  | _ => .stuck
def rAugAdd : R2 := fun x y H Q => (rI0 fun i j => .int (i + j)) x y H Q ∨ rAddS x y H Q
theorem iop_addAll {X : Cx} : OpR X (inplaceOp .Add) rAugAdd := iop_add.or iop_add_str
def Ip2 (r : R2) (g : D → D → Option D) : Prop := ∀ (K : PySem.W.Frag) (H0 H : Hp) (ow0 ow : Addr → Nat) (x y : V) (d e z : D) (Q : VK), Rp K H0 ow0 x d → RpB K H ow y e → g d e = some z → (∀ v, Rp K H ow v z → Q v H) → r x y H Q
theorem d_augAdd : Ip2 rAugAdd dAugAdd := by
  intro K H0 H ow0 ow x y d e z Q hx hy hg k
  unfold dAugAdd at hg
  split at hg
  · cases hg
    cases hx
    cases rpb_int hy
    exact .inl ⟨_, _, rfl, rfl, k _ (.int _)⟩
  · split at hg
    · rename_i hl
      cases hg
      obtain ⟨e2, o2⟩ := rpb_str hy
      subst e2
      cases hx with
      | str o1 =>
        refine .inr ⟨_, _, rfl, rfl, by rw [str_len, str_len]; exact hl, ?_⟩
        rw [str_append]
        exact k _ (.str (o1.append o2 hl))
    · cases hg
  · cases hg
theorem d_augSub : Ip2 (rI0 fun i j => .int (i - j)) dSub := by
  intro K H0 H ow0 ow x y d e z Q hx hy hg k
  unfold dSub at hg
  split at hg
  · cases hg
    cases hx
    cases rpb_int hy
    exact ⟨_, _, rfl, rfl, k _ (.int _)⟩
  · cases hg
section
variable {C : Cc} {a b e : Expr} {pos pos' : Pos} {x : Str} {t : M Op} {op : Operator} {r : R2} {g : D → D → Option D}
theorem js_aug (ok : CcOk C) (i : Nat) (ho : ∀ κ, OpR (C.X κ) (inplaceOp op) r) (hg : Ip2 r g) (h : JO C e t) (ha : i ∉ C.an) (hi : ∀ κ, (C.X κ).N[i]? = some x) (hx : ∀ κ, Loc (C.X κ).env.scope x)
    (hf : ∀ κ, (C.X κ).fn x = true ∨ (C.X κ).env.scope.names.lookup x = some .local) : JS C (.AugAssign (.Name x pos') op e pos) (mAug i g t) := by
  obtain ⟨q, p, k⟩ := h.ex
  refine ⟨_, fun κ => ps_aug (ok.nd κ) (hi κ) (hx κ) (p κ) (ho κ) (hf κ), fun σ H ow ρ E sr hE => ?_⟩
  unfold mAug at hE
  split at hE
  · rename_i d ed
    obtain ⟨v, ev, rv⟩ := sr.get i _ ed
    refine ⟨v, join_some ev, k σ H ow ρ _ sr ((End.bindE hE).imp fun y ρ1 H1 ow1 s1 sr1 q1 u ru => ?_)⟩
    unfold M.bind at q1
    rcases rdO_cases y ρ1 with ⟨e', e1⟩ | e1
    · rw [e1] at q1
      dsimp only at q1
      unfold M.lift at q1
      have be : RpB C.K H1 ow1 u e' := by
        have := EndE.rd1 (C := C) (f := fun d => M.ret d) (G := fun d _ _ _ => d = e') sr1 ru (by
          unfold M.bind
          rw [e1]
          exact fun H' ow' _ _ => rfl)
        obtain ⟨d', bd, hd⟩ := this
        have : d' = e' := hd H1 ow1 .refl sr1
        exact this ▸ bd
      cases ez : g d e' with
      | none =>
        rw [ez] at q1
        exact q1.elim
      | some z =>
        rw [ez] at q1
        dsimp only [M.ret] at q1
        refine hg C.K H H1 ow ow1 v u d e' z _ rv be ez fun w rw' => ?_
        exact q1 (σ.set i (some w)) H1 ow1 .refl (AnEq.set ha) (sr1.setVal rw')
    · rw [e1] at q1
      exact q1.elim
  · exact hE.elim
theorem js_augAdd (ok : CcOk C) (i : Nat) (h : JO C e t) (ha : i ∉ C.an := by first | (show _ ∉ ([] : List Nat); decide) | (show _ ∉ ([0] : List Nat); decide)) (hi : ∀ κ, (C.X κ).N[i]? = some x := by intro _; rfl) (hx : ∀ κ, Loc (C.X κ).env.scope x := by intro _; first | exact .inl rfl | exact .inr rfl)
    (hf : ∀ κ, (C.X κ).fn x = true ∨ (C.X κ).env.scope.names.lookup x = some .local := by intro _; first | exact .inl rfl | exact .inr rfl | assumption) : JS C (.AugAssign (.Name x pos') .Add e pos) (mAug i dAugAdd t) := js_aug ok i (fun _ => iop_addAll) d_augAdd h ha hi hx hf
theorem js_augSub (ok : CcOk C) (i : Nat) (h : JO C e t) (ha : i ∉ C.an := by first | (show _ ∉ ([] : List Nat); decide) | (show _ ∉ ([0] : List Nat); decide)) (hi : ∀ κ, (C.X κ).N[i]? = some x := by intro _; rfl) (hx : ∀ κ, Loc (C.X κ).env.scope x := by intro _; first | exact .inl rfl | exact .inr rfl)
    (hf : ∀ κ, (C.X κ).fn x = true ∨ (C.X κ).env.scope.names.lookup x = some .local := by intro _; first | exact .inl rfl | exact .inr rfl | assumption) : JS C (.AugAssign (.Name x pos') .Sub e pos) (mAug i dSub t) := js_aug ok i (fun _ => iop_sub) d_augSub h ha hi hx hf

/-! ### xs[::-1] -/
def mRev (t : M D) : M (List D) := t.bind fun d => match d with
  | .lst xs => M.ret xs.reverse
  | _ => M.fail
theorem RpL.rev {K : PySem.W.Frag} {H : Hp} {ow : Addr → Nat} {vs : List V} {ds : List D} (h : RpL K H ow vs ds) : RpL K H ow vs.reverse ds.reverse := by
  induction ds generalizing vs with
  | nil =>
    cases h
    exact .nil
  | cons d ds ih =>
    cases h with
    | cons h1 h2 =>
      rw [List.reverse_cons, List.reverse_cons]
      exact (ih h2).append (.cons h1 .nil)
theorem jn_rev (kk : ∀ κ, (C.X κ).K = C.K) {u : M D} {k : Nat} {p1 p2 p3 : Pos} (h : JE C e u) : JN C (.Subscript e (.Slice none none (some (.UnaryOp .USub (.Constant (.int 1) k p1) p2)) p3) pos) (mRev u) := by
  obtain ⟨q, p, kq⟩ := h.ex
  refine ⟨tRevL C.K q, fun κ => by rw [← kk κ]; exact pe_revL (p κ), fun σ H ow ρ Q sr hE => kq σ H ow ρ _ sr (hE.bind.imp fun d ρ1 H1 ow1 s1 sr1 q1 v rv => ?_)⟩
  cases d with
  | lst xs =>
    cases rv with
    | @lst a us _ h0 hs r =>
      refine ⟨a, us, rfl, SqL.of hs, fun p hp => ?_⟩
      obtain ⟨g, w, r'⟩ := new_own hp r.rev
      exact q1 _ _ g.stp (sr1.grow g) p _ (s1.free hp) upd_same w r'
  | _ => exact q1.elim
end
theorem fn_stuck {P : Program} {w : World} {K : PySem.W.Frag} {mg : Str → Option Value} {base : Heap} {CX : CXT} {k : Nat} {f : Addr} {fd : FuncData} {ps : List Str} {xc : Nat → Value → Prop} {an : List Nat} {n : Nat} : FnOk P w K mg base CX k f fd ps (spD K xc an n fun _ => .stuck) :=
  ⟨fun _ _ _ _ ⟨_, _, _, _, h⟩ => h.elim, fun _ _ _ _ _ _ _ _ _ _ _ _ _ ⟨_, _, _, _, h⟩ => h.elim⟩
end Dy

namespace Dy
open PySem PySem.Spec PyProof.Rows L2

/-! ### constants of the top, as data -/
mutual
def datOk (K : PySem.W.Frag) : D → Value → Bool
  | .non, .none => true
  | .bl b, .bool c => b == c
  | .int i, .int j _ => decide (i = j)
  | .str s, .str y _ => decide ((⟨s.toArray⟩ : Str) = y) && (decide (s.length ≤ sizeLine) && s.all fun c => Nat.blt c 0x110000)
  | .tup ds, .ref a => (match K.lookup a with
    | some ⟨.type c, _, .seq its _, _⟩ => decide (c = "tuple") && (decide (its.size ≤ sizeLine) && datsOk K ds its.toList)
    | _ => false)
  | _, _ => false
def datsOk (K : PySem.W.Frag) : List D → List Value → Bool
  | [], [] => true
  | d :: ds, u :: us => datOk K d u && datsOk K ds us
  | _, _ => false
end
mutual
theorem datOk_ok {K : PySem.W.Frag} : ∀ {d : D} {u : Value}, datOk K d u = true → ∃ v, RelV v u ∧ ∀ H ow, Rp K H ow v d
  | .non, u, h => by
    cases u with
    | none => exact ⟨.non, rfl, fun _ _ => .non⟩
    | _ => cases h
  | .bl b, u, h => by
    cases u with
    | bool c =>
      have e : b = c := eq_of_beq (show (b == c) = true from h)
      subst e
      exact ⟨.bl b, rfl, fun _ _ => .bl b⟩
    | _ => cases h
  | .int i, u, h => by
    cases u with
    | int j t =>
      have e : i = j := of_decide_eq_true h
      subst e
      exact ⟨.int i, ⟨t, rfl⟩, fun _ _ => .int i⟩
    | _ => cases h
  | .str s, u, h => by
    cases u with
    | str y t =>
      obtain ⟨h1, h⟩ := He.ba (show (decide ((⟨s.toArray⟩ : Str) = y) && (decide (s.length ≤ sizeLine) && s.all fun c => Nat.blt c 0x110000)) = true from h)
      obtain ⟨h2, h3⟩ := He.ba h
      have e := of_decide_eq_true h1
      subst e
      exact ⟨.str ⟨s.toArray⟩, ⟨t, rfl⟩, fun _ _ => .str ⟨of_decide_eq_true h2, fun c hc => Nat.le_of_ble_eq_true (List.all_eq_true.mp h3 c hc)⟩⟩
    | _ => cases h
  | .lst ds, u, h => by cases u <;> cases h
  | .tup ds, u, h => by
    cases u with
    | ref a =>
      unfold datOk at h
      cases q : K.lookup a with
      | none =>
        rw [q] at h
        cases h
      | some o =>
        obtain ⟨oc, od, dt, osl⟩ := o
        rw [q] at h
        cases oc with
        | type c =>
          cases dt with
          | seq its n =>
            obtain ⟨h1, h2⟩ := He.ba (show (decide (c = "tuple") && (decide (its.size ≤ sizeLine) && datsOk K ds its.toList)) = true from h)
            obtain ⟨h3, h4⟩ := He.ba h2
            obtain ⟨vs, r, hv⟩ := datsOk_ok h4
            exact ⟨.ref a, rfl, fun H ow => .tup (.inr ⟨_, its, n, q, congrArg Value.type (of_decide_eq_true h1), rfl, of_decide_eq_true h3, r⟩) (hv H ow)⟩
          | _ => cases h
        | _ => cases dt <;> cases h
    | _ => cases h
theorem datsOk_ok {K : PySem.W.Frag} : ∀ {ds : List D} {us : List Value}, datsOk K ds us = true → ∃ vs, Vals vs us ∧ ∀ H ow, RpL K H ow vs ds
  | [], [], _ => ⟨[], .nil, fun _ _ => .nil⟩
  | [], _ :: _, h => by cases h
  | _ :: _, [], h => by cases h
  | d :: ds, u :: us, h => by
    obtain ⟨h1, h2⟩ := He.ba (show (datOk K d u && datsOk K ds us) = true from h)
    obtain ⟨v, r, hv⟩ := datOk_ok h1
    obtain ⟨vs, rs, hvs⟩ := datsOk_ok h2
    exact ⟨v :: vs, .cons r rs, fun H ow => .cons (hv H ow) (hvs H ow)⟩
end
/-- the module's name x stands for d -/
def CstD (K : PySem.W.Frag) (mg : Str → Option Value) (x : Str) (d : D) : Prop := ∃ u v, mg x = some u ∧ RelV v u ∧ ∀ H ow, Rp K H ow v d
def cstOk (K : PySem.W.Frag) (x : Str) (d : D) : Bool := match PySem.W.nsIn K mainGlobals x with
  | some (some u) => datOk K d u
  | _ => false
theorem cstOk_ok {K : PySem.W.Frag} {h : Heap} {mg : Str → Option Value} {x : Str} {d : D} (X : K.In h) (G : h.Ns mainGlobals mg) (c : cstOk K x d = true) : CstD K mg x d := by
  unfold cstOk at c
  cases e : PySem.W.nsIn K mainGlobals x with
  | none =>
    rw [e] at c
    cases c
  | some o =>
    rw [e] at c
    cases o with
    | none => cases c
    | some u =>
      obtain ⟨v, r, hv⟩ := datOk_ok c
      exact ⟨u, v, PySem.W.mg_of X G e, r, hv⟩
section
variable {C : Cc} {pos : Pos}
theorem je_cst {x : Str} {d : D} {K : PySem.W.Frag} {mg : Str → Option Value} (c : CstD K mg x d) (hK : C.K = K := by rfl) (hm : ∀ κ, (C.X κ).mg = mg := by intro _; rfl) (hg : ∀ κ, Gl (C.X κ) x := by intro _; rfl) (hd : (x == ("__debug__" : Str)) = false := by decide) : JE C (.Name x pos) (M.ret d) := by
  obtain ⟨u, v, e, r, hv⟩ := c
  exact je_glob (fun κ => by rw [hm κ]; exact e) r (fun H ow => by rw [hK]; exact hv H ow) hg hd
end

/-! ### the head's facts: defs, names, constants -/
abbrev AlX : Type := He.AlD × Bool
def obsX (fa : List He.Fa) (fn : List He.DefD) (cs : List (Str × D)) (K : PySem.W.Frag) : AlX := (He.obsD fa fn K, cs.all fun q => cstOk K q.1 q.2)
def SaysX (fa : List He.Fa) (fn : List He.DefD) (cs : List (Str × D)) (K : PySem.W.Frag) : Prop := obsX fa fn cs K = (He.valD fn, true)
def obsXG (n : Nat) (fa : List He.Fa) (fn : List He.DefD) (cs : List (Str × D)) (g : Addr → Option Obj) : AlX := obsX fa fn cs (He.frG g (He.asD g n))
def hookX (n : Nat) (fa : List He.Fa) (fn : List He.DefD) (cs : List (Str × D)) : PySem.W.Hook where
  α := AlX
  obs := fun s => obsXG n fa fn cs s.heap.get?
  val := fun _ => (He.valD fn, true)
  says := fun _ h => ∃ K : PySem.W.Frag, K.In h ∧ SaysX fa fn cs K
  of := fun _ _ e => ⟨_, He.frG_in, e⟩
  keeps := fun _ _ _ ⟨K, hK, c⟩ k => ⟨K, PySem.W.Frag.In.keeps hK k, c⟩
theorem obsXG_eq {n : Nat} {fa : List He.Fa} {fn : List He.DefD} {cs : List (Str × D)} {g : Addr → Option Obj} {s : Shared} (h : ∀ a, g a = s.heap.get? a) : obsXG n fa fn cs g = (hookX n fa fn cs).obs s := by
  have e : g = s.heap.get? := funext h
  rw [e] <;> rfl
section
variable {fa : List He.Fa} {fn : List He.DefD} {cs : List (Str × D)} {K : PySem.W.Frag}
theorem SaysX.d (c : SaysX fa fn cs K) : He.SaysD fa fn K := congrArg (fun z : AlX => z.1) c
theorem SaysX.cst (c : SaysX fa fn cs K) (i : Nat) {x : Str} {d : D} (h : cs[i]? = some (x, d) := by rfl) : cstOk K x d = true := by
  have c2 : (cs.all fun q => cstOk K q.1 q.2) = true := congrArg (fun z : AlX => z.2) c
  exact List.all_eq_true.mp c2 (x, d) (List.mem_of_getElem? h)
end
/-! ### defs by names -/
def fdOf (K : PySem.W.Frag) (f : Addr) : FuncData := match K.lookup f with
  | some ⟨_, _, .func fd, _⟩ => fd
  | _ => PySem.W.fnOf "" "" ⟨[], [], none, [], [], none, []⟩ [] ⟨.function, [], false, false, []⟩ .none .none .none .none none .none .none
theorem fun_of {K : PySem.W.Frag} {x qual : Str} {st : Stmt} {f : Addr} {fd : FuncData} (F : FunD K x qual (defArgs st) (defBody st) (defScope st) [] [] f fd) : L2.Fun K x qual st f (fdOf K f) := by
  obtain ⟨oc, od, dV, kV, doc, pm, an, cdv, ct, osl, e, lk, hcd, hD, hK⟩ := F.ex
  rcases hD with ⟨_, rfl⟩ | ⟨z, _⟩
  · have e2 : fdOf K f = fd := by
      unfold fdOf
      rw [lk]
    rw [e2]
    exact ⟨⟨oc, od, kV, doc, pm, an, cdv, ct, osl, e, lk, hcd⟩, F.kp⟩
  · exact absurd rfl z
def dfd (x : Str) (st : Stmt) : He.DefD := ⟨(x, none), x, x, defArgs st, defBody st, defScope st, [], []⟩
theorem SaysX.fn {fa : List He.Fa} {fn : List He.DefD} {cs : List (Str × D)} {K : PySem.W.Frag} (c : SaysX fa fn cs K) (i : Nat) {x : Str} {st : Stmt} (h : fn[i]? = some (dfd x st) := by rfl) : L2.Fun K x x st (He.ga K x) (fdOf K (He.ga K x)) := by
  obtain ⟨fd, F⟩ := c.d.def_ i h
  exact fun_of F
end Dy

namespace Dy
open PySem PySem.Spec PyProof.Rows L2

/-! ### the draws' cells: deal[0], deal[1] -/
section
variable {K : PySem.W.Frag} {an : List Nat} {H : Hp} {ow : Addr → Nat} {σ : L2.St} {ρ : Ev} {i j : Nat} {p a0 : Addr} {vs us : List V}
theorem slot_other {u : Option V} {t : Sl} (hp : H a0 = some (.lst vs)) (w : ow a0 = i + 2) (hj : i ≠ j) (o : SlIs K H ow j u t) : SlIs K (upd H a0 (.lst us)) ow j u t := by
  have st : Stp [] H (upd H a0 (.lst us)) ow ow := own_stp hp w
  have ne : ∀ a, ow a = j + 2 → a ≠ a0 := fun a h z => by rw [z, w] at h; omega
  cases t with
  | un => trivial
  | val d =>
    obtain ⟨u, eu, ru⟩ := o
    exact ⟨u, eu, ru.stp st⟩
  | own zs =>
    obtain ⟨p', us', eu, hp', w', r'⟩ := o
    exact ⟨p', us', eu, by rw [upd_ne (ne p' w')]; exact hp', w', r'.stp st⟩
  | deal cs b =>
    obtain ⟨p', q', eu, hp', hq', n, w1, w2⟩ := o
    exact ⟨p', q', eu, by rw [upd_ne (ne p' w1)]; exact hp', by rw [upd_ne (ne q' w2)]; exact hq', n, w1, w2⟩
  | scr ns =>
    obtain ⟨a, ea, hh⟩ := o
    refine ⟨a, ea, ?_⟩
    rcases hh with ⟨ob, hh⟩ | hh
    · exact .inl ⟨ob, st.frz _ _ _ hh⟩
    · exact .inr hh
theorem dl_sr {cs cs' : List Int} {b b' : Int} (sr : SR K H ow σ ρ) (e0 : ρ[i]? = some (.deal cs b)) (eσ : (σ[i]?).join = some (.ref p)) (wp : ow a0 = i + 2) (h0 : H a0 = some (.lst vs))
    (now : SlIs K (upd H a0 (.lst us)) ow i (some (.ref p)) (.deal cs' b')) : SR K (upd H a0 (.lst us)) ow σ (ρ.set i (.deal cs' b')) := by
  refine ⟨by simp [sr.len], fun j t e => ?_⟩
  by_cases hj : i = j
  · subst hj
    have hlt : i < ρ.length := (List.getElem?_eq_some_iff.mp e0).1
    rw [List.getElem?_set_self hlt] at e
    cases e
    rw [eσ]
    exact now
  · rw [List.getElem?_set_ne hj] at e
    exact slot_other h0 wp hj (sr.get j t e)
end
def mDl {α : Type} (i : Nat) (f : List Int → Int → M α) : M α := fun ρ => match ρ[i]? with
  | some (.deal cs b) => f cs b ρ
  | _ => .stuck
def putDl {α : Type} (i : Nat) (cs : List Int) (b : Int) (x : α) : M α := fun ρ => .ok x (ρ.set i (.deal cs b))
def dlNe (i : Nat) : M Bool := mDl i fun cs _ => M.ret (decide (cs ≠ []))
def dlZero (i : Nat) : M Bool := mDl i fun cs _ => match cs[cs.length - 1]? with
  | some z => M.ret (decide (z = 0))
  | none => M.fail
def dlPop (i : Nat) : M D := mDl i fun cs b => match cs[cs.length - 1]? with
  | some z => putDl i cs.dropLast b (.int z)
  | none => M.fail
def dlAdd (i j k : Nat) : M D := fun ρ => match ρ[i]?, ρ[j]?, ρ[k]? with
  | some (.deal cs b), some (.val (.int x)), some (.val (.int y)) => if cs.length < sizeLine ∧ y ≠ 0 ∧ y.natAbs < 1073741824 then .ok .non (ρ.set i (.deal (cs ++ [x.fdiv y]) b)) else .stuck
  | _, _, _ => .stuck
def dlBlend (i : Nat) : M D := mDl i fun _ b => M.ret (.int b)
def dlSet (i : Nat) (t : M D) : M Out := t.bind fun d => mDl i fun cs _ => match d with
  | .int z => putDl i cs z .nx
  | _ => M.fail
section
variable {C : Cc} {e : Expr} {y : Str} {i : Nat}
theorem dl_at {σ : L2.St} {H : Hp} {ow : Addr → Nat} {ρ : Ev} {cs : List Int} {b : Int} (sr : SR C.K H ow σ ρ) (e : ρ[i]? = some (.deal cs b)) :
    ∃ p q, σ[i]? = some (some (.ref p)) ∧ H p = some (.lst [.ref q, .int b]) ∧ H q = some (.lst (cs.map V.int)) ∧ p ≠ q ∧ ow p = i + 2 ∧ ow q = i + 2 := by
  obtain ⟨p, q, ep, h⟩ := sr.get i _ e
  exact ⟨p, q, join_some ep, h⟩
theorem EndE.dl {α : Type} {σ : L2.St} {H : Hp} {ow : Addr → Nat} {ρ : Ev} {f : List Int → Int → M α} {G : α → Ev → Hp → (Addr → Nat) → Prop} (h : EndE C σ H ow (mDl i f ρ) G) : ∃ cs b, ρ[i]? = some (.deal cs b) ∧ EndE C σ H ow (f cs b ρ) G := by
  unfold mDl at h
  split at h
  · rename_i cs b e
    exact ⟨cs, b, e, h⟩
  · exact h.elim
/-- a cell read: deal[j] -/
def tCell (K : PySem.W.Frag) (i : Nat) (j : Int) : TE := tOp (rIx K) (tVar i) (tC (.int j))
variable {py p0 p1 p2 p3 p4 p5 p6 p7 : Pos} {k k' : Nat}
theorem pe_cell {X : Cx} {j : Int} (hN : X.N[i]? = some y) (hv : Vis X.env.scope y) (hd : (y == ("__debug__" : Str)) = false) (hcd : (y == ("__classdict__" : Str)) = false) : PE X (.Subscript (.Name y py) (.Constant (.int j) k p0) p1) (tCell X.K i j) :=
  pe_ix ix_seq (pe_var hN hv hd hcd) pe_int (fun _ _ => rfl)
theorem cell0 {K : PySem.W.Frag} {σ : L2.St} {H : Hp} {Q : VK} {p : Addr} {v w : V} (eσ : σ[i]? = some (some (.ref p))) (hp : H p = some (.lst [v, w])) (q : Q v H) : tCell K i 0 σ H Q :=
  ⟨_, eσ, .inl ⟨p, _, 0, v, rfl, rfl, SqL.of hp, rfl, q⟩⟩
theorem cell1 {K : PySem.W.Frag} {σ : L2.St} {H : Hp} {Q : VK} {p : Addr} {v w : V} (eσ : σ[i]? = some (some (.ref p))) (hp : H p = some (.lst [v, w])) (q : Q w H) : tCell K i 1 σ H Q :=
  ⟨_, eσ, .inl ⟨p, _, 1, w, rfl, rfl, SqL.of hp, rfl, q⟩⟩
theorem depL_ints : ∀ cs : List Int, depL (cs.map D.int) = 0
  | [] => rfl
  | c :: cs => by
    show max (D.dep (.int c)) (depL (cs.map D.int)) = 0
    rw [depL_ints cs]
    rfl
theorem atI_last {α : Type} {xs : List α} {z : α} (h : xs[xs.length - 1]? = some z) : atI xs (-1) = some z := by
  have hl : xs.length - 1 < xs.length := (List.getElem?_eq_some_iff.mp h).1
  have hi : ixN xs.length (-1) = some (xs.length - 1) := by
    unfold ixN
    rw [if_neg (by decide), if_pos (by omega)]
    congr 1
    omega
  unfold atI
  rw [hi]
  exact h
/-- deal[0] != [] -/
theorem jt_dlNe (ok : CcOk C) (i : Nat) (hN : ∀ κ, (C.X κ).N[i]? = some y := by intro _; rfl) (hv : ∀ κ, Vis (C.X κ).env.scope y := by intro _; first | exact Or.inl rfl | exact Or.inr (Or.inl rfl) | exact Or.inr (Or.inr rfl))
    (hd : (y == ("__debug__" : Str)) = false := by decide) (hcd : (y == ("__classdict__" : Str)) = false := by decide) : JT C (.Compare (.Subscript (.Name y py) (.Constant (.int 0) k p0) p1) [.NotEq] [.List [] p2] p3) (dlNe i) := by
  refine ⟨tTest (tOp (rEqX C.K true) (tCell C.K i 0) (tLst tNil)), fun κ => ?_, fun σ H ow ρ Q sr hE => ?_⟩
  · rw [← ok.kk κ]
    exact pt_cmpR (op_neX (ok.hu κ)) (pe_cell (hN κ) (hv κ) hd hcd) (pe_lst pa_nil) rfl
  · obtain ⟨cs, b, e, h⟩ := hE.dl
    obtain ⟨p, q, eσ, hp, hq, _⟩ := dl_at sr e
    refine cell0 eσ hp ⟨Nat.zero_le _, fun p9 h9 => ?_⟩
    have g := (new_lst (K := C.K) (ow := ow) h9 .nil).1
    have r := (new_lst (K := C.K) (ow := ow) h9 .nil).2
    refine d_ne _ (own0 H ow 0) _ _ (.lst (cs.map D.int)) (.lst []) (.bl (decide (cs ≠ []))) _ ⟨q, _, rfl, g.same _ _ hq, (rpl_ints cs).grow g⟩ ⟨p9, [], rfl, upd_same, .nil⟩ ?_ fun v H' ow' g' rv => ?_
    · unfold dNe
      rw [if_pos (by show min (depL (cs.map D.int) + 1) _ ≤ 150; rw [depL_ints]; omega)]
      cases cs with
      | nil => rfl
      | cons c cs => rfl
    · cases rv
      exact ⟨_, rfl, h H' ow' ((g.stp).trans g'.stp) ((sr.grow g).grow g')⟩
/-- deal[0][-1] == 0 -/
theorem jt_dlZero (ok : CcOk C) (i : Nat) {p8 p9 : Pos} {k2 : Nat} (hN : ∀ κ, (C.X κ).N[i]? = some y := by intro _; rfl) (hv : ∀ κ, Vis (C.X κ).env.scope y := by intro _; first | exact Or.inl rfl | exact Or.inr (Or.inl rfl) | exact Or.inr (Or.inr rfl))
    (hd : (y == ("__debug__" : Str)) = false := by decide) (hcd : (y == ("__classdict__" : Str)) = false := by decide) : JT C (.Compare (.Subscript (.Subscript (.Name y py) (.Constant (.int 0) k p0) p1) (.UnaryOp .USub (.Constant (.int 1) k' p2) p3) p4) [.Eq] [.Constant (.int 0) k2 p8] p9) (dlZero i) := by
  refine ⟨tTest (tOp (rEqX C.K false) (tOp (rIx C.K) (tCell C.K i 0) (tUn (rU fun i => .int (-i)) (tC (.int 1)))) (tC (.int 0))), fun κ => ?_, fun σ H ow ρ Q sr hE => ?_⟩
  · rw [← ok.kk κ]
    exact pt_cmpR (op_eqX (ok.hu κ)) (pe_ix ix_seq (pe_cell (hN κ) (hv κ) hd hcd) (pe_un un_neg pe_int) (fun _ _ => rfl)) pe_int rfl
  · obtain ⟨cs, b, e, h⟩ := hE.dl
    obtain ⟨p, q, eσ, hp, hq, _⟩ := dl_at sr e
    cases ez : cs[cs.length - 1]? with
    | none =>
      simp only [ez] at h
      exact h.elim
    | some z =>
      simp only [ez] at h
      refine cell0 eσ hp ⟨1, rfl, .inl ⟨q, _, -1, .int z, rfl, rfl, SqL.of hq, atI_last (by rw [List.length_map, List.getElem?_map, ez]; rfl), ?_⟩⟩
      refine (show rEqX C.K false (V.int z) (V.int 0) H (fun x H' => ∃ k, x = V.bl k ∧ Q k H') from ?_)
      refine d_eq H ow _ _ (.int z) (.int 0) (.bl (decide (z = 0))) _ (.int z) (.int 0) ?_ fun v H' ow' g' rv => ?_
      · unfold dEq
        rw [if_pos (by show min 0 _ ≤ 150; omega)]
        rfl
      · cases rv
        exact ⟨_, rfl, h H' ow' g'.stp (sr.grow g')⟩
/-- deal[0].pop() -/
theorem je_dlPop (ok : CcOk C) (i : Nat) {apos cpos : Pos} (hN : ∀ κ, (C.X κ).N[i]? = some y := by intro _; rfl) (hv : ∀ κ, Vis (C.X κ).env.scope y := by intro _; first | exact Or.inl rfl | exact Or.inr (Or.inl rfl) | exact Or.inr (Or.inr rfl))
    (hd : (y == ("__debug__" : Str)) = false := by decide) (hcd : (y == ("__classdict__" : Str)) = false := by decide) (hline : (apos.endLine == cpos.line) = true := by rfl) :
    JE C (.Call (.Attribute (.Subscript (.Name y py) (.Constant (.int 0) k p0) p1) "pop" apos) [] [] cpos) (dlPop i) := by
  refine ⟨tBM0 C.K "list" rPop (tCell C.K i 0), fun κ => ?_, fun σ H ow ρ Q sr hE => ?_⟩
  · rw [← ok.kk κ]
    exact pe_bm0 PySem.F.plainAttrs_list PySem.F.slot_list_pop PySem.F.type_list_pop mt_pop (pe_cell (hN κ) (hv κ) hd hcd) rfl hline
  · obtain ⟨cs, b, e, h⟩ := hE.dl
    obtain ⟨p, q, eσ, hp, hq, n, w1, w2⟩ := dl_at sr e
    cases ez : cs[cs.length - 1]? with
    | none =>
      simp only [ez] at h
      exact h.elim
    | some z =>
      simp only [ez] at h
      refine cell0 eσ hp ⟨.inl ⟨rfl, _, SqL.of hq⟩, q, _, .int z, rfl, rfl, hq, by rw [List.length_map, List.getElem?_map, ez]; rfl, ?_⟩
      refine h _ ow (own_stp hq w2) ?_ _ (.int z)
      rw [← List.map_dropLast]
      exact dl_sr sr e (by rw [eσ]; rfl) w2 hq ⟨p, q, rfl, by rw [upd_ne n]; exact hp, upd_same, n, w1, w2⟩
/-- deal[0].append(x // z) -/
theorem je_dlAdd (ok : CcOk C) (i j k2 : Nat) {x z : Str} {px pz pb apos cpos : Pos} (hN : ∀ κ, (C.X κ).N[i]? = some y := by intro _; rfl) (hv : ∀ κ, Vis (C.X κ).env.scope y := by intro _; first | exact Or.inl rfl | exact Or.inr (Or.inl rfl) | exact Or.inr (Or.inr rfl))
    (hd : (y == ("__debug__" : Str)) = false := by decide) (hcd : (y == ("__classdict__" : Str)) = false := by decide)
    (hN2 : ∀ κ, (C.X κ).N[j]? = some x := by intro _; rfl) (hv2 : ∀ κ, Vis (C.X κ).env.scope x := by intro _; first | exact Or.inl rfl | exact Or.inr (Or.inl rfl) | exact Or.inr (Or.inr rfl))
    (hd2 : (x == ("__debug__" : Str)) = false := by decide) (hcd2 : (x == ("__classdict__" : Str)) = false := by decide)
    (hN3 : ∀ κ, (C.X κ).N[k2]? = some z := by intro _; rfl) (hv3 : ∀ κ, Vis (C.X κ).env.scope z := by intro _; first | exact Or.inl rfl | exact Or.inr (Or.inl rfl) | exact Or.inr (Or.inr rfl))
    (hd3 : (z == ("__debug__" : Str)) = false := by decide) (hcd3 : (z == ("__classdict__" : Str)) = false := by decide) (hline : (apos.endLine == cpos.line) = true := by rfl)
    (hfew : ∀ κ, ((backTo cpos (starEach [.BinOp (.Name x px) .FloorDiv (.Name z pz) pb] (C.X κ).env)).all (fun x => !x.1) && (backToKw cpos (keywordEach [] (C.X κ).env)).all (fun x => x.1.isSome) && decide ([Expr.BinOp (.Name x px) .FloorDiv (.Name z pz) pb].length + ([] : List Keyword).length + (if ([] : List Keyword).isEmpty then 0 else 1) < 30)) = true := by intro _; rfl)
    (hs : ∀ κ, starEach [.BinOp (.Name x px) .FloorDiv (.Name z pz) pb] (C.X κ).env = (false, eval (.BinOp (.Name x px) .FloorDiv (.Name z pz) pb) (C.X κ).env) :: starEach [] (C.X κ).env := by intro _; rfl) (hp : ∀ κ, (backTo cpos (starEach [] (C.X κ).env)).any (·.1) = false := by intro _; rfl) :
    JE C (.Call (.Attribute (.Subscript (.Name y py) (.Constant (.int 0) k p0) p1) "append" apos) [.BinOp (.Name x px) .FloorDiv (.Name z pz) pb] [] cpos) (dlAdd i j k2) := by
  refine ⟨tBM C.K "list" rAppend (tCell C.K i 0) (tCons (tOp rDivI (tVar j) (tVar k2)) tNil), fun κ => ?_, fun σ H ow ρ Q sr hE => ?_⟩
  · rw [← ok.kk κ]
    exact pe_bm PySem.F.plainAttrs_list PySem.F.slot_list_append PySem.F.type_list_append mt_append (pe_cell (hN κ) (hv κ) hd hcd) (pa_cons (pe_op op_fdivN (pe_var (hN2 κ) (hv2 κ) hd2 hcd2) (pe_var (hN3 κ) (hv3 κ) hd3 hcd3)) pa_nil (hs κ)) rfl (hfew κ) hline (hs κ) (hp κ)
  · unfold dlAdd at hE
    split at hE
    · rename_i cs b a c e0 e1 e2
      split at hE
      · rename_i hl
        obtain ⟨p, q, eσ, hp, hq, n, w1, w2⟩ := dl_at sr e0
        obtain ⟨v1, ev1, r1⟩ := sr.get j _ e1
        obtain ⟨v2, ev2, r2⟩ := sr.get k2 _ e2
        cases r1
        cases r2
        refine cell0 eσ hp ⟨.inl ⟨rfl, _, SqL.of hq⟩, _, join_some ev1, _, join_some ev2, a, c, rfl, rfl, hl.2, q, _, .int (a.fdiv c), rfl, rfl, hq, by rw [List.length_map]; exact hl.1, ?_⟩
        refine hE _ ow (own_stp hq w2) ?_ _ .non
        have em : cs.map V.int ++ [V.int (a.fdiv c)] = (cs ++ [a.fdiv c]).map V.int := by simp
        rw [em]
        exact dl_sr sr e0 (by rw [eσ]; rfl) w2 hq ⟨p, q, rfl, by rw [upd_ne n]; exact hp, upd_same, n, w1, w2⟩
      · exact hE.elim
    · exact hE.elim
/-- deal[1] -/
theorem je_dlBlend (ok : CcOk C) (i : Nat) (hN : ∀ κ, (C.X κ).N[i]? = some y := by intro _; rfl) (hv : ∀ κ, Vis (C.X κ).env.scope y := by intro _; first | exact Or.inl rfl | exact Or.inr (Or.inl rfl) | exact Or.inr (Or.inr rfl))
    (hd : (y == ("__debug__" : Str)) = false := by decide) (hcd : (y == ("__classdict__" : Str)) = false := by decide) : JE C (.Subscript (.Name y py) (.Constant (.int 1) k p0) p1) (dlBlend i) := by
  refine ⟨tCell C.K i 1, fun κ => by rw [← ok.kk κ]; exact pe_cell (hN κ) (hv κ) hd hcd, fun σ H ow ρ Q sr hE => ?_⟩
  obtain ⟨cs, b, e, h⟩ := hE.dl
  obtain ⟨p, q, eσ, hp, _⟩ := dl_at sr e
  exact cell1 eσ hp (h H ow .refl sr _ (.int b))
/-- deal[1] = e -/
theorem js_dlSet (ok : CcOk C) (i : Nat) {t : M D} {spos : Pos} (h : JE C e t) (hN : ∀ κ, (C.X κ).N[i]? = some y := by intro _; rfl) (hv : ∀ κ, Vis (C.X κ).env.scope y := by intro _; first | exact Or.inl rfl | exact Or.inr (Or.inl rfl) | exact Or.inr (Or.inr rfl))
    (hd : (y == ("__debug__" : Str)) = false := by decide) (hcd : (y == ("__classdict__" : Str)) = false := by decide)
    (ha : ∀ κ v, assign (.Subscript (.Name y py) (.Constant (.int 1) k p0) p1) (C.X κ).env v = (do
      let ov ← holding [v] (eval (.Name y py) (C.X κ).env)
      let iv ← holding [v, ov] (eval (.Constant (.int 1) k p0) (C.X κ).env)
      standAt p1
      holding [v, ov, iv] (setItem ov iv v)
      release [v, ov, iv] []) := by intro _; intro _; rfl)
    (hs : ∀ κ, swapsWithSole [.Subscript (.Name y py) (.Constant (.int 1) k p0) p1] e spos.line (C.X κ).env = pure false := by intro _; rfl) (hw : ∀ κ, swappedStores [.Subscript (.Name y py) (.Constant (.int 1) k p0) p1] e (C.X κ).env = pure none := by intro _; rfl)
    (h1 : ∀ κ, (assignEach [.Subscript (.Name y py) (.Constant (.int 1) k p0) p1] (C.X κ).env).map (·.2) = [assign (.Subscript (.Name y py) (.Constant (.int 1) k p0) p1) (C.X κ).env] := by intro _; rfl) :
    JS C (.Assign [.Subscript (.Name y py) (.Constant (.int 1) k p0) p1] e spos) (dlSet i t) := by
  obtain ⟨q, pq, kq⟩ := h.ex
  refine ⟨tAsg q (gSub (tVar i) (tC (.int 1)) rSetL), fun κ => ps_asg (pq κ) (pg_sub (pe_var (hN κ) (hv κ) hd hcd) pe_int set_list (ha κ)) (hs κ) (hw κ) (h1 κ), fun σ H ow ρ E sr hE => kq σ H ow ρ _ sr ((End.bindE hE).imp fun d ρ1 H1 ow1 s1 sr1 q1 v rv => ?_)⟩
  unfold mDl at q1
  split at q1
  · rename_i cs b e0
    obtain ⟨p, q, eσ, hp, hq, n, w1, w2⟩ := dl_at sr1 e0
    cases rv with
    | int z =>
      refine ⟨_, eσ, p, _, 1, 1, rfl, rfl, hp, rfl, ?_⟩
      exact q1 σ _ ow1 (own_stp hp w1) .refl (dl_sr sr1 e0 (by rw [eσ]; rfl) w1 hp ⟨p, q, rfl, upd_same, by rw [upd_ne (Ne.symm n)]; exact hq, n, w1, w2⟩)
    | _ => exact q1.elim
  · exact q1.elim
end
end Dy

namespace Dy
open PySem PySem.Spec PyProof.Rows L2

/-! ### the end of a law's proof -/
theorem fun_binds {K : PySem.W.Frag} {x qual : Str} {st : Stmt} {f : Addr} {fd : FuncData} {ps : List Str} (F : L2.Fun K x qual st f fd)
    (h : ∀ (kV doc pm : Value) (an : Option Addr) (cdv ct : Value) (us : List Value), us.length = ps.length → bindArgs (PySem.W.fnOf x qual (defArgs st) (defBody st) (defScope st) .none kV doc pm an cdv ct) ⟨us, []⟩ = pure (ps.zip us)) (s : Shared) (us : List Value) (hl : us.length = ps.length) : BindsTo s fd ⟨us, []⟩ (ps.zip us) := by
  obtain ⟨oc, od, kV, doc, pm, an, cdv, ct, osl, rfl, lk, hcd⟩ := F.ex
  exact .of_eq (h kV doc pm an cdv ct us hl)
theorem spD_end {K : PySem.W.Frag} {xc : Nat → Value → Prop} {F : Fd} {H : Hp} {a : Addr} {ns : List Int} {ρ : Ev} (hF : F [.scr ns] = .ok (.bl true) ρ) (hO : Only H) (hS : SqL K H a (ns.map V.int)) : spD K xc [] 1 F [.ref a] H (fun v _ => v = .bl true) fun _ _ _ => False := by
  refine ⟨fun _ => 1, [.scr ns], rfl, ⟨rfl, fun i s e => ?_⟩, ?_⟩
  · match i, e with
    | 0, e =>
      cases e
      refine ⟨a, rfl, ?_⟩
      rcases hS with (h | ⟨o, h⟩) | h
      · rcases hO a with z | ⟨o, xs, z⟩
        · rw [h] at z
          cases z
        · rw [h] at z
          cases z
      · exact .inl ⟨o, h⟩
      · exact .inr fun H1 => .inr h
  · rw [hF]
    intro v H' ow' _ _ r
    cases r
    rfl
theorem law_end {l : PySem.W.OpenLaw} {n k m : Nat} {q : Program} {loose : List Str} {XP : (Str → Option Value) → Heap → Prop} {d : DefRec} {fa : List He.Fa} {fn : List He.DefD} {cs : List (Str × D)} {F : Fd}
    (hn : l.most = some n) (hn2 : n ≤ sizeLine) (hdf : d.params.defaults = []) (hr : Room k callerA)
    (A : ∀ (w : World) (mg : Str → Option Value) (f : Addr) (h : Heap) (K : PySem.W.Frag), K.In h → h.Ns mainGlobals mg → SaysX fa fn cs K → mg d.name = some (.ref f) →
      ∃ fd : FuncData, (∀ (s : Shared) (u : Value), BindsTo s fd ⟨[u], []⟩ [("script", u)]) ∧ ∀ base : Heap, FnOk l.prog w K mg base (L2.CX l.prog w) k f fd ["script"] (spD K (fun _ _ => True) [] 1 F))
    (hF : ∀ ns : List Int, ns.length ≤ n → ∃ ρ, F [.scr ns] = .ok (.bl true) ρ) :
    PySem.W.WalkO q loose XP (hookX m fa fn cs).says l.row.toRowW d [] (fun f vs => PySem.call f vs) := by
  refine Att.attach_call hn hdf fun w s₀ s₁ mg mb fb o pm cd doc a vs ns G Y ho hd hcd hmg hobj hints hlen hg => ?_
  obtain ⟨K, KX, c⟩ := Y
  obtain ⟨fd, hb, hA⟩ := A w mg fb _ K KX G.T.g c hmg
  obtain ⟨ρ, e⟩ := hF ns hlen
  exact law_call KX G.T.g G.T.b G.T.builtins G.T.nolimit hg hobj hints (Nat.le_trans hlen hn2) hr (fun base _ _ => hA base) hb (fun H hO hS => spD_end e hO hS) fun H e s' ⟨_, _, _, _, _, _, _, _, _, _, _, _, z⟩ => z
end Dy

namespace Dy
open PySem PySem.Spec PyProof.Rows L2

/-! ### a def's result without its own names -/
def cutF (m : Nat) (F : Fd) : Fd := fun as => match F as with
  | .ok d ρ => .ok d (ρ.take m)
  | .exc c d ρ => .exc c d (ρ.take m)
  | .stuck => .stuck
theorem take_at {ρ : Ev} {m i : Nat} (h : i < m) : (ρ.take m)[i]? = ρ[i]? := by
  rw [List.getElem?_take, if_pos h]
theorem spD_cut {K : PySem.W.Frag} {xc : Nat → Value → Prop} {an : List Nat} {n m : Nat} {F : Fd} (hm : ∀ i ∈ an, i < m) {vs : List V} {H : Hp} {Q : VK} {E : XK} (h : spD K xc an n (cutF m F) vs H Q E) : spD K xc an n F vs H Q E := by
  obtain ⟨ow, as, hl, sr, h⟩ := h
  refine ⟨ow, as, hl, sr, ?_⟩
  unfold cutF at h
  cases e : F as with
  | ok d ρ =>
    rw [e] at h
    exact fun v H' ow' st o => h v H' ow' st fun i hi s q => o i hi s (by rw [← take_at (hm i hi)]; exact q)
  | exc c d ρ =>
    rw [e] at h
    exact fun cls dx H' ow' v st o => h cls dx H' ow' v st fun i hi s q => o i hi s (by rw [← take_at (hm i hi)]; exact q)
  | stuck =>
    rw [e] at h
    exact h.elim
theorem ok_cut {P : Program} {w : World} {K : PySem.W.Frag} {mg : Str → Option Value} {base : Heap} {CX : CXT} {k : Nat} {f : Addr} {fd : FuncData} {ps : List Str} {xc : Nat → Value → Prop} {an : List Nat} {n : Nat} {F : Fd} (m : Nat) (hm : ∀ i ∈ an, i < m)
    (h : FnOk P w K mg base CX k f fd ps (spD K xc an n F)) : FnOk P w K mg base CX k f fd ps (spD K xc an n (cutF m F)) := h.imp fun _ _ _ _ q => spD_cut hm q

/-! ### what a run comes to -/
@[irreducible] def wp {α : Type} (t : M α) (ρ : Ev) (Q : α → Ev → Prop) (X : Nat → D → Ev → Prop) : Prop := match t ρ with
  | .ok a ρ' => Q a ρ'
  | .exc c d ρ' => X c d ρ'
  | .stuck => False
section
variable {α β : Type} {ρ : Ev} {X : Nat → D → Ev → Prop}
theorem wp_imp {t : M α} {Q Q' : α → Ev → Prop} (h : wp t ρ Q X) (k : ∀ a ρ', Q a ρ' → Q' a ρ') : wp t ρ Q' X := by
  unfold wp at *
  cases e : t ρ with
  | ok a ρ' =>
    rw [e] at h
    exact k _ _ h
  | exc c d ρ' =>
    rw [e] at h
    exact h
  | stuck =>
    rw [e] at h
    exact h
@[simp] theorem wp_ret (a : α) (Q : α → Ev → Prop) : wp (M.ret a) ρ Q X = Q a ρ := by unfold wp; rfl
@[simp] theorem wp_bind (t : M α) (f : α → M β) (Q : β → Ev → Prop) : wp (t.bind f) ρ Q X = wp t ρ (fun a ρ' => wp (f a) ρ' Q X) X := by
  unfold wp M.bind
  cases t ρ <;> rfl
@[simp] theorem wp_fail (Q : α → Ev → Prop) : wp (M.fail : M α) ρ Q X = False := by unfold wp; rfl
@[simp] theorem wp_some (a : α) (Q : α → Ev → Prop) : wp (M.lift (some a)) ρ Q X = Q a ρ := by unfold wp; rfl
@[simp] theorem wp_none (Q : α → Ev → Prop) : wp (M.lift (none : Option α)) ρ Q X = False := by unfold wp; rfl
@[simp] theorem wp_ite (c : Prop) [Decidable c] (t u : M α) (Q : α → Ev → Prop) : wp (if c then t else u) ρ Q X = if c then wp t ρ Q X else wp u ρ Q X := by
  split <;> rfl
theorem wp_lift (o : Option α) (Q : α → Ev → Prop) : wp (M.lift o) ρ Q X ↔ ∃ a, o = some a ∧ Q a ρ := by
  cases o with
  | none => simp
  | some a => simp
@[simp] theorem wp_rdSl (i : Nat) (Q : D → Ev → Prop) : wp (rdSl i) ρ Q X = match slD ρ[i]? with
    | some d => Q d ρ
    | none => False := by
  unfold wp rdSl
  cases slD ρ[i]? <;> rfl
@[simp] theorem slD_val (d : D) : slD (some (.val d)) = some d := rfl
@[simp] theorem slD_own (xs : List D) : slD (some (.own xs)) = some (.lst xs) := rfl
@[simp] theorem wp_rdO_sh (d : D) (Q : D → Ev → Prop) : wp (rdO (.sh d)) ρ Q X = Q d ρ := by unfold wp; rfl
@[simp] theorem wp_rdO_nm (i : Nat) (Q : D → Ev → Prop) : wp (rdO (.nm i)) ρ Q X = wp (rdSl i) ρ Q X := by unfold wp; rfl
@[simp] theorem wp_rdOs_nil (Q : List D → Ev → Prop) : wp (rdOs []) ρ Q X = Q [] ρ := by unfold wp; rfl
@[simp] theorem wp_rdOs_cons (o : Op) (os : List Op) (Q : List D → Ev → Prop) : wp (rdOs (o :: os)) ρ Q X = wp (rdO o) ρ (fun d ρ' => wp (rdOs os) ρ' (fun ds ρ'' => Q (d :: ds) ρ'') X) X := by
  show wp ((rdO o).bind fun d => (rdOs os).bind fun ds => M.ret (d :: ds)) ρ Q X = _
  simp
@[simp] theorem wp_tkSl (an : List Nat) (i : Nat) (Q : D → Ev → Prop) : wp (tkSl an i) ρ Q X = match ρ[i]? with
    | some (.val d) => Q d ρ
    | some (.own xs) => i ∉ an ∧ Q (.lst xs) (ρ.set i (.val (.lst xs)))
    | _ => False := by
  unfold wp tkSl
  cases e : ρ[i]? with
  | none => rfl
  | some s =>
    cases s with
    | own xs =>
      dsimp only
      by_cases h : i ∈ an
      · rw [if_pos h]
        simp [h]
      · rw [if_neg h]
        simp [h]
    | _ => rfl
@[simp] theorem wp_mSh (t : M D) (Q : Op → Ev → Prop) : wp (mSh t) ρ Q X = wp t ρ (fun d ρ' => Q (.sh d) ρ') X := by simp [mSh]
@[simp] theorem wp_mShN (t : M (List D)) (Q : Op → Ev → Prop) : wp (mShN t) ρ Q X = wp t ρ (fun d ρ' => Q (.sh (.lst d)) ρ') X := by simp [mShN]
@[simp] theorem wp_mEN (t : M (List D)) (Q : D → Ev → Prop) : wp (mEN t) ρ Q X = wp t ρ (fun d ρ' => Q (.lst d) ρ') X := by simp [mEN]
@[simp] theorem wp_mNm (i : Nat) (Q : Op → Ev → Prop) : wp (mNm i) ρ Q X = match slD ρ[i]? with
    | some _ => Q (.nm i) ρ
    | none => False := by simp [mNm]
@[simp] theorem wp_mBin (g : D → D → Option D) (ta tb : M Op) (Q : D → Ev → Prop) : wp (mBin g ta tb) ρ Q X = wp ta ρ (fun x ρ1 => wp tb ρ1 (fun y ρ2 => wp (rdO x) ρ2 (fun d ρ3 => wp (rdO y) ρ3 (fun e ρ4 => wp (M.lift (g d e)) ρ4 Q X) X) X) X) X := by simp [mBin]
@[simp] theorem wp_mUn (g : D → Option D) (ta : M Op) (Q : D → Ev → Prop) : wp (mUn g ta) ρ Q X = wp ta ρ (fun x ρ1 => wp (rdO x) ρ1 (fun d ρ2 => wp (M.lift (g d)) ρ2 Q X) X) X := by simp [mUn]
@[simp] theorem wp_asB (b : Bool) (Q : Bool → Ev → Prop) : wp (asB (.bl b)) ρ Q X = Q b ρ := by unfold wp; rfl
@[simp] theorem wp_asI (b : Int) (Q : Int → Ev → Prop) : wp (asI (.int b)) ρ Q X = Q b ρ := by unfold wp; rfl
@[simp] theorem wp_mTru (ta : M Op) (Q : Bool → Ev → Prop) : wp (mTru ta) ρ Q X = wp ta ρ (fun x ρ1 => wp (rdO x) ρ1 (fun d ρ2 => Q d.truth ρ2) X) X := by simp [mTru]
@[simp] theorem wp_mTest (t : M D) (Q : Bool → Ev → Prop) : wp (mTest t) ρ Q X = wp t ρ (fun d ρ1 => wp (asB d) ρ1 Q X) X := by simp [mTest]
@[simp] theorem wp_mNot (t : M Bool) (Q : Bool → Ev → Prop) : wp (mNot t) ρ Q X = wp t ρ (fun b ρ1 => Q (!b) ρ1) X := by simp [mNot]
@[simp] theorem wp_mAnd (t u : M Bool) (Q : Bool → Ev → Prop) : wp (mAnd t u) ρ Q X = wp t ρ (fun b ρ1 => if b then wp u ρ1 Q X else Q false ρ1) X := by simp [mAnd]
@[simp] theorem wp_mOr (t u : M Bool) (Q : Bool → Ev → Prop) : wp (mOr t u) ρ Q X = wp t ρ (fun b ρ1 => if b then Q true ρ1 else wp u ρ1 Q X) X := by simp [mOr]
@[simp] theorem wp_mIf (t : M Bool) (u v : M α) (Q : α → Ev → Prop) : wp (mIf t u v) ρ Q X = wp t ρ (fun b ρ1 => if b then wp u ρ1 Q X else wp v ρ1 Q X) X := by simp [mIf]
@[simp] theorem wp_mAndV (t u : M D) (Q : D → Ev → Prop) : wp (mAndV t u) ρ Q X = wp t ρ (fun d ρ1 => if d.truth then wp u ρ1 Q X else Q d ρ1) X := by simp [mAndV]
@[simp] theorem wp_mOrV (t u : M D) (Q : D → Ev → Prop) : wp (mOrV t u) ρ Q X = wp t ρ (fun d ρ1 => if d.truth then Q d ρ1 else wp u ρ1 Q X) X := by simp [mOrV]
@[simp] theorem wp_mNotV (ta : M Op) (Q : D → Ev → Prop) : wp (mNotV ta) ρ Q X = wp ta ρ (fun x ρ1 => wp (rdO x) ρ1 (fun d ρ2 => Q (.bl (!d.truth)) ρ2) X) X := by simp [mNotV]
@[simp] theorem wp_mCons (t : M α) (u : M (List α)) (Q : List α → Ev → Prop) : wp (mCons t u) ρ Q X = wp t ρ (fun x ρ1 => wp u ρ1 (fun xs ρ2 => Q (x :: xs) ρ2) X) X := by simp [mCons]
@[simp] theorem wp_mTup (t : M (List D)) (Q : D → Ev → Prop) : wp (mTup t) ρ Q X = wp t ρ (fun ds ρ1 => if ds.length ≤ sizeLine then Q (.tup ds) ρ1 else False) X := by simp [mTup]
@[simp] theorem wp_mLst (t : M (List D)) (Q : List D → Ev → Prop) : wp (mLst t) ρ Q X = wp t ρ (fun ds ρ1 => if ds.length ≤ sizeLine then Q ds ρ1 else False) X := by simp [mLst]
@[simp] theorem wp_mPart (ta : M Op) (Q : Option Int → Ev → Prop) : wp (mPart ta) ρ Q X = wp ta ρ (fun x ρ1 => wp (rdO x) ρ1 (fun d ρ2 => wp (asI d) ρ2 (fun i ρ3 => Q (some i) ρ3) X) X) X := by simp [mPart]
@[simp] theorem wp_mSl (ta : M Op) (tl th : M (Option Int)) (Q : D → Ev → Prop) : wp (mSl ta tl th) ρ Q X = wp ta ρ (fun x ρ1 => wp tl ρ1 (fun lo ρ2 => wp th ρ2 (fun hi ρ3 => wp (rdO x) ρ3 (fun d ρ4 => wp (M.lift (dSl lo hi d)) ρ4 Q X) X) X) X) X := by simp [mSl]
@[simp] theorem wp_mCall (g : List D → Option α) (ta : M (List Op)) (Q : α → Ev → Prop) : wp (mCall g ta) ρ Q X = wp ta ρ (fun os ρ1 => wp (rdOs os) ρ1 (fun ds ρ2 => wp (M.lift (g ds)) ρ2 Q X) X) X := by simp [mCall]
@[simp] theorem wp_mV (t : M D) (Q : Sl → Ev → Prop) : wp (mV t) ρ Q X = wp t ρ (fun d ρ1 => Q (.val d) ρ1) X := by simp [mV]
@[simp] theorem wp_mO (t : M (List D)) (Q : Sl → Ev → Prop) : wp (mO t) ρ Q X = wp t ρ (fun d ρ1 => Q (.own d) ρ1) X := by simp [mO]
@[simp] theorem wp_fn (f : Ev → Res α) (Q : α → Ev → Prop) (a : α) (ρ' : Ev) (h : f ρ = .ok a ρ') : wp (f : M α) ρ Q X = Q a ρ' := by
  unfold wp
  rw [h]
@[simp] theorem wp_mNx (Q : Out → Ev → Prop) : wp mNx ρ Q X = Q .nx ρ := by unfold wp; rfl
@[simp] theorem wp_mSet (i : Nat) (t : M Sl) (Q : Out → Ev → Prop) : wp (mSet i t) ρ Q X = wp t ρ (fun s ρ1 => Q .nx (ρ1.set i s)) X := by
  unfold wp mSet M.bind
  cases t ρ <;> rfl
@[simp] theorem wp_mPar (i j : Nat) (t u : M Sl) (Q : Out → Ev → Prop) : wp (mPar i j t u) ρ Q X = wp t ρ (fun s ρ1 => wp u ρ1 (fun s' ρ2 => Q .nx ((ρ2.set i s).set j s')) X) X := by
  unfold wp mPar M.bind
  cases t ρ with
  | ok a ρ1 =>
    dsimp only
    cases u ρ1 <;> rfl
  | exc c d ρ1 => rfl
  | stuck => rfl
@[simp] theorem wp_mDrop (t : M D) (Q : Out → Ev → Prop) : wp (mDrop t) ρ Q X = wp t ρ (fun _ ρ1 => Q .nx ρ1) X := by simp [mDrop]
@[simp] theorem wp_mRet (t : M D) (Q : Out → Ev → Prop) : wp (mRet t) ρ Q X = wp t ρ (fun d ρ1 => Q (.rt d) ρ1) X := by simp [mRet]
def seqQ (u : M Out) (Q : Out → Ev → Prop) (X : Nat → D → Ev → Prop) : Out → Ev → Prop
  | .nx, ρ => wp u ρ Q X
  | o, ρ => Q o ρ
@[simp] theorem seqQ_nx (u : M Out) (Q : Out → Ev → Prop) : seqQ u Q X .nx ρ = wp u ρ Q X := rfl
@[simp] theorem seqQ_rt (u : M Out) (Q : Out → Ev → Prop) (d : D) : seqQ u Q X (.rt d) ρ = Q (.rt d) ρ := rfl
@[simp] theorem seqQ_bk (u : M Out) (Q : Out → Ev → Prop) : seqQ u Q X .bk ρ = Q .bk ρ := rfl
@[simp] theorem seqQ_ct (u : M Out) (Q : Out → Ev → Prop) : seqQ u Q X .ct ρ = Q .ct ρ := rfl
@[simp] theorem wp_mSeq (t u : M Out) (Q : Out → Ev → Prop) : wp (mSeq t u) ρ Q X = wp t ρ (seqQ u Q X) X := by
  rw [mSeq, wp_bind]
  congr 1
  funext o ρ'
  cases o
  · rfl
  all_goals
    dsimp only
    unfold wp
    rfl
@[simp] theorem wp_mAug (i : Nat) (g : D → D → Option D) (t : M Op) (Q : Out → Ev → Prop) : wp (mAug i g t) ρ Q X = match ρ[i]? with
    | some (.val d) => wp t ρ (fun y ρ1 => wp (rdO y) ρ1 (fun e ρ2 => wp (M.lift (g d e)) ρ2 (fun z ρ3 => Q .nx (ρ3.set i (.val z))) X) X) X
    | _ => False := by
  unfold wp mAug
  cases e : ρ[i]? with
  | none => rfl
  | some s =>
    cases s with
    | val d =>
      dsimp only
      unfold M.bind
      cases t ρ with
      | ok a ρ1 =>
        dsimp only
        cases rdO a ρ1 with
        | ok e ρ2 =>
          dsimp only [M.lift]
          cases g d e <;> rfl
        | exc c d ρ1 => rfl
        | stuck => rfl
      | exc c d ρ1 => rfl
      | stuck => rfl
    | _ => rfl
@[simp] theorem wp_mRev (t : M D) (Q : List D → Ev → Prop) : wp (mRev t) ρ Q X = wp t ρ (fun d ρ1 => match d with
    | .lst xs => Q xs.reverse ρ1
    | _ => False) X := by
  rw [mRev, wp_bind]
  congr 1
  funext d ρ'
  cases d <;> (dsimp only; unfold wp; rfl)
end
end Dy

namespace Dy
open PySem PySem.Spec PyProof.Rows L2

/-! ### operations on data, as rows to rewrite by -/
section
variable {ρ : Ev} {X : Nat → D → Ev → Prop}
@[simp] theorem dAdd_int (a b : Int) : dAdd (.int a) (.int b) = some (.int (a + b)) := rfl
@[simp] theorem dAugAdd_int (a b : Int) : dAugAdd (.int a) (.int b) = some (.int (a + b)) := rfl
@[simp] theorem wp_addS (a b : List Nat) (Q : D → Ev → Prop) : wp (M.lift (dAdd (.str a) (.str b))) ρ Q X = (a.length + b.length ≤ sizeLine ∧ Q (.str (a ++ b)) ρ) := by
  unfold dAdd
  by_cases h : a.length + b.length ≤ sizeLine <;> simp [h]
@[simp] theorem wp_augS (a b : List Nat) (Q : D → Ev → Prop) : wp (M.lift (dAugAdd (.str a) (.str b))) ρ Q X = (a.length + b.length ≤ sizeLine ∧ Q (.str (a ++ b)) ρ) := by
  unfold dAugAdd
  by_cases h : a.length + b.length ≤ sizeLine <;> simp [h]
@[simp] theorem wp_addL (a b : List D) (Q : D → Ev → Prop) : wp (M.lift (dAdd (.lst a) (.lst b))) ρ Q X = (a.length + b.length ≤ sizeLine ∧ Q (.lst (a ++ b)) ρ) := by
  unfold dAdd
  by_cases h : a.length + b.length ≤ sizeLine <;> simp [h]
@[simp] theorem wp_addT (a b : List D) (Q : D → Ev → Prop) : wp (M.lift (dAdd (.tup a) (.tup b))) ρ Q X = (a.length + b.length ≤ sizeLine ∧ Q (.tup (a ++ b)) ρ) := by
  unfold dAdd
  by_cases h : a.length + b.length ≤ sizeLine <;> simp [h]
@[simp] theorem dSub_int (a b : Int) : dSub (.int a) (.int b) = some (.int (a - b)) := rfl
@[simp] theorem wp_mulI (a b : Int) (Q : D → Ev → Prop) : wp (M.lift (dMul (.int a) (.int b))) ρ Q X = ((isSmall a || isSmall b) = true ∧ Q (.int (a * b)) ρ) := by
  unfold dMul
  by_cases h : (isSmall a || isSmall b) = true <;> simp [h]
@[simp] theorem wp_modI (a b : Int) (Q : D → Ev → Prop) : wp (M.lift (dMod (.int a) (.int b))) ρ Q X = (b ≠ 0 ∧ Q (.int (a.fmod b)) ρ) := by
  unfold dMod
  by_cases h : b = 0 <;> simp [h]
@[simp] theorem wp_divI (a b : Int) (Q : D → Ev → Prop) : wp (M.lift (dDiv (.int a) (.int b))) ρ Q X = ((b ≠ 0 ∧ b.natAbs < 1073741824) ∧ Q (.int (a.fdiv b)) ρ) := by
  unfold dDiv
  by_cases h : b ≠ 0 ∧ b.natAbs < 1073741824 <;> simp [h]
@[simp] theorem wp_powI (a b : Int) (Q : D → Ev → Prop) : wp (M.lift (dPow (.int a) (.int b))) ρ Q X = ((0 ≤ b ∧ b ≤ 1000000 ∧ a.natAbs < 2 ^ 64) ∧ Q (.int (a ^ b.toNat)) ρ) := by
  unfold dPow
  by_cases h : 0 ≤ b ∧ b ≤ 1000000 ∧ a.natAbs < 2 ^ 64 <;> simp [h]
@[simp] theorem dNeg_int (a : Int) : dNeg (.int a) = some (.int (-a)) := rfl
@[simp] theorem wp_eq (d e : D) (Q : D → Ev → Prop) : wp (M.lift (dEq d e)) ρ Q X = (min d.dep e.dep ≤ 150 ∧ Q (.bl (D.beq d e)) ρ) := by
  unfold dEq
  by_cases h : min d.dep e.dep ≤ 150 <;> simp [h]
@[simp] theorem wp_ne (d e : D) (Q : D → Ev → Prop) : wp (M.lift (dNe d e)) ρ Q X = (min d.dep e.dep ≤ 150 ∧ Q (.bl (!D.beq d e)) ρ) := by
  unfold dNe
  by_cases h : min d.dep e.dep ≤ 150 <;> simp [h]
@[simp] theorem dep_int (i : Int) : D.dep (.int i) = 0 := rfl
@[simp] theorem dep_str (i : List Nat) : D.dep (.str i) = 0 := rfl
@[simp] theorem dep_non : D.dep .non = 0 := rfl
@[simp] theorem dep_bl (b : Bool) : D.dep (.bl b) = 0 := rfl
@[simp] theorem dep_lst (xs : List D) : D.dep (.lst xs) = depL xs + 1 := rfl
@[simp] theorem dep_tup (xs : List D) : D.dep (.tup xs) = depL xs + 1 := rfl
@[simp] theorem depL_nil : depL [] = 0 := rfl
@[simp] theorem depL_cons (x : D) (xs : List D) : depL (x :: xs) = max x.dep (depL xs) := rfl
@[simp] theorem beq_int (i j : Int) : D.beq (.int i) (.int j) = (i == j) := rfl
@[simp] theorem beq_str (i j : List Nat) : D.beq (.str i) (.str j) = (i == j) := rfl
@[simp] theorem beq_bl (i j : Bool) : D.beq (.bl i) (.bl j) = (i == j) := rfl
@[simp] theorem beq_lst (i j : List D) : D.beq (.lst i) (.lst j) = beqL i j := rfl
@[simp] theorem beq_tup (i j : List D) : D.beq (.tup i) (.tup j) = beqL i j := rfl
@[simp] theorem beqL_nil : beqL [] [] = true := rfl
@[simp] theorem beqL_nc (x : D) (xs : List D) : beqL [] (x :: xs) = false := rfl
@[simp] theorem beqL_cn (x : D) (xs : List D) : beqL (x :: xs) [] = false := rfl
@[simp] theorem beqL_cons (x y : D) (xs ys : List D) : beqL (x :: xs) (y :: ys) = (D.beq x y && beqL xs ys) := rfl
@[simp] theorem dLt_int (a b : Int) : dLt (.int a) (.int b) = some (.bl (decide (a < b))) := rfl
@[simp] theorem dLe_int (a b : Int) : dLe (.int a) (.int b) = some (.bl (decide (a ≤ b))) := rfl
@[simp] theorem dGt_int (a b : Int) : dGt (.int a) (.int b) = some (.bl (decide (b < a))) := rfl
@[simp] theorem dGe_int (a b : Int) : dGe (.int a) (.int b) = some (.bl (decide (b ≤ a))) := rfl
@[simp] theorem dLt_str (a b : List Nat) : dLt (.str a) (.str b) = some (.bl (strLt a b)) := rfl
@[simp] theorem dIn_str (a b : List Nat) : dIn (.str a) (.str b) = some (.bl (subS a b)) := rfl
@[simp] theorem dNotIn_str (a b : List Nat) : dNotIn (.str a) (.str b) = some (.bl (!subS a b)) := rfl
@[simp] theorem wp_ixS (s : List Nat) (i : Int) (Q : D → Ev → Prop) : wp (M.lift (dIx (.str s) (.int i))) ρ Q X = ∃ c, atI s i = some c ∧ Q (.str [c]) ρ := by
  show wp (M.lift ((atI s i).map fun c => D.str [c])) ρ Q X = _
  cases atI s i <;> simp
@[simp] theorem wp_ixL (s : List D) (i : Int) (Q : D → Ev → Prop) : wp (M.lift (dIx (.lst s) (.int i))) ρ Q X = ∃ c, atI s i = some c ∧ Q c ρ := by
  show wp (M.lift (atI s i)) ρ Q X = _
  rw [wp_lift]
@[simp] theorem wp_ixT (s : List D) (i : Int) (Q : D → Ev → Prop) : wp (M.lift (dIx (.tup s) (.int i))) ρ Q X = ∃ c, atI s i = some c ∧ Q c ρ := by
  show wp (M.lift (atI s i)) ρ Q X = _
  rw [wp_lift]
@[simp] theorem dSl_str (lo hi : Option Int) (s : List Nat) : dSl lo hi (.str s) = some (.str (cutL s lo hi)) := rfl
@[simp] theorem dSl_lst (lo hi : Option Int) (s : List D) : dSl lo hi (.lst s) = some (.lst (cutL s lo hi)) := rfl
@[simp] theorem dSl_tup (lo hi : Option Int) (s : List D) : dSl lo hi (.tup s) = some (.tup (cutL s lo hi)) := rfl
@[simp] theorem dLen_str (s : List Nat) : dLen [.str s] = some (.int s.length) := rfl
@[simp] theorem dLen_lst (s : List D) : dLen [.lst s] = some (.int s.length) := rfl
@[simp] theorem dLen_tup (s : List D) : dLen [.tup s] = some (.int s.length) := rfl
@[simp] theorem dInt_int (i : Int) : dInt [.int i] = some (.int i) := rfl
@[simp] theorem dAbs_int (i : Int) : dAbs [.int i] = some (.int (if i < 0 then -i else i)) := rfl
@[simp] theorem dMin2_int (i j : Int) : dMin2 [.int i, .int j] = some (.int (if j < i then j else i)) := rfl
@[simp] theorem dMax2_int (i j : Int) : dMax2 [.int i, .int j] = some (.int (if j > i then j else i)) := rfl
@[simp] theorem dList_lst (xs : List D) : dList [.lst xs] = some xs := rfl
@[simp] theorem dList_tup (xs : List D) : dList [.tup xs] = some xs := rfl
@[simp] theorem dTuple_lst (xs : List D) : dTuple [.lst xs] = some (.tup xs) := rfl
@[simp] theorem dTuple_tup (xs : List D) : dTuple [.tup xs] = some (.tup xs) := rfl
@[simp] theorem dIs_non (d : D) : dIs d .non = some (.bl (match d with | .non => true | _ => false)) := by cases d <;> rfl
@[simp] theorem dIsNot_non (d : D) : dIsNot d .non = some (.bl (match d with | .non => false | _ => true)) := by cases d <;> rfl
@[simp] theorem dIs_bl (d : D) (b : Bool) : dIs d (.bl b) = some (.bl (match d with | .bl a => a == b | _ => false)) := by cases d <;> rfl
@[simp] theorem truth_bl (b : Bool) : D.truth (.bl b) = b := rfl
@[simp] theorem truth_int (i : Int) : D.truth (.int i) = (i != 0) := rfl
@[simp] theorem truth_lst (xs : List D) : D.truth (.lst xs) = !xs.isEmpty := rfl
@[simp] theorem truth_tup (xs : List D) : D.truth (.tup xs) = !xs.isEmpty := rfl
@[simp] theorem truth_non : D.truth .non = false := rfl
@[simp] theorem truth_str (s : List Nat) : D.truth (.str s) = !s.isEmpty := by cases s <;> simp [D.truth] <;> omega
@[simp] theorem items_lst (xs : List D) : items (.lst xs) = some xs := rfl
@[simp] theorem items_tup (xs : List D) : items (.tup xs) = some xs := rfl
@[simp] theorem items_str (s : List Nat) : items (.str s) = some (s.map fun c => .str [c]) := rfl
@[simp] theorem dZip_lst (as bs : List D) : dZip [.lst as, .lst bs] = some (zipD as bs) := rfl
@[simp] theorem dZip_tup (as bs : List D) : dZip [.tup as, .tup bs] = some (zipD as bs) := rfl
@[simp] theorem flat_int (i : Int) : D.flat (.int i) = true := rfl
@[simp] theorem flat_str (i : List Nat) : D.flat (.str i) = true := rfl
@[simp] theorem flat_bl (i : Bool) : D.flat (.bl i) = true := rfl
@[simp] theorem flat_non : D.flat .non = true := rfl
@[simp] theorem flat_lst (xs : List D) : D.flat (.lst xs) = false := rfl
@[simp] theorem flat_tup (xs : List D) : D.flat (.tup xs) = flatL xs := rfl
@[simp] theorem flatL_nil : flatL [] = true := rfl
@[simp] theorem flatL_cons (x : D) (xs : List D) : flatL (x :: xs) = (x.flat && flatL xs) := rfl
@[simp] theorem wp_range1 (j : Int) (Q : List D → Ev → Prop) : wp (M.lift (dRange1 [.int j])) ρ Q X = (smallI j = true ∧ Q (rangeD 0 j) ρ) := by
  unfold dRange1
  by_cases h : smallI j = true <;> simp [h]
@[simp] theorem wp_range2 (i j : Int) (Q : List D → Ev → Prop) : wp (M.lift (dRange2 [.int i, .int j])) ρ Q X = ((smallI i && smallI j) = true ∧ Q (rangeD i j) ρ) := by
  unfold dRange2
  by_cases h : (smallI i && smallI j) = true <;> simp [h]
@[simp] theorem wp_mItems (t : M D) (Q : List D → Ev → Prop) : wp (mItems t) ρ Q X = wp t ρ (fun d ρ1 => wp (M.lift (items d)) ρ1 Q X) X := by simp [mItems]
@[simp] theorem wp_mIsi (T : String) (ta : M Op) (Q : D → Ev → Prop) : wp (mIsi T ta) ρ Q X = wp ta ρ (fun x ρ1 => wp (rdO x) ρ1 (fun d ρ2 => Q (.bl (isTy T d)) ρ2) X) X := by simp [mIsi]
@[simp] theorem wp_mIsi2 (T U : String) (ta : M Op) (Q : D → Ev → Prop) : wp (mIsi2 T U ta) ρ Q X = wp ta ρ (fun x ρ1 => wp (rdO x) ρ1 (fun d ρ2 => Q (.bl (isTy T d || isTy U d)) ρ2) X) X := by simp [mIsi2]
@[simp] theorem wp_mJoin (ta tb : M Op) (Q : D → Ev → Prop) : wp (mJoin ta tb) ρ Q X = wp ta ρ (fun x ρ1 => wp (rdO x) ρ1 (fun s ρ2 => wp (asStr s) ρ2 (fun _ ρ3 => wp tb ρ3 (fun y ρ4 => wp (rdO y) ρ4 (fun d ρ5 => wp (M.lift (dJoin s d)) ρ5 Q X) X) X) X) X) X := by simp [mJoin]
@[simp] theorem wp_asStr (s : List Nat) (Q : Unit → Ev → Prop) : wp (asStr (.str s)) ρ Q X = Q () ρ := by unfold wp; rfl
theorem asSs_map (ss : List (List Nat)) : asSs (ss.map D.str) = some ss := by
  induction ss with
  | nil => rfl
  | cons s ss ih =>
    show (asSs (ss.map D.str)).map (s :: ·) = _
    rw [ih]
    rfl
@[simp] theorem wp_join (a : List Nat) (ss : List (List Nat)) (Q : D → Ev → Prop) : wp (M.lift (dJoin (.str a) (.lst (ss.map D.str)))) ρ Q X = (sumL ss + ss.length * a.length ≤ sizeLine ∧ Q (.str (TL.joinL a ss)) ρ) := by
  unfold dJoin
  dsimp only
  rw [asSs_map]
  by_cases h : sumL ss + ss.length * a.length ≤ sizeLine <;> simp [h]
/-! ### own lists -/
@[simp] theorem wp_ownD (i : Nat) (Q : List D → Ev → Prop) : wp (ownD i) ρ Q X = match ρ[i]? with
    | some (.own xs) => Q xs ρ
    | _ => False := by
  unfold wp ownD
  cases ρ[i]? with
  | none => rfl
  | some s => cases s <;> rfl
@[simp] theorem wp_putD (i : Nat) (xs : List D) (d : D) (Q : D → Ev → Prop) : wp (putD i xs d) ρ Q X = Q d (ρ.set i (.own xs)) := by unfold wp; rfl
@[simp] theorem wp_mAppend (i : Nat) (t : M D) (Q : D → Ev → Prop) : wp (mAppend i t) ρ Q X = wp (ownD i) ρ (fun _ ρ1 => wp t ρ1 (fun d ρ2 => wp (ownD i) ρ2 (fun xs ρ3 => if xs.length < sizeLine then Q .non (ρ3.set i (.own (xs ++ [d]))) else False) X) X) X := by
  rw [mAppend, wp_bind]
  congr 1
  funext _ ρ'
  rw [wp_bind]
  congr 1
  funext d ρ2
  rw [wp_bind]
  congr 1
  funext xs ρ3
  rw [wp_ite, wp_putD, wp_fail]
/-! ### calls -/
def resQ (r : Res D) (P : D → Prop) (Y : Nat → D → Prop) : Prop := match r with
  | .ok d _ => P d
  | .exc c d _ => Y c d
  | .stuck => False
@[simp] theorem resQ_ok (d : D) (ρ' : Ev) (P : D → Prop) (Y : Nat → D → Prop) : resQ (.ok d ρ') P Y = P d := rfl
@[simp] theorem wp_callA (F : Fd) (os : List Op) (ds : List D) (Q : D → Ev → Prop) : wp (callA F os ds) ρ Q X = resQ (F (ds.map .val)) (fun d => (d.flat || os.all (sharedO ρ)) = true ∧ Q d ρ) (fun c d => d.flat = true ∧ X c d ρ) := by
  unfold wp callA resQ
  cases F (ds.map .val) with
  | ok d ρ' => by_cases h : (d.flat || os.all (sharedO ρ)) = true <;> simp [h]
  | exc c d ρ' => by_cases h : d.flat = true <;> simp [h]
  | stuck => rfl
@[simp] theorem wp_mCallA (F : Fd) (t : M (List Op)) (Q : D → Ev → Prop) : wp (mCallA F t) ρ Q X = wp t ρ (fun os ρ1 => wp (rdOs os) ρ1 (fun ds ρ2 => wp (callA F os ds) ρ2 Q X) X) X := by simp [mCallA]
@[simp] theorem sharedO_sh (d : D) : sharedO ρ (.sh d) = true := rfl
@[simp] theorem wp_chkOwn (j : Nat) (Q : Unit → Ev → Prop) : wp (chkOwn j) ρ Q X = match ρ[j]? with
    | some s => ownSl s = true ∧ Q () ρ
    | none => False := by
  unfold wp chkOwn
  cases ρ[j]? with
  | none => rfl
  | some s => by_cases h : ownSl s = true <;> simp [h]
@[simp] theorem ownSl_deal (cs : List Int) (b : Int) : ownSl (.deal cs b) = true := rfl
@[simp] theorem ownSl_own (cs : List D) : ownSl (.own cs) = true := rfl
@[simp] theorem wp_mCallD (F : Fd) (j : Nat) (t : M (List D)) (Q : D → Ev → Prop) : wp (mCallD F j t) ρ Q X = wp (chkOwn j) ρ (fun _ ρ1 => wp t ρ1 (fun ds ρ2 => wp (callD F j ds) ρ2 Q X) X) X := by simp [mCallD]
/-- a call of a helper that draws: what it gives, and that the cells stay few -/
def Draws (F : Fd) (ds : List D) (P : D → Prop) : Prop := ∀ cs b, cs.length ≤ 64 → ∃ d cs' b', F (.deal cs b :: ds.map .val) = .ok d [.deal cs' b'] ∧ cs'.length ≤ 64 ∧ P d
theorem wp_draw {F : Fd} {j : Nat} {ds : List D} {P : D → Prop} {Q : D → Ev → Prop} {cs : List Int} {b : Int} (h : Draws F ds P) (e : ρ[j]? = some (.deal cs b)) (hl : cs.length ≤ 64)
    (k : ∀ d cs' b', cs'.length ≤ 64 → P d → Q d (ρ.set j (.deal cs' b'))) : wp (callD F j ds) ρ Q X := by
  obtain ⟨d, cs', b', e2, h1, h2⟩ := h cs b hl
  unfold wp callD
  rw [e]
  dsimp only
  rw [if_pos (show ownSl (.deal cs b) = true from rfl), e2]
  exact k d cs' b' h1 h2
/-! ### loops -/
def loopI (J : Ev → Prop) (Q : Out → Ev → Prop) : Out → Ev → Prop
  | .nx, ρ => J ρ
  | .ct, ρ => J ρ
  | .bk, ρ => Q .nx ρ
  | .rt d, ρ => Q (.rt d) ρ
@[simp] theorem loopI_nx (J : Ev → Prop) (Q : Out → Ev → Prop) : loopI J Q .nx ρ = J ρ := rfl
@[simp] theorem loopI_ct (J : Ev → Prop) (Q : Out → Ev → Prop) : loopI J Q .ct ρ = J ρ := rfl
@[simp] theorem loopI_bk (J : Ev → Prop) (Q : Out → Ev → Prop) : loopI J Q .bk ρ = Q .nx ρ := rfl
@[simp] theorem loopI_rt (J : Ev → Prop) (Q : Out → Ev → Prop) (d : D) : loopI J Q (.rt d) ρ = Q (.rt d) ρ := rfl
theorem wp_loopO {o : Out} {u : M Out} {Q : Out → Ev → Prop} {J : Ev → Prop} (h : loopI J Q o ρ) (k : ∀ ρ, J ρ → wp u ρ Q X) : wp (loopO o u) ρ Q X := by
  cases o with
  | nx => exact k ρ h
  | ct => exact k ρ h
  | bk =>
    unfold wp
    exact h
  | rt d =>
    unfold wp
    exact h
theorem wp_while {t : M Bool} {b : M Out} {Q : Out → Ev → Prop} (I : Nat → Ev → Prop) (step : ∀ n ρ, I n ρ → wp t ρ (fun c ρ1 => if c then wp b ρ1 (loopI (fun ρ => ∃ m, m < n ∧ I m ρ) Q) X else Q .nx ρ1) X) {n : Nat} {ρ : Ev} (h : I n ρ) : wp (mWhile t b) ρ Q X := by
  induction n using Nat.strongRecOn generalizing ρ with
  | ind n ih =>
    have e : wp (mWhile t b) ρ Q X = wp (t.bind (wTurn b (mWhile t b))) ρ Q X := by
      unfold wp
      rw [mWhile_eq]
    rw [e, wp_bind]
    refine wp_imp (step n ρ h) fun c ρ1 h1 => ?_
    cases c with
    | false =>
      unfold wp
      exact h1
    | true =>
      show wp (b.bind fun o => loopO o (mWhile t b)) ρ1 Q X
      rw [wp_bind]
      exact wp_imp (Q := loopI (fun ρ => ∃ m, m < n ∧ I m ρ) Q) (by simpa using h1) fun o ρ2 h2 => wp_loopO h2 fun ρ3 ⟨m, hm, h3⟩ => ih m hm h3
theorem wp_for {g : Tg} {b : M Out} {Q : Out → Ev → Prop} (I : List D → Ev → Prop) (step : ∀ d ds ρ, I (d :: ds) ρ → ∃ ρ1, g d ρ = some ρ1 ∧ wp b ρ1 (loopI (I ds) Q) X) (done : ∀ ρ, I [] ρ → Q .nx ρ) : ∀ {ds : List D} {ρ : Ev}, I ds ρ → wp (mFor g b ds) ρ Q X
  | [], ρ, h => by
    unfold wp
    exact done ρ h
  | d :: ds, ρ, h => by
    obtain ⟨ρ1, e, h1⟩ := step d ds ρ h
    have e2 : wp (mFor g b (d :: ds)) ρ Q X = wp (b.bind fun o => loopO o (mFor g b ds)) ρ1 Q X := by
      have e3 : mFor g b (d :: ds) ρ = (b.bind fun o => loopO o (mFor g b ds)) ρ1 := by
        show (match g d ρ with
          | some ρ' => (b.bind fun o => loopO o (mFor g b ds)) ρ'
          | none => Res.stuck) = _
        rw [e]
      unfold wp
      rw [e3]
    rw [e2, wp_bind]
    exact wp_imp h1 fun o ρ2 h2 => wp_loopO h2 fun ρ3 h3 => wp_for I step done h3
@[simp] theorem wp_mForI (g : Tg) (b : M Out) (t : M (List D)) (Q : Out → Ev → Prop) : wp (mForI g b t) ρ Q X = wp t ρ (fun ds ρ1 => wp (mFor g b ds) ρ1 Q X) X := by simp [mForI]
theorem wp_asg (g : Tg) (t : M D) (Q : Out → Ev → Prop) : wp (mAsg g t) ρ Q X = wp t ρ (fun d ρ1 => ∃ ρ2, g d ρ1 = some ρ2 ∧ Q .nx ρ2) X := by
  unfold wp mAsg M.bind
  cases t ρ with
  | ok d ρ1 =>
    dsimp only
    cases g d ρ1 <;> simp
  | exc c d ρ1 => rfl
  | stuck => rfl
/-! ### comprehensions -/
abbrev XF : Nat → D → Ev → Prop := fun _ _ _ => False
theorem wp_lcD {vs : List Nat} {g : Tg} {tt : M Bool} {te : M D} (I : List D → List D → Ev → Prop)
    (step : ∀ d ds acc ρ, I (d :: ds) acc ρ → ∃ ρ1, g d (wipeE ρ vs) = some ρ1 ∧ wp tt ρ1 (fun b ρ2 => if b then wp te ρ2 (fun y ρ3 => acc.length < sizeLine ∧ I ds (acc ++ [y]) ρ3) XF else I ds acc ρ2) XF) :
    ∀ {ds acc : List D} {ρ : Ev}, I ds acc ρ → ∃ zs ρ', lcD vs g tt te ds acc ρ = .ok zs ρ' ∧ I [] zs ρ'
  | [], acc, ρ, h => ⟨acc, ρ, rfl, h⟩
  | d :: ds, acc, ρ, h => by
    obtain ⟨ρ1, e1, h1⟩ := step d ds acc ρ h
    unfold wp at h1
    unfold lcD
    rw [e1]
    dsimp only
    cases e2 : tt ρ1 with
    | ok c ρ2 =>
      rw [e2] at h1
      cases c with
      | false => exact wp_lcD I step (by simpa using h1)
      | true =>
        dsimp only at h1 ⊢
        rw [if_pos rfl] at h1
        cases e3 : te ρ2 with
        | ok y ρ3 =>
          rw [e3] at h1
          dsimp only at h1 ⊢
          rw [if_pos h1.1]
          exact wp_lcD I step h1.2
        | exc c d ρ3 =>
          rw [e3] at h1
          exact h1.elim
        | stuck =>
          rw [e3] at h1
          exact h1.elim
    | exc c d ρ2 =>
      rw [e2] at h1
      exact h1.elim
    | stuck =>
      rw [e2] at h1
      exact h1.elim
theorem wp_lc {vs : List Nat} {g : Tg} {tt : M Bool} {te : M D} {ti : M (List D)} {Q : List D → Ev → Prop} (I : Ev → List D → List D → Ev → Prop)
    (h0 : wp ti ρ (fun ds ρ1 => I ρ1 ds [] ρ1 ∧ (∀ d ds acc ρ, I ρ1 (d :: ds) acc ρ → ∃ ρ2, g d (wipeE ρ vs) = some ρ2 ∧ wp tt ρ2 (fun b ρ3 => if b then wp te ρ3 (fun y ρ4 => acc.length < sizeLine ∧ I ρ1 ds (acc ++ [y]) ρ4) XF else I ρ1 ds acc ρ3) XF) ∧ ∀ zs ρ2, I ρ1 [] zs ρ2 → Q zs (restE ρ1 ρ2 vs)) X) : wp (mLc vs g tt te ti) ρ Q X := by
  cases e : ti ρ with
  | ok ds ρ1 =>
    rw [wp_fn ti _ _ _ e] at h0
    obtain ⟨a, b, c⟩ := h0
    obtain ⟨zs, ρ2, e2, h2⟩ := wp_lcD (I ρ1) b a
    have e3 : mLc vs g tt te ti ρ = .ok zs (restE ρ1 ρ2 vs) := by
      unfold mLc M.bind
      rw [e]
      dsimp only
      rw [e2]
    rw [wp_fn _ _ _ _ e3]
    exact c zs ρ2 h2
  | exc c d ρ1 =>
    have e3 : mLc vs g tt te ti ρ = .exc c d ρ1 := by
      unfold mLc M.bind
      rw [e]
    unfold wp at h0 ⊢
    rw [e] at h0
    rw [e3]
    exact h0
  | stuck =>
    unfold wp at h0
    rw [e] at h0
    exact h0.elim
end
end Dy

namespace Dy
open PySem PySem.Spec PyProof.Rows L2

/-! ### the helpers that draw, as every one of these laws has them -/
noncomputable def bDraw : M Out := (mSeq (mSet 2 (mO (mLc [4] (gNm 4) (M.ret true) (mBin dMod (mSh (mCall dAbs (mCons (mSh (mCall dInt (mCons (mNm 4) (M.ret [])))) (M.ret [])))) (mSh (mBin dPow (mSh (M.ret (.int 10))) (mSh (M.ret (.int 60)))))) (mItems (mEN (scrSl 0 none (some 48)))))))
    (mSeq (mSet 3 (mV (mBin dAdd (mSh (M.ret (.int 7919))) (mSh (mBin dMul (mSh (M.ret (.int 104729))) (mNm 1))))))
    (mSeq (mForI (gNm 4) (mSet 3 (mV (mBin dMod (mSh (mCall dInt (mCons (mSh (mBin dAdd (mSh (mBin dAdd (mSh (mBin dMul (mNm 3) (mSh (M.ret (.int 48271))))) (mSh (mBin dMod (mNm 4) (mSh (M.ret (.int 2147483549))))))) (mSh (M.ret (.int 11))))) (M.ret [])))) (mSh (M.ret (.int 2147483647)))))) (mItems (tkSl [] 2)))
    (mRet (mEN (mLst (mCons (mEN (mRev (mEN (mLc [4] (gNm 4) (mTest (mBin dGe (mNm 4) (mSh (mBin dPow (mSh (M.ret (.int 10))) (mSh (M.ret (.int 18))))))) (tkSl [] 4) (mItems (tkSl [] 2)))))) (mCons (tkSl [] 3) (M.ret [])))))))))
noncomputable def gDraw : Fd := cutF 0 (bodyF 5 bDraw)
noncomputable def bAny : M Out := (mSeq (mWhile ((mAnd (dlNe 0) (dlZero 0))) (mDrop (dlPop 0)))
    (mSeq (mIf (dlNe 0) (mSeq (mSet 2 (mV (mCall dInt (mCons (mSh (dlPop 0)) (M.ret [])))))
    (mSeq (mDrop (dlAdd 0 2 1))
    (mRet (mBin dMod (mNm 2) (mNm 1))))) mNx)
    (mSeq (dlSet 0 (mBin dMod (mSh (mCall dInt (mCons (mSh (mBin dAdd (mSh (mBin dMul (mSh (dlBlend 0)) (mSh (M.ret (.int 40693))))) (mSh (M.ret (.int 71))))) (M.ret [])))) (mSh (M.ret (.int 2147483647)))))
    (mRet (mBin dMod (mSh (mCall dInt (mCons (mSh (mBin dDiv (mSh (dlBlend 0)) (mSh (M.ret (.int 64))))) (M.ret [])))) (mNm 1))))))
noncomputable def gAny : Fd := cutF 1 (bodyF 3 bAny)
noncomputable def bOf : M Out := (mRet (mBin dIx (mNm 1) (mSh (mCallD gAny 0 (mCons (mCall dLen (mCons (mNm 1) (M.ret []))) (M.ret []))))))
noncomputable def gOf : Fd := cutF 1 (bodyF 2 bOf)
noncomputable def bSame (self : Fd) : M Out := (mSeq (mIf (mTru (mSh (mIsi2 "tuple" "list" (mNm 1)))) (mSeq (mIf ((mOr (mTest (mBin dNe (mSh (mIsi "tuple" (mNm 1))) (mSh (mIsi "tuple" (mNm 0))))) (mOr (mNot (mTru (mSh (mIsi2 "tuple" "list" (mNm 0))))) (mTest (mBin dNe (mSh (mCall dLen (mCons (mNm 0) (M.ret [])))) (mSh (mCall dLen (mCons (mNm 1) (M.ret []))))))))) (mRet (M.ret (.bl false))) mNx)
    (mRet (mBin dEq (mShN (mLc [2, 3] (gTp 2 (gsCons (gNm 2) (gsCons (gNm 3) gsNil))) (mNot (mTru (mSh (mCallA self (mCons (mNm 2) (mCons (mNm 3) (M.ret []))))))) (M.ret (.int 0)) (Dy.M.bind (mCons (tkSl [] 0) (mCons (tkSl [] 1) (M.ret []))) fun ds => M.lift (dZip ds)))) (mShN (mLst (M.ret [])))))) mNx)
    (mSeq (mIf (mTest (mBin dIs (mNm 1) (mSh (M.ret .non)))) (mRet (mBin dIs (mNm 0) (mSh (M.ret .non)))) mNx)
    (mSeq (mIf (mTest (mBin dIs (mNm 1) (mSh (M.ret (.bl true))))) (mRet (mBin dIs (mNm 0) (mSh (M.ret (.bl true))))) mNx)
    (mSeq (mIf (mTest (mBin dIs (mNm 1) (mSh (M.ret (.bl false))))) (mRet (mBin dIs (mNm 0) (mSh (M.ret (.bl false))))) mNx)
    (mSeq (mIf (mTru (mSh (mIsi "int" (mNm 1)))) (mRet ((mAndV (mIsi "int" (mNm 0)) (mAndV (mNotV (mSh (mIsi "bool" (mNm 0)))) (mBin dEq (mNm 0) (mNm 1)))))) mNx)
    (mRet ((mAndV (mIsi "str" (mNm 0)) (mBin dEq (mNm 0) (mNm 1))))))))))
noncomputable def gSame : Nat → Fd
  | 0 => fun _ => .stuck
  | k + 1 => cutF 0 (bodyF 4 (bSame (gSame k)))
section
variable {ρ : Ev} {X : Nat → D → Ev → Prop}
@[simp] theorem wp_mDl {α : Type} (i : Nat) (f : List Int → Int → M α) (Q : α → Ev → Prop) : wp (mDl i f) ρ Q X = match ρ[i]? with
    | some (.deal cs b) => wp (f cs b) ρ Q X
    | _ => False := by
  unfold wp mDl
  cases ρ[i]? with
  | none => rfl
  | some s => cases s <;> rfl
@[simp] theorem wp_putDl {α : Type} (i : Nat) (cs : List Int) (b : Int) (x : α) (Q : α → Ev → Prop) : wp (putDl i cs b x) ρ Q X = Q x (ρ.set i (.deal cs b)) := by unfold wp; rfl
@[simp] theorem wp_dlAdd (i j k : Nat) (Q : D → Ev → Prop) : wp (dlAdd i j k) ρ Q X = match ρ[i]?, ρ[j]?, ρ[k]? with
    | some (.deal cs b), some (.val (.int x)), some (.val (.int y)) => if cs.length < sizeLine ∧ y ≠ 0 ∧ y.natAbs < 1073741824 then Q .non (ρ.set i (.deal (cs ++ [x.fdiv y]) b)) else False
    | _, _, _ => False := by
  unfold wp dlAdd
  cases ρ[i]? with
  | none => rfl
  | some s =>
    cases s with
    | deal cs b =>
      cases ρ[j]? with
      | none => rfl
      | some s =>
        cases s with
        | val d =>
          cases d with
          | int x =>
            cases ρ[k]? with
            | none => rfl
            | some s =>
              cases s with
              | val d =>
                cases d with
                | int y =>
                  dsimp only
                  by_cases h : cs.length < sizeLine ∧ y ≠ 0 ∧ y.natAbs < 1073741824
                  · rw [if_pos h, if_pos h]
                  · rw [if_neg h, if_neg h]
                | _ => rfl
              | _ => rfl
          | _ => rfl
        | _ => rfl
    | _ => rfl
def outP (P : D → Ev → Prop) : Out → Ev → Prop
  | .nx, ρ => P .non ρ
  | .rt d, ρ => P d ρ
  | _, _ => False
@[simp] theorem outP_nx (P : D → Ev → Prop) : outP P .nx ρ = P .non ρ := rfl
@[simp] theorem outP_rt (P : D → Ev → Prop) (d : D) : outP P (.rt d) ρ = P d ρ := rfl
@[simp] theorem outP_bk (P : D → Ev → Prop) : outP P .bk ρ = False := rfl
@[simp] theorem outP_ct (P : D → Ev → Prop) : outP P .ct ρ = False := rfl
theorem run_of {m n : Nat} {b : M Out} {as : List Sl} {P : D → Ev → Prop} (h : wp b (initE n as) (outP P) XF) : ∃ d ρ', cutF m (bodyF n b) as = .ok d (ρ'.take m) ∧ P d ρ' := by
  unfold wp at h
  unfold cutF bodyF
  cases e : b (initE n as) with
  | ok o ρ' =>
    rw [e] at h
    cases o with
    | nx => exact ⟨_, ρ', rfl, h⟩
    | rt d => exact ⟨d, ρ', rfl, h⟩
    | bk => exact h.elim
    | ct => exact h.elim
  | exc c d ρ' =>
    rw [e] at h
    exact h.elim
  | stuck =>
    rw [e] at h
    exact h.elim
/-- .. of a def that has no cells -/
theorem run_eq {n : Nat} {b : M Out} {as : List Sl} {d : D} (h : wp b (initE n as) (outP fun x _ => x = d) XF) : cutF 0 (bodyF n b) as = .ok d [] := by
  obtain ⟨x, ρ', e, rfl⟩ := run_of (m := 0) h
  exact e
/-- .. of one that draws -/
theorem draws_of {n : Nat} {b : M Out} {ds : List D} {P : D → Prop} (h : ∀ cs z, cs.length ≤ 64 → wp b (initE n (.deal cs z :: ds.map .val)) (outP fun d ρ' => P d ∧ ∃ cs' z' r, ρ' = .deal cs' z' :: r ∧ cs'.length ≤ 64) XF) : Draws (cutF 1 (bodyF n b)) ds P := by
  intro cs z hl
  obtain ⟨d, ρ', e, p, cs', z', r, rfl, hl'⟩ := run_of (m := 1) (h cs z hl)
  exact ⟨d, cs', z', e, hl', p⟩
end
theorem fmod_range {a n : Int} (h : 0 < n) : 0 ≤ a.fmod n ∧ a.fmod n < n := ⟨Int.fmod_nonneg_of_pos a h, Int.fmod_lt_of_pos a h⟩
theorem any_draws {n : Int} (h0 : 0 < n) (h1 : n < 1073741824) : Draws gAny [.int n] fun d => ∃ m, d = .int m ∧ 0 ≤ m ∧ m < n := by
  refine draws_of fun cs z hl => ?_
  unfold bAny
  simp only [wp_mSeq, initE, List.map]
  refine wp_while (I := fun k ρ => ∃ cs, ρ = [.deal cs z, .val (.int n), .un] ∧ cs.length = k ∧ k ≤ 64) ?_ (n := cs.length) ⟨cs, rfl, rfl, hl⟩
  rintro k ρ ⟨cs, rfl, rfl, hk⟩
  rcases List.eq_nil_or_concat cs with rfl | ⟨us, x, rfl⟩
  · simp [dlNe, dlZero, dlPop, dlBlend, dlSet, isSmall]
    exact ⟨by omega, fmod_range h0⟩
  · rw [List.concat_eq_append] at *
    have hx : (us ++ [x])[us.length]? = some x := by simp
    rw [List.length_append, List.length_singleton] at hk
    simp [dlNe, dlZero, dlPop, hx, isSmall]
    by_cases hz : x = 0
    · simp [hz]
      exact ⟨us.length, by omega, rfl, by omega⟩
    · simp [hz]
      have : us.length < sizeLine := Nat.lt_of_lt_of_le (show us.length < 64 by omega) (by decide)
      exact ⟨⟨this, by omega, by omega⟩, by omega, fmod_range h0, by omega⟩
theorem cutL_to {α : Type} (xs : List α) (n : Nat) : cutL xs none (some (n : Int)) = xs.take n := by
  unfold cutL
  rw [HT.sIx_none, HT.sIx_nat, List.drop_zero, Nat.sub_zero]
  rcases Nat.le_total n xs.length with h | h
  · rw [Nat.min_eq_left h]
  · rw [Nat.min_eq_right h, List.take_length, List.take_of_length_le h]
theorem cutL_from {α : Type} (xs : List α) (n : Nat) : cutL xs (some (n : Int)) none = xs.drop n := by
  unfold cutL
  rw [HT.sIx_none, HT.sIx_nat]
  rcases Nat.le_total n xs.length with h | h
  · rw [Nat.min_eq_left h]
    exact List.take_of_length_le (by simp)
  · rw [Nat.min_eq_right h, List.drop_length, List.drop_of_length_le h, List.take_nil]
theorem cutL_mid {α : Type} (xs : List α) (a b : Nat) : cutL xs (some (a : Int)) (some (b : Int)) = (xs.drop a).take (b - a) := by
  unfold cutL
  rw [HT.sIx_nat, HT.sIx_nat]
  rcases Nat.le_total a xs.length with h | h
  · rw [Nat.min_eq_left h]
    rcases Nat.le_total b xs.length with h2 | h2
    · rw [Nat.min_eq_left h2]
    · rw [Nat.min_eq_right h2, List.take_of_length_le (by simp), List.take_of_length_le (by simp; omega)]
  · rw [Nat.min_eq_right h, List.drop_length, List.drop_of_length_le h, List.take_nil, List.take_nil]
section
variable {ρ : Ev} {X : Nat → D → Ev → Prop}
@[simp] theorem wp_scrSl (i : Nat) (lo hi : Option Int) (Q : List D → Ev → Prop) : wp (scrSl i lo hi) ρ Q X = match ρ[i]? with
    | some (.scr ns) => Q (cutL (ns.map D.int) lo hi) ρ
    | _ => False := by
  unfold wp scrSl
  cases ρ[i]? with
  | none => rfl
  | some s => cases s <;> rfl
end
@[simp] theorem gNm_eq (i : Nat) (d : D) (ρ : Ev) : gNm i d ρ = some (ρ.set i (.val d)) := rfl
@[simp] theorem gTp_eq (n : Nat) (h : List D → Ev → Option Ev) (ds : List D) (ρ : Ev) : gTp n h (.tup ds) ρ = if ds.length = n then h ds ρ else none := rfl
@[simp] theorem gsCons_eq (g : Tg) (h : List D → Ev → Option Ev) (d : D) (ds : List D) (ρ : Ev) : gsCons g h (d :: ds) ρ = (g d ρ).bind (h ds) := rfl
@[simp] theorem gsNil_eq (ρ : Ev) : gsNil [] ρ = some ρ := rfl
@[simp] theorem wipeE_nil (ρ : Ev) : wipeE ρ [] = ρ := rfl
@[simp] theorem wipeE_cons (ρ : Ev) (v : Nat) (vs : List Nat) : wipeE ρ (v :: vs) = (wipeE ρ vs).set v .un := rfl
@[simp] theorem restE_nil (ρ0 ρ : Ev) : restE ρ0 ρ [] = ρ := rfl
@[simp] theorem restE_cons (ρ0 ρ : Ev) (v : Nat) (vs : List Nat) : restE ρ0 ρ (v :: vs) = (restE ρ0 ρ vs).set v (keepV ρ0[v]?) := rfl
@[simp] theorem keepV_val (d : D) : keepV (some (.val d)) = .val d := rfl
@[simp] theorem keepV_un : keepV (some .un) = .un := rfl
@[simp] theorem keepV_own (xs : List D) : keepV (some (.own xs)) = .un := rfl
theorem few {n : Nat} (h : n ≤ 1000) : n < sizeLine := Nat.lt_of_le_of_lt h (by decide)
theorem draw_gives (ns : List Int) (salt : Int) (hl : ns.length ≤ 63) : ∃ (cs : List Int) (b : Int), gDraw [.scr ns, .val (.int salt)] = .ok (.lst [.lst (cs.map D.int), .int b]) [] ∧ cs.length ≤ 48 := by
  have main : ∃ (d : D) (ρ' : Ev), gDraw [.scr ns, .val (.int salt)] = .ok d (ρ'.take 0) ∧ ∃ (cs : List Int) (b : Int), d = .lst [.lst (cs.map D.int), .int b] ∧ cs.length ≤ 48 := by
    refine run_of ?_
    unfold bDraw
    simp only [wp_mSeq, initE, wp_mSet, wp_mO]
    refine wp_lc (I := fun ρ1 ds acc ρ => ρ1 = [.scr ns, .val (.int salt), .un, .un, .un] ∧ (∃ s4, ρ = [.scr ns, .val (.int salt), .un, .un, s4]) ∧ (∃ is : List Int, ds = is.map D.int) ∧ (∃ is : List Int, acc = is.map D.int) ∧ acc.length + ds.length ≤ 48) ?_
    have e48 : cutL (List.map D.int ns) none (some 48) = (ns.take 48).map D.int := by
      rw [List.map_take]
      exact cutL_to _ 48
    simp [e48]
    refine ⟨⟨⟨_, List.map_take.symm⟩, by omega⟩, ?_, ?_⟩
    · intro d ds acc x hx y hy hl
      cases x with
      | nil => cases hx
      | cons i is =>
        cases hx
        subst hy
        rw [List.length_map, List.length_map] at hl
        simp
        exact ⟨few (by omega), ⟨is, rfl⟩, ⟨y ++ [_], by rw [List.map_append]; rfl⟩, by omega⟩
    · intro zs hl
      refine ⟨.inl (by decide), ?_⟩
      refine wp_for (I := fun ds ρ => (∃ is : List Int, ds = is.map D.int) ∧ ∃ (b : Int) (s : Sl), ρ = [.scr ns, .val (.int salt), .val (.lst (zs.map D.int)), .val (.int b), s]) ?_ ?_ ⟨⟨zs, rfl⟩, _, _, rfl⟩
      · rintro d ds ρ ⟨⟨is, e⟩, b, s, rfl⟩
        cases is with
        | nil => cases e
        | cons i is =>
          cases e
          simp [isSmall]
          exact ⟨is, rfl⟩
      · rintro ρ ⟨_, b, s, rfl⟩
        simp only [seqQ_nx, wp_mRet, wp_mEN, wp_mLst, wp_mCons, wp_mRev]
        refine wp_lc (I := fun ρ1 ds acc ρ => ρ1 = [.scr ns, .val (.int salt), .val (.lst (zs.map D.int)), .val (.int b), s] ∧ (∃ s4, ρ = [.scr ns, .val (.int salt), .val (.lst (zs.map D.int)), .val (.int b), s4]) ∧ (∃ is : List Int, ds = is.map D.int) ∧ (∃ is : List Int, acc = is.map D.int) ∧ acc.length + ds.length ≤ 48) ?_
        simp
        refine ⟨⟨⟨zs, rfl⟩, hl⟩, ?_, ?_⟩
        · intro d ds acc x hx y hy hl
          cases x with
          | nil => cases hx
          | cons i is =>
            cases hx
            subst hy
            rw [List.length_map, List.length_map] at hl
            by_cases h : (1000000000000000000 : Int) ≤ i
            · simp [h]
              exact ⟨few (by omega), ⟨is, rfl⟩, ⟨y ++ [_], by rw [List.map_append]; rfl⟩, by omega⟩
            · simp [h]
              exact ⟨⟨is, rfl⟩, ⟨y, rfl⟩, by omega⟩
        · intro zs2 hl2
          exact ⟨by decide, zs2.reverse, by rw [List.map_reverse], by rw [List.length_reverse]; exact hl2⟩
  obtain ⟨d, ρ', e, cs, b, rfl, h⟩ := main
  exact ⟨cs, b, e, h⟩
theorem atI_in {α : Type} {xs : List α} {m : Int} (h0 : 0 ≤ m) (h1 : m < xs.length) : ∃ c, atI xs m = some c ∧ c ∈ xs := by
  have hm : m.toNat < xs.length := by omega
  refine ⟨xs[m.toNat], ?_, List.getElem_mem hm⟩
  unfold atI ixN
  rw [if_pos h0, if_pos h1]
  show xs[m.toNat]? = _
  rw [List.getElem?_eq_getElem hm]
theorem of_draws {xs : List D} (h0 : xs ≠ []) (h1 : xs.length < 1073741824) : Draws gOf [.lst xs] fun d => d ∈ xs := by
  have hp : 0 < xs.length := List.length_pos_iff.mpr h0
  refine draws_of fun cs z hl => ?_
  unfold bOf
  simp [initE]
  refine wp_draw (any_draws (n := xs.length) (by omega) (by omega)) rfl hl ?_
  rintro _ cs2 z2 hl2 ⟨m, rfl, m0, m1⟩
  obtain ⟨c, e, hc⟩ := atI_in m0 m1
  simp
  exact ⟨c, e, hc, hl2⟩
theorem ofT_draws {xs : List D} (h0 : xs ≠ []) (h1 : xs.length < 1073741824) : Draws gOf [.tup xs] fun d => d ∈ xs := by
  have hp : 0 < xs.length := List.length_pos_iff.mpr h0
  refine draws_of fun cs z hl => ?_
  unfold bOf
  simp [initE]
  refine wp_draw (any_draws (n := xs.length) (by omega) (by omega)) rfl hl ?_
  rintro _ cs2 z2 hl2 ⟨m, rfl, m0, m1⟩
  obtain ⟨c, e, hc⟩ := atI_in m0 m1
  simp
  exact ⟨c, e, hc, hl2⟩
theorem ofS_draws {s : List Nat} (h0 : s ≠ []) (h1 : s.length < 1073741824) : Draws gOf [.str s] fun d => ∃ c ∈ s, d = .str [c] := by
  have hp : 0 < s.length := List.length_pos_iff.mpr h0
  refine draws_of fun cs z hl => ?_
  unfold bOf
  simp [initE]
  refine wp_draw (any_draws (n := s.length) (by omega) (by omega)) rfl hl ?_
  rintro _ cs2 z2 hl2 ⟨m, rfl, m0, m1⟩
  obtain ⟨c, e, hc⟩ := atI_in m0 m1
  simp
  exact ⟨c, e, hc, hl2⟩
theorem dep_mem : ∀ {xs : List D} {x : D}, x ∈ xs → x.dep ≤ depL xs
  | y :: ys, x, h => by
    rcases List.mem_cons.mp h with rfl | h
    · exact Nat.le_max_left _ _
    · exact Nat.le_trans (dep_mem h) (Nat.le_max_right _ _)
theorem same_refl : ∀ (k : Nat) (d : D), d.dep < k → gSame k [.val d, .val d] = .ok (.bl true) []
  | 0, _, h => absurd h (Nat.not_lt_zero _)
  | k + 1, d, h => by
    refine run_eq ?_
    unfold bSame
    cases d with
    | non => simp [initE, isTy, D.ty]
    | bl b => cases b <;> simp [initE, isTy, D.ty]
    | int i => simp [initE, isTy, D.ty]
    | str s => simp [initE, isTy, D.ty]
    | lst xs =>
      simp [initE, isTy, D.ty]
      refine wp_lc (I := fun ρ1 ds acc ρ => ρ1 = [.val (.lst xs), .val (.lst xs), .un, .un] ∧ (∃ s2 s3, ρ = [.val (.lst xs), .val (.lst xs), s2, s3]) ∧ acc = [] ∧ ∃ ys, ds = zipD ys ys ∧ ∀ y ∈ ys, y ∈ xs) ?_
      simp
      refine ⟨⟨xs, rfl, fun _ h => h⟩, ?_, by rintro zs ρ2 _ _ rfl rfl _ _ _; rfl⟩
      rintro d ds acc ρ s2 s3 rfl rfl ys e hy
      cases ys with
      | nil => cases e
      | cons y ys =>
        cases e
        have ey := same_refl k y (Nat.lt_of_le_of_lt (dep_mem (hy y (List.mem_cons_self ..))) (Nat.lt_of_succ_lt_succ h))
        simp [ey]
        exact ⟨ys, rfl, fun z hz => hy z (List.mem_cons_of_mem _ hz)⟩
    | tup xs =>
      simp [initE, isTy, D.ty]
      refine wp_lc (I := fun ρ1 ds acc ρ => ρ1 = [.val (.tup xs), .val (.tup xs), .un, .un] ∧ (∃ s2 s3, ρ = [.val (.tup xs), .val (.tup xs), s2, s3]) ∧ acc = [] ∧ ∃ ys, ds = zipD ys ys ∧ ∀ y ∈ ys, y ∈ xs) ?_
      simp
      refine ⟨⟨xs, rfl, fun _ h => h⟩, ?_, by rintro zs ρ2 _ _ rfl rfl _ _ _; rfl⟩
      rintro d ds acc ρ s2 s3 rfl rfl ys e hy
      cases ys with
      | nil => cases e
      | cons y ys =>
        cases e
        have ey := same_refl k y (Nat.lt_of_le_of_lt (dep_mem (hy y (List.mem_cons_self ..))) (Nat.lt_of_succ_lt_succ h))
        simp [ey]
        exact ⟨ys, rfl, fun z hz => hy z (List.mem_cons_of_mem _ hz)⟩
theorem asIs_map : ∀ cs : List Int, mDeal.asIs (cs.map D.int) = some cs
  | [] => rfl
  | c :: cs => by
    show (mDeal.asIs (cs.map D.int)).map (c :: ·) = _
    rw [asIs_map cs]
    rfl
theorem wp_deal {ρ : Ev} {X : Nat → D → Ev → Prop} {i j : Nat} {n : Int} {Q : Out → Ev → Prop} {ns : List Int} (e : ρ[j]? = some (.scr ns)) (hl : ns.length ≤ 63) (k : ∀ cs b, cs.length ≤ 64 → Q .nx (ρ.set i (.deal cs b))) : wp (mDeal i gDraw j n) ρ Q X := by
  obtain ⟨cs, b, e2, h⟩ := draw_gives ns n hl
  have e3 : mDeal i gDraw j n ρ = .ok .nx (ρ.set i (.deal cs b)) := by
    unfold mDeal
    rw [e]
    dsimp only
    rw [e2]
    dsimp only
    rw [asIs_map]
  rw [wp_fn _ _ _ _ e3]
  exact k cs b (Nat.le_trans h (by decide))
theorem wp_lc2 {ρ : Ev} {X : Nat → D → Ev → Prop} {vs : List Nat} {g : Tg} {tt : M Bool} {te : M D} {ti : M (List D)} {Q : List D → Ev → Prop} (DS : List D) (R1 : Ev) (I : List D → List D → Ev → Prop)
    (ht : wp ti ρ (fun ds ρ1 => ds = DS ∧ ρ1 = R1) X) (h0 : I DS [] R1)
    (step : ∀ d ds acc ρ, I (d :: ds) acc ρ → ∃ ρ2, g d (wipeE ρ vs) = some ρ2 ∧ wp tt ρ2 (fun b ρ3 => if b then wp te ρ3 (fun y ρ4 => acc.length < sizeLine ∧ I ds (acc ++ [y]) ρ4) XF else I ds acc ρ3) XF)
    (done : ∀ zs ρ2, I [] zs ρ2 → Q zs (restE R1 ρ2 vs)) : wp (mLc vs g tt te ti) ρ Q X :=
  wp_lc (I := fun _ => I) (wp_imp ht fun ds ρ1 ⟨e1, e2⟩ => by
    subst e1 e2
    exact ⟨h0, step, done⟩)
@[simp] theorem sharedO_nm (ρ : Ev) (i : Nat) : sharedO ρ (.nm i) = match ρ[i]? with
    | some (.val _) => true
    | _ => false := rfl
end Dy


namespace Lw
open PySem PySem.Spec PyProof.Rows L2 Dy
def top (i : Nat) : Stmt := PySem.Challenge.pw_throughviews_k07_whole_tokens_of_any_tex.main.body.getD i (.Pass ⟨0, 0, 0, 0⟩)
def lit0s : List Nat := [32, 10, 9]
theorem lit0 : Lit " \n\t" lit0s := ⟨by rfl, by decide +kernel⟩
def lit1s : List Nat := [34]
theorem lit1 : Lit "\"" lit1s := ⟨by rfl, by decide +kernel⟩
def lit2s : List Nat := [92]
theorem lit2 : Lit "\\" lit2s := ⟨by rfl, by decide +kernel⟩
def lit3s : List Nat := [123, 125, 91, 93, 61, 44, 46, 32, 10, 9]
theorem lit3 : Lit "{}[]=,. \n\t" lit3s := ⟨by rfl, by decide +kernel⟩
def lit4s : List Nat := [123, 125, 91, 93, 61, 44, 46, 32, 10, 9, 34]
theorem lit4 : Lit "{}[]=,. \n\t\"" lit4s := ⟨by rfl, by decide +kernel⟩
def lit5s : List Nat := [10]
theorem lit5 : Lit "\n" lit5s := ⟨by rfl, by decide +kernel⟩
def lit6s : List Nat := [32]
theorem lit6 : Lit " " lit6s := ⟨by rfl, by decide +kernel⟩
def lit7s : List Nat := []
theorem lit7 : Lit "" lit7s := ⟨by rfl, by decide +kernel⟩
def lit8s : List Nat := [123, 125, 91, 93, 61, 44, 46]
theorem lit8 : Lit "{}[]=,." lit8s := ⟨by rfl, by decide +kernel⟩
def lit9s : List Nat := [32, 9]
theorem lit9 : Lit " \t" lit9s := ⟨by rfl, by decide +kernel⟩
def lit10s : List Nat := [32, 32]
theorem lit10 : Lit "  " lit10s := ⟨by rfl, by decide +kernel⟩
def lit11s : List Nat := [32, 32, 10]
theorem lit11 : Lit "  \n" lit11s := ⟨by rfl, by decide +kernel⟩
def lit12s : List Nat := [9]
theorem lit12 : Lit "\t" lit12s := ⟨by rfl, by decide +kernel⟩
def lit13s : List Nat := [9, 32]
theorem lit13 : Lit "\t " lit13s := ⟨by rfl, by decide +kernel⟩
def lit14s : List Nat := [123]
theorem lit14 : Lit "{" lit14s := ⟨by rfl, by decide +kernel⟩
def lit15s : List Nat := [41]
theorem lit15 : Lit ")" lit15s := ⟨by rfl, by decide +kernel⟩
def lit16s : List Nat := [40]
theorem lit16 : Lit "(" lit16s := ⟨by rfl, by decide +kernel⟩
def lit17s : List Nat := [92, 92]
theorem lit17 : Lit "\\\\" lit17s := ⟨by rfl, by decide +kernel⟩
def lit18s : List Nat := [101, 110, 100]
theorem lit18 : Lit "end" lit18s := ⟨by rfl, by decide +kernel⟩
def lit19s : List Nat := [34, 10, 34]
theorem lit19 : Lit "\"\n\"" lit19s := ⟨by rfl, by decide +kernel⟩
def lit20s : List Nat := [34, 123, 44, 125, 34]
theorem lit20 : Lit "\"{,}\"" lit20s := ⟨by rfl, by decide +kernel⟩
def lit21s : List Nat := [65, 49]
theorem lit21 : Lit "A1" lit21s := ⟨by rfl, by decide +kernel⟩
def lit22s : List Nat := [35]
theorem lit22 : Lit "#" lit22s := ⟨by rfl, by decide +kernel⟩
def lit23s : List Nat := [126]
theorem lit23 : Lit "~" lit23s := ⟨by rfl, by decide +kernel⟩
def lit24s : List Nat := [120, 46, 121]
theorem lit24 : Lit "x.y" lit24s := ⟨by rfl, by decide +kernel⟩
def lit25s : List Nat := [39]
theorem lit25 : Lit "'" lit25s := ⟨by rfl, by decide +kernel⟩
def lit26s : List Nat := [34, 92, 92, 34]
theorem lit26 : Lit "\"\\\\\"" lit26s := ⟨by rfl, by decide +kernel⟩
def lit27s : List Nat := [34, 92, 34, 34]
theorem lit27 : Lit "\"\\\"\"" lit27s := ⟨by rfl, by decide +kernel⟩
def lit28s : List Nat := [34, 97, 32, 98, 34]
theorem lit28 : Lit "\"a b\"" lit28s := ⟨by rfl, by decide +kernel⟩
def lit29s : List Nat := [34, 34]
theorem lit29 : Lit "\"\"" lit29s := ⟨by rfl, by decide +kernel⟩
def lit30s : List Nat := [46]
theorem lit30 : Lit "." lit30s := ⟨by rfl, by decide +kernel⟩
def lit31s : List Nat := [44]
theorem lit31 : Lit "," lit31s := ⟨by rfl, by decide +kernel⟩
def lit32s : List Nat := [61]
theorem lit32 : Lit "=" lit32s := ⟨by rfl, by decide +kernel⟩
def lit33s : List Nat := [93]
theorem lit33 : Lit "]" lit33s := ⟨by rfl, by decide +kernel⟩
def lit34s : List Nat := [91]
theorem lit34 : Lit "[" lit34s := ⟨by rfl, by decide +kernel⟩
def lit35s : List Nat := [125]
theorem lit35 : Lit "}" lit35s := ⟨by rfl, by decide +kernel⟩
def lit36s : List Nat := [45, 53]
theorem lit36 : Lit "-5" lit36s := ⟨by rfl, by decide +kernel⟩
def lit37s : List Nat := [49, 50]
theorem lit37 : Lit "12" lit37s := ⟨by rfl, by decide +kernel⟩
def lit38s : List Nat := [119, 104, 101, 114, 101]
theorem lit38 : Lit "where" lit38s := ⟨by rfl, by decide +kernel⟩
def lit39s : List Nat := [97]
theorem lit39 : Lit "a" lit39s := ⟨by rfl, by decide +kernel⟩
def lit40s : List Nat := [46, 46]
theorem lit40 : Lit ".." lit40s := ⟨by rfl, by decide +kernel⟩
def lit41s : List Nat := [34, 92]
theorem lit41 : Lit "\"\\" lit41s := ⟨by rfl, by decide +kernel⟩
def lit42s : List Nat := [34, 34, 34, 34]
theorem lit42 : Lit "\"\"\"\"" lit42s := ⟨by rfl, by decide +kernel⟩
def lit43s : List Nat := [98]
theorem lit43 : Lit "b" lit43s := ⟨by rfl, by decide +kernel⟩
def lit44s : List Nat := [97, 92]
theorem lit44 : Lit "a\\" lit44s := ⟨by rfl, by decide +kernel⟩
def lit45s : List Nat := [97, 92, 32, 98]
theorem lit45 : Lit "a\\ b" lit45s := ⟨by rfl, by decide +kernel⟩
def lit46s : List Nat := [99]
theorem lit46 : Lit "c" lit46s := ⟨by rfl, by decide +kernel⟩
def lit47s : List Nat := [97, 46, 98, 61, 99]
theorem lit47 : Lit "a.b=c" lit47s := ⟨by rfl, by decide +kernel⟩
def lit48s : List Nat := [120]
theorem lit48 : Lit "x" lit48s := ⟨by rfl, by decide +kernel⟩
def lit49s : List Nat := [34, 92, 34, 34, 32, 120]
theorem lit49 : Lit "\"\\\"\" x" lit49s := ⟨by rfl, by decide +kernel⟩
def lit50s : List Nat := [34, 97, 92]
theorem lit50 : Lit "\"a\\" lit50s := ⟨by rfl, by decide +kernel⟩
def lit51s : List Nat := [34, 97]
theorem lit51 : Lit "\"a" lit51s := ⟨by rfl, by decide +kernel⟩
def lit52s : List Nat := [34, 98, 34]
theorem lit52 : Lit "\"b\"" lit52s := ⟨by rfl, by decide +kernel⟩
def lit53s : List Nat := [97, 34, 98, 34, 99]
theorem lit53 : Lit "a\"b\"c" lit53s := ⟨by rfl, by decide +kernel⟩
abbrev s_quoted_end : Stmt := top 5
abbrev s_run_end : Stmt := top 6
abbrev s_token_places : Stmt := top 7
abbrev s_tokens_of : Stmt := top 8
abbrev s__law_draw : Stmt := top 10
abbrev s__law_any : Stmt := top 11
abbrev s__law_of : Stmt := top 12
abbrev s__law_same : Stmt := top 13
abbrev s__law_t_tokens : Stmt := top 14
abbrev s__law_t_wild : Stmt := top 15
abbrev s__law_some_text : Stmt := top 16
abbrev s_law : Stmt := top 17
abbrev a_quoted_end (K : PySem.W.Frag) : Addr := He.ga K "quoted_end"
abbrev d_quoted_end (K : PySem.W.Frag) : FuncData := fdOf K (a_quoted_end K)
abbrev a_run_end (K : PySem.W.Frag) : Addr := He.ga K "run_end"
abbrev d_run_end (K : PySem.W.Frag) : FuncData := fdOf K (a_run_end K)
abbrev a_token_places (K : PySem.W.Frag) : Addr := He.ga K "token_places"
abbrev d_token_places (K : PySem.W.Frag) : FuncData := fdOf K (a_token_places K)
abbrev a_tokens_of (K : PySem.W.Frag) : Addr := He.ga K "tokens_of"
abbrev d_tokens_of (K : PySem.W.Frag) : FuncData := fdOf K (a_tokens_of K)
abbrev a__law_draw (K : PySem.W.Frag) : Addr := He.ga K "_law_draw"
abbrev d__law_draw (K : PySem.W.Frag) : FuncData := fdOf K (a__law_draw K)
abbrev a__law_any (K : PySem.W.Frag) : Addr := He.ga K "_law_any"
abbrev d__law_any (K : PySem.W.Frag) : FuncData := fdOf K (a__law_any K)
abbrev a__law_of (K : PySem.W.Frag) : Addr := He.ga K "_law_of"
abbrev d__law_of (K : PySem.W.Frag) : FuncData := fdOf K (a__law_of K)
abbrev a__law_same (K : PySem.W.Frag) : Addr := He.ga K "_law_same"
abbrev d__law_same (K : PySem.W.Frag) : FuncData := fdOf K (a__law_same K)
abbrev a__law_t_tokens (K : PySem.W.Frag) : Addr := He.ga K "_law_t_tokens"
abbrev d__law_t_tokens (K : PySem.W.Frag) : FuncData := fdOf K (a__law_t_tokens K)
abbrev a__law_t_wild (K : PySem.W.Frag) : Addr := He.ga K "_law_t_wild"
abbrev d__law_t_wild (K : PySem.W.Frag) : FuncData := fdOf K (a__law_t_wild K)
abbrev a__law_some_text (K : PySem.W.Frag) : Addr := He.ga K "_law_some_text"
abbrev d__law_some_text (K : PySem.W.Frag) : FuncData := fdOf K (a__law_some_text K)
abbrev a_law (K : PySem.W.Frag) : Addr := He.ga K "law"
abbrev d_law (K : PySem.W.Frag) : FuncData := fdOf K (a_law K)
def k_BLANKS : D := (.str [32, 10, 9])
def k_SIGNS : D := (.str [123, 125, 91, 93, 61, 44, 46])
def k_QUOTE : D := (.str [34])
def k_SLASH : D := (.str [92])
structure Txt (K : PySem.W.Frag) (mg : Str → Option Value) : Prop where
  F_quoted_end : L2.Fun K "quoted_end" "quoted_end" s_quoted_end (a_quoted_end K) (d_quoted_end K)
  g_quoted_end : mg "quoted_end" = some (.ref (a_quoted_end K))
  F_run_end : L2.Fun K "run_end" "run_end" s_run_end (a_run_end K) (d_run_end K)
  g_run_end : mg "run_end" = some (.ref (a_run_end K))
  F_token_places : L2.Fun K "token_places" "token_places" s_token_places (a_token_places K) (d_token_places K)
  g_token_places : mg "token_places" = some (.ref (a_token_places K))
  F_tokens_of : L2.Fun K "tokens_of" "tokens_of" s_tokens_of (a_tokens_of K) (d_tokens_of K)
  g_tokens_of : mg "tokens_of" = some (.ref (a_tokens_of K))
  F__law_draw : L2.Fun K "_law_draw" "_law_draw" s__law_draw (a__law_draw K) (d__law_draw K)
  g__law_draw : mg "_law_draw" = some (.ref (a__law_draw K))
  F__law_any : L2.Fun K "_law_any" "_law_any" s__law_any (a__law_any K) (d__law_any K)
  g__law_any : mg "_law_any" = some (.ref (a__law_any K))
  F__law_of : L2.Fun K "_law_of" "_law_of" s__law_of (a__law_of K) (d__law_of K)
  g__law_of : mg "_law_of" = some (.ref (a__law_of K))
  F__law_same : L2.Fun K "_law_same" "_law_same" s__law_same (a__law_same K) (d__law_same K)
  g__law_same : mg "_law_same" = some (.ref (a__law_same K))
  F__law_t_tokens : L2.Fun K "_law_t_tokens" "_law_t_tokens" s__law_t_tokens (a__law_t_tokens K) (d__law_t_tokens K)
  g__law_t_tokens : mg "_law_t_tokens" = some (.ref (a__law_t_tokens K))
  F__law_t_wild : L2.Fun K "_law_t_wild" "_law_t_wild" s__law_t_wild (a__law_t_wild K) (d__law_t_wild K)
  g__law_t_wild : mg "_law_t_wild" = some (.ref (a__law_t_wild K))
  F__law_some_text : L2.Fun K "_law_some_text" "_law_some_text" s__law_some_text (a__law_some_text K) (d__law_some_text K)
  g__law_some_text : mg "_law_some_text" = some (.ref (a__law_some_text K))
  F_law : L2.Fun K "law" "law" s_law (a_law K) (d_law K)
  g_law : mg "law" = some (.ref (a_law K))
  n_abs : mg "abs" = none
  n_bool : mg "bool" = none
  n_int : mg "int" = none
  n_isinstance : mg "isinstance" = none
  n_len : mg "len" = none
  n_list : mg "list" = none
  n_min : mg "min" = none
  n_range : mg "range" = none
  n_str : mg "str" = none
  n_tuple : mg "tuple" = none
  n_zip : mg "zip" = none
  c_BLANKS : CstD K mg "BLANKS" k_BLANKS
  c_SIGNS : CstD K mg "SIGNS" k_SIGNS
  c_QUOTE : CstD K mg "QUOTE" k_QUOTE
  c_SLASH : CstD K mg "SLASH" k_SLASH
section
variable {P : Program} {w : World} {K : PySem.W.Frag} {mg : Str → Option Value} {base : Heap} {xc : Nat → Value → Prop}
theorem sc_quoted_end : FnScope ["text", "at"] ["text", "at"] (defScope s_quoted_end) := ⟨rfl, rfl, rfl, by decide +kernel, rfl, by decide +kernel, by decide +kernel⟩
theorem bi_quoted_end (T : Txt K mg) : Binds K (d_quoted_end K) ["text", "at"] [] := T.F_quoted_end.binds (ps := ["text", "at"]) fun _ _ _ _ _ _ us hl => match us, hl with | [_, _], _ => rfl
noncomputable def b_quoted_end : M Out := (mSeq (mAug 1 dAugAdd (mSh (M.ret (.int 1))))
    (mSeq (mWhile ((mAnd (mTest (mBin dLt (mNm 1) (mSh (mCall dLen (mCons (mNm 0) (M.ret [])))))) (mTest (mBin dNe (mSh (mBin dIx (mNm 0) (mNm 1))) (mSh (M.ret k_QUOTE)))))) (mAug 1 dAugAdd (mSh (mIf (mTest (mBin dEq (mSh (mBin dIx (mNm 0) (mNm 1))) (mSh (M.ret k_SLASH)))) (M.ret (.int 2)) (M.ret (.int 1))))))
    (mRet (mCall dMin2 (mCons (mSh (mBin dAdd (mNm 1) (mSh (M.ret (.int 1))))) (mCons (mSh (mCall dLen (mCons (mNm 0) (M.ret [])))) (M.ret [])))))))
noncomputable def F_quoted_end : Fd := cutF 0 (bodyF 2 b_quoted_end)
theorem ok_quoted_end (T : Txt K mg) : FnOk P w K mg base (L2.CX P w) 1 (a_quoted_end K) (d_quoted_end K) ["text", "at"] (spD K xc [] 2 F_quoted_end) := by
  refine ok_cut 0 (by decide) (fn_D T.F_quoted_end sc_quoted_end (by decide) fun cdv A outer s H E hr => ?_)
  have ok := ccOf_ok (P := P) (w := w) (K := K) (mg := mg) (base := base) (xc := xc) (an := []) (outer := outer) (H := H) (E := E) sc_quoted_end hr
  have hp := ccOf_own (P := P) (w := w) (K := K) (mg := mg) (base := base) (xc := xc) (an := []) (N := ["text", "at"]) (qual := "quoted_end") (scope := defScope s_quoted_end) (f := (a_quoted_end K)) (cd := cdv) (A := A) (outer := outer) (s := s) (H := H) (E := E)
  have hx := ccOf_pass (P := P) (w := w) (K := K) (mg := mg) (base := base) (xc := xc) (an := []) (N := ["text", "at"]) (qual := "quoted_end") (scope := defScope s_quoted_end) (f := (a_quoted_end K)) (cd := cdv) (A := A) (outer := outer) (s := s) (H := H) (E := E)
  exact (jb_cons (js_augAdd ok 1 (jo_e je_int))
    (jb_cons (js_while hp (jt_w (jw_and (jt_cmp (fun _ => op_ltA) d_lt (jo_nm 1) (jo_e (je_callB (fun κ => by first | exact call_lenA | (rw [← ok.kk κ]; exact call_lenA)) d_len (fun _ => rfl) (fun _ => T.n_len) PySem.boot_len (ja_cons (jo_nm 0) ja_nil)))) (jw_and1 (jt_cmp (fun κ => by rw [← ok.kk κ]; exact op_neX (ok.hu κ)) d_ne (jo_e (je_ix ok.kk (jo_nm 0) (jo_nm 1))) (jo_e (je_cst T.c_QUOTE)))))) (jb_one (js_augAdd ok 1 (jo_e (je_if (jt_cmp (fun κ => by rw [← ok.kk κ]; exact op_eqX (ok.hu κ)) d_eq (jo_e (je_ix ok.kk (jo_nm 0) (jo_nm 1))) (jo_e (je_cst T.c_SLASH))) je_int je_int)))))
    (jb_one (js_ret (je_callB (fun κ => call_min2 (ok.calm κ)) d_min2 (fun _ => rfl) (fun _ => T.n_min) (by decide +kernel) (ja_cons (jo_e (je_add ok.kk (jo_nm 1) (jo_e je_int))) (ja_cons (jo_e (je_callB (fun κ => by first | exact call_lenA | (rw [← ok.kk κ]; exact call_lenA)) d_len (fun _ => rfl) (fun _ => T.n_len) PySem.boot_len (ja_cons (jo_nm 0) ja_nil))) ja_nil)))))))

theorem sc_run_end : FnScope ["text", "at"] ["text", "at"] (defScope s_run_end) := ⟨rfl, rfl, rfl, by decide +kernel, rfl, by decide +kernel, by decide +kernel⟩
theorem bi_run_end (T : Txt K mg) : Binds K (d_run_end K) ["text", "at"] [] := T.F_run_end.binds (ps := ["text", "at"]) fun _ _ _ _ _ _ us hl => match us, hl with | [_, _], _ => rfl
noncomputable def b_run_end : M Out := (mSeq (mWhile ((mAnd (mTest (mBin dLt (mNm 1) (mSh (mCall dLen (mCons (mNm 0) (M.ret [])))))) (mAnd (mTest (mBin dNotIn (mSh (mBin dIx (mNm 0) (mNm 1))) (mSh (M.ret k_BLANKS)))) (mAnd (mTest (mBin dNotIn (mSh (mBin dIx (mNm 0) (mNm 1))) (mSh (M.ret k_SIGNS)))) (mTest (mBin dNe (mSh (mBin dIx (mNm 0) (mNm 1))) (mSh (M.ret k_QUOTE)))))))) (mAug 1 dAugAdd (mSh (M.ret (.int 1)))))
    (mRet (tkSl [] 1)))
noncomputable def F_run_end : Fd := cutF 0 (bodyF 2 b_run_end)
theorem ok_run_end (T : Txt K mg) : FnOk P w K mg base (L2.CX P w) 1 (a_run_end K) (d_run_end K) ["text", "at"] (spD K xc [] 2 F_run_end) := by
  refine ok_cut 0 (by decide) (fn_D T.F_run_end sc_run_end (by decide) fun cdv A outer s H E hr => ?_)
  have ok := ccOf_ok (P := P) (w := w) (K := K) (mg := mg) (base := base) (xc := xc) (an := []) (outer := outer) (H := H) (E := E) sc_run_end hr
  have hp := ccOf_own (P := P) (w := w) (K := K) (mg := mg) (base := base) (xc := xc) (an := []) (N := ["text", "at"]) (qual := "run_end") (scope := defScope s_run_end) (f := (a_run_end K)) (cd := cdv) (A := A) (outer := outer) (s := s) (H := H) (E := E)
  have hx := ccOf_pass (P := P) (w := w) (K := K) (mg := mg) (base := base) (xc := xc) (an := []) (N := ["text", "at"]) (qual := "run_end") (scope := defScope s_run_end) (f := (a_run_end K)) (cd := cdv) (A := A) (outer := outer) (s := s) (H := H) (E := E)
  exact (jb_cons (js_while hp (jt_w (jw_and (jt_cmp (fun _ => op_ltA) d_lt (jo_nm 1) (jo_e (je_callB (fun κ => by first | exact call_lenA | (rw [← ok.kk κ]; exact call_lenA)) d_len (fun _ => rfl) (fun _ => T.n_len) PySem.boot_len (ja_cons (jo_nm 0) ja_nil)))) (jw_and (jt_cmp (fun κ => by rw [← ok.kk κ]; exact op_notInA) d_notIn (jo_e (je_ix ok.kk (jo_nm 0) (jo_nm 1))) (jo_e (je_cst T.c_BLANKS))) (jw_and (jt_cmp (fun κ => by rw [← ok.kk κ]; exact op_notInA) d_notIn (jo_e (je_ix ok.kk (jo_nm 0) (jo_nm 1))) (jo_e (je_cst T.c_SIGNS))) (jw_and1 (jt_cmp (fun κ => by rw [← ok.kk κ]; exact op_neX (ok.hu κ)) d_ne (jo_e (je_ix ok.kk (jo_nm 0) (jo_nm 1))) (jo_e (je_cst T.c_QUOTE)))))))) (jb_one (js_augAdd ok 1 (jo_e je_int))))
    (jb_one (js_ret (je_nm 1))))

theorem sc_token_places : FnScope ["text", "found", "at", "end"] ["text"] (defScope s_token_places) := ⟨rfl, rfl, rfl, by decide +kernel, rfl, by decide +kernel, by decide +kernel⟩
theorem bi_token_places (T : Txt K mg) : Binds K (d_token_places K) ["text"] [] := T.F_token_places.binds (ps := ["text"]) fun _ _ _ _ _ _ us hl => match us, hl with | [_], _ => rfl
noncomputable def b_token_places : M Out := (mSeq (mPar 1 2 (mO (mLst (M.ret []))) (mV (M.ret (.int 0))))
    (mSeq (mWhile (mTest (mBin dLt (mNm 2) (mSh (mCall dLen (mCons (mNm 0) (M.ret [])))))) (mIf (mTest (mBin dIn (mSh (mBin dIx (mNm 0) (mNm 2))) (mSh (M.ret k_BLANKS)))) (mAug 2 dAugAdd (mSh (M.ret (.int 1)))) (mSeq (mSet 3 (mV (mBin dAdd (mNm 2) (mSh (M.ret (.int 1))))))
    (mSeq (mIf (mTest (mBin dEq (mSh (mBin dIx (mNm 0) (mNm 2))) (mSh (M.ret k_QUOTE)))) (mSet 3 (mV (mCallA F_quoted_end (mCons (mNm 0) (mCons (mNm 2) (M.ret [])))))) (mIf (mTest (mBin dNotIn (mSh (mBin dIx (mNm 0) (mNm 2))) (mSh (M.ret k_SIGNS)))) (mSet 3 (mV (mCallA F_run_end (mCons (mNm 0) (mCons (mNm 2) (M.ret [])))))) mNx))
    (mSeq (mDrop (mAppend 1 (mTup (mCons (tkSl [] 2) (mCons (tkSl [] 3) (M.ret []))))))
    (mSet 2 (mV (tkSl [] 3))))))))
    (mRet (tkSl [] 1))))
noncomputable def F_token_places : Fd := cutF 0 (bodyF 4 b_token_places)
theorem ok_token_places (T : Txt K mg) : FnOk P w K mg base (L2.CX P w) 2 (a_token_places K) (d_token_places K) ["text"] (spD K xc [] 1 F_token_places) := by
  refine ok_cut 0 (by decide) (fn_D T.F_token_places sc_token_places (by decide) fun cdv A outer s H E hr => ?_)
  have ok := ccOf_ok (P := P) (w := w) (K := K) (mg := mg) (base := base) (xc := xc) (an := []) (outer := outer) (H := H) (E := E) sc_token_places hr
  have hp := ccOf_own (P := P) (w := w) (K := K) (mg := mg) (base := base) (xc := xc) (an := []) (N := ["text", "found", "at", "end"]) (qual := "token_places") (scope := defScope s_token_places) (f := (a_token_places K)) (cd := cdv) (A := A) (outer := outer) (s := s) (H := H) (E := E)
  have hx := ccOf_pass (P := P) (w := w) (K := K) (mg := mg) (base := base) (xc := xc) (an := []) (N := ["text", "found", "at", "end"]) (qual := "token_places") (scope := defScope s_token_places) (f := (a_token_places K)) (cd := cdv) (A := A) (outer := outer) (s := s) (H := H) (E := E)
  exact (jb_cons (js_par ok 1 2 (jv_n (jn_lst jl_nil)) (jv_e je_int))
    (jb_cons (js_while hp (jt_cmp (fun _ => op_ltA) d_lt (jo_nm 2) (jo_e (je_callB (fun κ => by first | exact call_lenA | (rw [← ok.kk κ]; exact call_lenA)) d_len (fun _ => rfl) (fun _ => T.n_len) PySem.boot_len (ja_cons (jo_nm 0) ja_nil)))) (jb_one (js_if (jt_cmp (fun κ => by rw [← ok.kk κ]; exact op_inA) d_in (jo_e (je_ix ok.kk (jo_nm 0) (jo_nm 2))) (jo_e (je_cst T.c_BLANKS))) (jb_one (js_augAdd ok 2 (jo_e je_int))) (jb_cons (js_set ok 3 (jv_e (je_add ok.kk (jo_nm 2) (jo_e je_int))))
    (jb_cons (js_if (jt_cmp (fun κ => by rw [← ok.kk κ]; exact op_eqX (ok.hu κ)) d_eq (jo_e (je_ix ok.kk (jo_nm 0) (jo_nm 2))) (jo_e (je_cst T.c_QUOTE))) (jb_one (js_set ok 3 (jv_e (je_call hx (fun _ => (ok_quoted_end T)) (fun _ => (hr.mono (by decide))) (fun _ => T.g_quoted_end) (fun _ => T.F_quoted_end.kp) (fun _ => bi_quoted_end T) (ja_cons (jo_nm 0) (ja_cons (jo_nm 2) ja_nil)) (mCons_len (mCons_len ret_len)))))) (jb_one (js_if (jt_cmp (fun κ => by rw [← ok.kk κ]; exact op_notInA) d_notIn (jo_e (je_ix ok.kk (jo_nm 0) (jo_nm 2))) (jo_e (je_cst T.c_SIGNS))) (jb_one (js_set ok 3 (jv_e (je_call hx (fun _ => (ok_run_end T)) (fun _ => (hr.mono (by decide))) (fun _ => T.g_run_end) (fun _ => T.F_run_end.kp) (fun _ => bi_run_end T) (ja_cons (jo_nm 0) (ja_cons (jo_nm 2) ja_nil)) (mCons_len (mCons_len ret_len)))))) jb_nil)))
    (jb_cons (js_expr (je_append ok 1 (je_tup (jl_cons (je_nm 2) (jl_cons (je_nm 3) jl_nil)))))
    (jb_one (js_set ok 2 (jv_e (je_nm 3))))))))))
    (jb_one (js_ret (je_nm 1)))))

theorem sc_tokens_of : FnScope ["text", "at", "end"] ["text"] (defScope s_tokens_of) := ⟨rfl, rfl, rfl, by decide +kernel, rfl, by decide +kernel, by decide +kernel⟩
theorem bi_tokens_of (T : Txt K mg) : Binds K (d_tokens_of K) ["text"] [] := T.F_tokens_of.binds (ps := ["text"]) fun _ _ _ _ _ _ us hl => match us, hl with | [_], _ => rfl
theorem kw_tokens_of (T : Txt K mg) : KwBinds K (d_tokens_of K) ["text"] := kw_binds T.F_tokens_of (ps := ["text"]) fun _ _ _ _ _ _ us hl => match us, hl with | [_], _ => rfl
noncomputable def b_tokens_of : M Out := (mRet (mEN (mLc [1, 2] (gTp 2 (gsCons (gNm 1) (gsCons (gNm 2) gsNil))) (M.ret true) (mSl (mNm 0) (mPart (mNm 1)) (mPart (mNm 2))) (mItems (mCallA F_token_places (mCons (mNm 0) (M.ret [])))))))
noncomputable def F_tokens_of : Fd := cutF 0 (bodyF 3 b_tokens_of)
theorem ok_tokens_of (T : Txt K mg) : FnOk P w K mg base (L2.CX P w) 3 (a_tokens_of K) (d_tokens_of K) ["text"] (spD K xc [] 1 F_tokens_of) := by
  refine ok_cut 0 (by decide) (fn_D T.F_tokens_of sc_tokens_of (by decide) fun cdv A outer s H E hr => ?_)
  have ok := ccOf_ok (P := P) (w := w) (K := K) (mg := mg) (base := base) (xc := xc) (an := []) (outer := outer) (H := H) (E := E) sc_tokens_of hr
  have hp := ccOf_own (P := P) (w := w) (K := K) (mg := mg) (base := base) (xc := xc) (an := []) (N := ["text", "at", "end"]) (qual := "tokens_of") (scope := defScope s_tokens_of) (f := (a_tokens_of K)) (cd := cdv) (A := A) (outer := outer) (s := s) (H := H) (E := E)
  have hx := ccOf_pass (P := P) (w := w) (K := K) (mg := mg) (base := base) (xc := xc) (an := []) (N := ["text", "at", "end"]) (qual := "tokens_of") (scope := defScope s_tokens_of) (f := (a_tokens_of K)) (cd := cdv) (A := A) (outer := outer) (s := s) (H := H) (E := E)
  exact (jb_one (js_ret (je_n (jn_lc ok [("at", 1), ("end", 2)] (ji_any ok (je_call hx (fun _ => (ok_token_places T)) (fun _ => (hr.mono (by decide))) (fun _ => T.g_token_places) (fun _ => T.F_token_places.kp) (fun _ => bi_token_places T) (ja_cons (jo_nm 0) ja_nil) (mCons_len ret_len))) (jg_tp (ok.blk _) (jgs_cons (jg_nm (ok.blk _) 1) (jgs_cons (jg_nm (ok.blk _) 2) jgs_nil))) jf_nil (je_sl (ok.blk _).kk (jo_nm 0) (jp_some (jo_nm 1)) (jp_some (jo_nm 2)))))))

theorem sc__law_draw : FnScope ["script", "salt", "cells", "blend", "cell"] ["script", "salt"] (defScope s__law_draw) := ⟨rfl, rfl, rfl, by decide +kernel, rfl, by decide +kernel, by decide +kernel⟩
theorem bi__law_draw (T : Txt K mg) : Binds K (d__law_draw K) ["script", "salt"] [] := T.F__law_draw.binds (ps := ["script", "salt"]) fun _ _ _ _ _ _ us hl => match us, hl with | [_, _], _ => rfl
noncomputable abbrev F__law_draw : Fd := gDraw
theorem ok__law_draw (T : Txt K mg) : FnOk P w K mg base (L2.CX P w) 1 (a__law_draw K) (d__law_draw K) ["script", "salt"] (spD K xc [] 2 F__law_draw) := by
  refine ok_cut 0 (by decide) (fn_D T.F__law_draw sc__law_draw (by decide) fun cdv A outer s H E hr => ?_)
  have ok := ccOf_ok (P := P) (w := w) (K := K) (mg := mg) (base := base) (xc := xc) (an := []) (outer := outer) (H := H) (E := E) sc__law_draw hr
  have hp := ccOf_own (P := P) (w := w) (K := K) (mg := mg) (base := base) (xc := xc) (an := []) (N := ["script", "salt", "cells", "blend", "cell"]) (qual := "_law_draw") (scope := defScope s__law_draw) (f := (a__law_draw K)) (cd := cdv) (A := A) (outer := outer) (s := s) (H := H) (E := E)
  have hx := ccOf_pass (P := P) (w := w) (K := K) (mg := mg) (base := base) (xc := xc) (an := []) (N := ["script", "salt", "cells", "blend", "cell"]) (qual := "_law_draw") (scope := defScope s__law_draw) (f := (a__law_draw K)) (cd := cdv) (A := A) (outer := outer) (s := s) (H := H) (E := E)
  exact (jb_cons (js_setLc ok 2 [("cell", 4)] (ji_any ok (je_n (jn_scr ok 0))) (jg_nm (ok.blk _) 4) jf_nil (je_mod (jo_e (je_callB (fun κ => by first | exact call_abs | (rw [← (ok.blk _).kk κ]; exact call_abs)) d_abs (fun _ => rfl) (fun _ => T.n_abs) PyProof.Rows.boot_abs (ja_cons (jo_e (je_callTy (fun _ => call_int1) d_int (fun _ => rfl) (fun _ => T.n_int) (by decide +kernel) (ja_cons (jo_nm 4) ja_nil))) ja_nil))) (jo_e (je_pow (jo_e je_int) (jo_e je_int)))))
    (jb_cons (js_set ok 3 (jv_e (je_add ok.kk (jo_e je_int) (jo_e (je_mul (jo_e je_int) (jo_nm 1))))))
    (jb_cons (js_for ok hp (ji_any ok (je_nm 2)) (jg_nm ok 4) (jb_one (js_set ok 3 (jv_e (je_mod (jo_e (je_callTy (fun _ => call_int1) d_int (fun _ => rfl) (fun _ => T.n_int) (by decide +kernel) (ja_cons (jo_e (je_add ok.kk (jo_e (je_add ok.kk (jo_e (je_mul (jo_nm 3) (jo_e je_int))) (jo_e (je_mod (jo_nm 4) (jo_e je_int))))) (jo_e je_int))) ja_nil))) (jo_e je_int))))))
    (jb_one (js_ret (je_n (jn_lst (jl_cons (je_n (jn_rev ok.kk (je_n (jn_lc ok [("cell", 4)] (ji_any ok (je_nm 2)) (jg_nm (ok.blk _) 4) (jf_one (jt_cmp (fun _ => op_geA) d_ge (jo_nm 4) (jo_e (je_pow (jo_e je_int) (jo_e je_int))))) (je_nm 4))))) (jl_cons (je_nm 3) jl_nil)))))))))

theorem sc__law_any : FnScope ["deal", "bound", "rest"] ["deal", "bound"] (defScope s__law_any) := ⟨rfl, rfl, rfl, by decide +kernel, rfl, by decide +kernel, by decide +kernel⟩
theorem bi__law_any (T : Txt K mg) : Binds K (d__law_any K) ["deal", "bound"] [] := T.F__law_any.binds (ps := ["deal", "bound"]) fun _ _ _ _ _ _ us hl => match us, hl with | [_, _], _ => rfl
noncomputable abbrev F__law_any : Fd := gAny
theorem ok__law_any (T : Txt K mg) : FnOk P w K mg base (L2.CX P w) 1 (a__law_any K) (d__law_any K) ["deal", "bound"] (spD K xc [0] 2 F__law_any) := by
  refine ok_cut 1 (by decide) (fn_D T.F__law_any sc__law_any (by decide) fun cdv A outer s H E hr => ?_)
  have ok := ccOf_ok (P := P) (w := w) (K := K) (mg := mg) (base := base) (xc := xc) (an := [0]) (outer := outer) (H := H) (E := E) sc__law_any hr
  have hp := ccOf_own (P := P) (w := w) (K := K) (mg := mg) (base := base) (xc := xc) (an := [0]) (N := ["deal", "bound", "rest"]) (qual := "_law_any") (scope := defScope s__law_any) (f := (a__law_any K)) (cd := cdv) (A := A) (outer := outer) (s := s) (H := H) (E := E)
  have hx := ccOf_pass (P := P) (w := w) (K := K) (mg := mg) (base := base) (xc := xc) (an := [0]) (N := ["deal", "bound", "rest"]) (qual := "_law_any") (scope := defScope s__law_any) (f := (a__law_any K)) (cd := cdv) (A := A) (outer := outer) (s := s) (H := H) (E := E)
  exact (jb_cons (js_while hp (jt_w (jw_and (jt_dlNe ok 0) (jw_and1 (jt_dlZero ok 0)))) (jb_one (js_expr (je_dlPop ok 0))))
    (jb_cons (js_if (jt_dlNe ok 0) (jb_cons (js_set ok 2 (jv_e (je_callTy (fun _ => call_int1) d_int (fun _ => rfl) (fun _ => T.n_int) (by decide +kernel) (ja_cons (jo_e (je_dlPop ok 0)) ja_nil))))
    (jb_cons (js_expr (je_dlAdd ok 0 2 1))
    (jb_one (js_ret (je_mod (jo_nm 2) (jo_nm 1)))))) jb_nil)
    (jb_cons (js_dlSet ok 0 (je_mod (jo_e (je_callTy (fun _ => call_int1) d_int (fun _ => rfl) (fun _ => T.n_int) (by decide +kernel) (ja_cons (jo_e (je_add ok.kk (jo_e (je_mul (jo_e (je_dlBlend ok 0)) (jo_e je_int))) (jo_e je_int))) ja_nil))) (jo_e je_int)))
    (jb_one (js_ret (je_mod (jo_e (je_callTy (fun _ => call_int1) d_int (fun _ => rfl) (fun _ => T.n_int) (by decide +kernel) (ja_cons (jo_e (je_div (jo_e (je_dlBlend ok 0)) (jo_e je_int))) ja_nil))) (jo_nm 1)))))))

theorem sc__law_of : FnScope ["deal", "some"] ["deal", "some"] (defScope s__law_of) := ⟨rfl, rfl, rfl, by decide +kernel, rfl, by decide +kernel, by decide +kernel⟩
theorem bi__law_of (T : Txt K mg) : Binds K (d__law_of K) ["deal", "some"] [] := T.F__law_of.binds (ps := ["deal", "some"]) fun _ _ _ _ _ _ us hl => match us, hl with | [_, _], _ => rfl
noncomputable abbrev F__law_of : Fd := gOf
theorem ok__law_of (T : Txt K mg) : FnOk P w K mg base (L2.CX P w) 2 (a__law_of K) (d__law_of K) ["deal", "some"] (spD K xc [0] 2 F__law_of) := by
  refine ok_cut 1 (by decide) (fn_D T.F__law_of sc__law_of (by decide) fun cdv A outer s H E hr => ?_)
  have ok := ccOf_ok (P := P) (w := w) (K := K) (mg := mg) (base := base) (xc := xc) (an := [0]) (outer := outer) (H := H) (E := E) sc__law_of hr
  have hp := ccOf_own (P := P) (w := w) (K := K) (mg := mg) (base := base) (xc := xc) (an := [0]) (N := ["deal", "some"]) (qual := "_law_of") (scope := defScope s__law_of) (f := (a__law_of K)) (cd := cdv) (A := A) (outer := outer) (s := s) (H := H) (E := E)
  have hx := ccOf_pass (P := P) (w := w) (K := K) (mg := mg) (base := base) (xc := xc) (an := [0]) (N := ["deal", "some"]) (qual := "_law_of") (scope := defScope s__law_of) (f := (a__law_of K)) (cd := cdv) (A := A) (outer := outer) (s := s) (H := H) (E := E)
  exact (jb_one (js_ret (je_ix ok.kk (jo_nm 1) (jo_e (je_callD 0 hx (fun _ => (ok__law_any T)) (fun _ => (hr.mono (by decide))) (fun _ => T.g__law_any) (fun _ => T.F__law_any.kp) (fun _ => bi__law_any T) (jl_cons (je_callB (fun κ => by first | exact call_lenA | (rw [← ok.kk κ]; exact call_lenA)) d_len (fun _ => rfl) (fun _ => T.n_len) PySem.boot_len (ja_cons (jo_nm 1) ja_nil)) jl_nil) (fun ds ρ ρ' h => by rw [(mCons_len ret_len) ds ρ ρ' h]; rfl))))))

theorem sc__law_same : FnScope ["value", "due", "one", "other"] ["value", "due"] (defScope s__law_same) := ⟨rfl, rfl, rfl, by decide +kernel, rfl, by decide +kernel, by decide +kernel⟩
theorem bi__law_same (T : Txt K mg) : Binds K (d__law_same K) ["value", "due"] [] := T.F__law_same.binds (ps := ["value", "due"]) fun _ _ _ _ _ _ us hl => match us, hl with | [_, _], _ => rfl
noncomputable abbrev F__law_same : Nat → Fd := gSame
theorem ok__law_same (T : Txt K mg) : ∀ k, FnOk P w K mg base (L2.CX P w) (0 + k) (a__law_same K) (d__law_same K) ["value", "due"] (spD K xc [] 2 (F__law_same k))
  | 0 => fn_stuck
  | k + 1 => by
    have IH := ok__law_same T k
    refine ok_cut 0 (by decide) (fn_D T.F__law_same sc__law_same (by decide) fun cdv A outer s H E hr => ?_)
    have ok := ccOf_ok (P := P) (w := w) (K := K) (mg := mg) (base := base) (xc := xc) (an := []) (outer := outer) (H := H) (E := E) sc__law_same hr
    have hp := ccOf_own (P := P) (w := w) (K := K) (mg := mg) (base := base) (xc := xc) (an := []) (N := ["value", "due", "one", "other"]) (qual := "_law_same") (scope := defScope s__law_same) (f := (a__law_same K)) (cd := cdv) (A := A) (outer := outer) (s := s) (H := H) (E := E)
    have hx := ccOf_pass (P := P) (w := w) (K := K) (mg := mg) (base := base) (xc := xc) (an := []) (N := ["value", "due", "one", "other"]) (qual := "_law_same") (scope := defScope s__law_same) (f := (a__law_same K)) (cd := cdv) (A := A) (outer := outer) (s := s) (H := H) (E := E)
    exact (jb_cons (js_if (jt_e ok (je_isi2 ok (jo_nm 1) (fun _ => T.n_isinstance) (fun _ => T.n_tuple) (fun _ => T.n_list) (by decide +kernel) (by decide +kernel))) (jb_cons (js_if (jt_w (jw_or (jt_cmp (fun κ => by rw [← ok.kk κ]; exact op_neX (ok.hu κ)) d_ne (jo_e (je_isi ok (jo_nm 1) (fun _ => T.n_isinstance) (fun _ => T.n_tuple) (by decide +kernel))) (jo_e (je_isi ok (jo_nm 0) (fun _ => T.n_isinstance) (fun _ => T.n_tuple) (by decide +kernel)))) (jw_or (jt_not (jt_e ok (je_isi2 ok (jo_nm 0) (fun _ => T.n_isinstance) (fun _ => T.n_tuple) (fun _ => T.n_list) (by decide +kernel) (by decide +kernel)))) (jw_or1 (jt_cmp (fun κ => by rw [← ok.kk κ]; exact op_neX (ok.hu κ)) d_ne (jo_e (je_callB (fun κ => by first | exact call_lenA | (rw [← ok.kk κ]; exact call_lenA)) d_len (fun _ => rfl) (fun _ => T.n_len) PySem.boot_len (ja_cons (jo_nm 0) ja_nil))) (jo_e (je_callB (fun κ => by first | exact call_lenA | (rw [← ok.kk κ]; exact call_lenA)) d_len (fun _ => rfl) (fun _ => T.n_len) PySem.boot_len (ja_cons (jo_nm 1) ja_nil)))))))) (jb_one (js_ret je_bl)) jb_nil)
      (jb_one (js_ret (je_cmp (fun κ => by rw [← ok.kk κ]; exact op_eqX (ok.hu κ)) d_eq (jo_n (jn_lc ok [("one", 2), ("other", 3)] (ji_zip ok (jl_cons (je_nm 0) (jl_cons (je_nm 1) jl_nil)) (fun _ => T.n_zip)) (jg_tp (ok.blk _) (jgs_cons (jg_nm (ok.blk _) 2) (jgs_cons (jg_nm (ok.blk _) 3) jgs_nil))) (jf_one (jt_not (jt_e (ok.blk _) (je_call PassC.blk (fun _ => IH) (fun _ => hr) (fun _ => T.g__law_same) (fun _ => T.F__law_same.kp) (fun _ => bi__law_same T) (ja_cons (jo_nm 2) (ja_cons (jo_nm 3) ja_nil)) (mCons_len (mCons_len ret_len)))))) je_int)) (jo_n (jn_lst jl_nil)))))) jb_nil)
      (jb_cons (js_if (jt_cmp (fun _ => op_isX) d_is (jo_nm 1) (jo_e je_non)) (jb_one (js_ret (je_cmp (fun _ => op_isX) d_is (jo_nm 0) (jo_e je_non)))) jb_nil)
      (jb_cons (js_if (jt_cmp (fun _ => op_isX) d_is (jo_nm 1) (jo_e je_bl)) (jb_one (js_ret (je_cmp (fun _ => op_isX) d_is (jo_nm 0) (jo_e je_bl)))) jb_nil)
      (jb_cons (js_if (jt_cmp (fun _ => op_isX) d_is (jo_nm 1) (jo_e je_bl)) (jb_one (js_ret (je_cmp (fun _ => op_isX) d_is (jo_nm 0) (jo_e je_bl)))) jb_nil)
      (jb_cons (js_if (jt_e ok (je_isi ok (jo_nm 1) (fun _ => T.n_isinstance) (fun _ => T.n_int) (by decide +kernel))) (jb_one (js_ret (je_and ok.kk (je_isi ok (jo_nm 0) (fun _ => T.n_isinstance) (fun _ => T.n_int) (by decide +kernel)) (je_and ok.kk (je_not ok.kk (jo_e (je_isi ok (jo_nm 0) (fun _ => T.n_isinstance) (fun _ => T.n_bool) (by decide +kernel)))) (je_one (je_cmp (fun κ => by rw [← ok.kk κ]; exact op_eqX (ok.hu κ)) d_eq (jo_nm 0) (jo_nm 1))))))) jb_nil)
      (jb_one (js_ret (je_and ok.kk (je_isi ok (jo_nm 0) (fun _ => T.n_isinstance) (fun _ => T.n_str) (by decide +kernel)) (je_one (je_cmp (fun κ => by rw [← ok.kk κ]; exact op_eqX (ok.hu κ)) d_eq (jo_nm 0) (jo_nm 1)))))))))))

theorem sc__law_t_tokens : FnScope ["text", "found", "at", "sign", "end"] ["text"] (defScope s__law_t_tokens) := ⟨rfl, rfl, rfl, by decide +kernel, rfl, by decide +kernel, by decide +kernel⟩
theorem bi__law_t_tokens (T : Txt K mg) : Binds K (d__law_t_tokens K) ["text"] [] := T.F__law_t_tokens.binds (ps := ["text"]) fun _ _ _ _ _ _ us hl => match us, hl with | [_], _ => rfl
noncomputable def b__law_t_tokens : M Out := (mSeq (mPar 1 2 (mO (mLst (M.ret []))) (mV (M.ret (.int 0))))
    (mSeq (mWhile (mTest (mBin dLt (mNm 2) (mSh (mCall dLen (mCons (mNm 0) (M.ret [])))))) (mSeq (mPar 3 4 (mV (mBin dIx (mNm 0) (mNm 2))) (mV (mBin dAdd (mNm 2) (mSh (M.ret (.int 1))))))
    (mSeq (mIf (mTest (mBin dEq (mNm 3) (mSh (M.ret (.str lit1s))))) (mSeq (mWhile ((mAnd (mTest (mBin dLt (mNm 4) (mSh (mCall dLen (mCons (mNm 0) (M.ret [])))))) (mTest (mBin dNe (mSh (mBin dIx (mNm 0) (mNm 4))) (mSh (M.ret (.str lit1s))))))) (mSet 4 (mV (mBin dAdd (mNm 4) (mSh (mIf (mTest (mBin dEq (mSh (mBin dIx (mNm 0) (mNm 4))) (mSh (M.ret (.str lit2s))))) (M.ret (.int 2)) (M.ret (.int 1))))))))
    (mSet 4 (mV (mCall dMin2 (mCons (mSh (mBin dAdd (mNm 4) (mSh (M.ret (.int 1))))) (mCons (mSh (mCall dLen (mCons (mNm 0) (M.ret [])))) (M.ret []))))))) (mIf (mTest (mBin dNotIn (mNm 3) (mSh (M.ret (.str lit3s))))) (mWhile ((mAnd (mTest (mBin dLt (mNm 4) (mSh (mCall dLen (mCons (mNm 0) (M.ret [])))))) (mTest (mBin dNotIn (mSh (mBin dIx (mNm 0) (mNm 4))) (mSh (M.ret (.str lit4s))))))) (mSet 4 (mV (mBin dAdd (mNm 4) (mSh (M.ret (.int 1))))))) mNx))
    (mSeq (mIf (mTest (mBin dNotIn (mNm 3) (mSh (M.ret (.str lit0s))))) (mDrop (mAppend 1 (mSl (mNm 0) (mPart (mNm 2)) (mPart (mNm 4))))) mNx)
    (mSet 2 (mV (tkSl [] 4)))))))
    (mRet (tkSl [] 1))))
noncomputable def F__law_t_tokens : Fd := cutF 0 (bodyF 5 b__law_t_tokens)
theorem ok__law_t_tokens (T : Txt K mg) : FnOk P w K mg base (L2.CX P w) 1 (a__law_t_tokens K) (d__law_t_tokens K) ["text"] (spD K xc [] 1 F__law_t_tokens) := by
  refine ok_cut 0 (by decide) (fn_D T.F__law_t_tokens sc__law_t_tokens (by decide) fun cdv A outer s H E hr => ?_)
  have ok := ccOf_ok (P := P) (w := w) (K := K) (mg := mg) (base := base) (xc := xc) (an := []) (outer := outer) (H := H) (E := E) sc__law_t_tokens hr
  have hp := ccOf_own (P := P) (w := w) (K := K) (mg := mg) (base := base) (xc := xc) (an := []) (N := ["text", "found", "at", "sign", "end"]) (qual := "_law_t_tokens") (scope := defScope s__law_t_tokens) (f := (a__law_t_tokens K)) (cd := cdv) (A := A) (outer := outer) (s := s) (H := H) (E := E)
  have hx := ccOf_pass (P := P) (w := w) (K := K) (mg := mg) (base := base) (xc := xc) (an := []) (N := ["text", "found", "at", "sign", "end"]) (qual := "_law_t_tokens") (scope := defScope s__law_t_tokens) (f := (a__law_t_tokens K)) (cd := cdv) (A := A) (outer := outer) (s := s) (H := H) (E := E)
  exact (jb_cons (js_par ok 1 2 (jv_n (jn_lst jl_nil)) (jv_e je_int))
    (jb_cons (js_while hp (jt_cmp (fun _ => op_ltA) d_lt (jo_nm 2) (jo_e (je_callB (fun κ => by first | exact call_lenA | (rw [← ok.kk κ]; exact call_lenA)) d_len (fun _ => rfl) (fun _ => T.n_len) PySem.boot_len (ja_cons (jo_nm 0) ja_nil)))) (jb_cons (js_par ok 3 4 (jv_e (je_ix ok.kk (jo_nm 0) (jo_nm 2))) (jv_e (je_add ok.kk (jo_nm 2) (jo_e je_int))))
    (jb_cons (js_if (jt_cmp (fun κ => by rw [← ok.kk κ]; exact op_eqX (ok.hu κ)) d_eq (jo_nm 3) (jo_e (je_str lit1))) (jb_cons (js_while hp (jt_w (jw_and (jt_cmp (fun _ => op_ltA) d_lt (jo_nm 4) (jo_e (je_callB (fun κ => by first | exact call_lenA | (rw [← ok.kk κ]; exact call_lenA)) d_len (fun _ => rfl) (fun _ => T.n_len) PySem.boot_len (ja_cons (jo_nm 0) ja_nil)))) (jw_and1 (jt_cmp (fun κ => by rw [← ok.kk κ]; exact op_neX (ok.hu κ)) d_ne (jo_e (je_ix ok.kk (jo_nm 0) (jo_nm 4))) (jo_e (je_str lit1)))))) (jb_one (js_set ok 4 (jv_e (je_add ok.kk (jo_nm 4) (jo_e (je_if (jt_cmp (fun κ => by rw [← ok.kk κ]; exact op_eqX (ok.hu κ)) d_eq (jo_e (je_ix ok.kk (jo_nm 0) (jo_nm 4))) (jo_e (je_str lit2))) je_int je_int)))))))
    (jb_one (js_set ok 4 (jv_e (je_callB (fun κ => call_min2 (ok.calm κ)) d_min2 (fun _ => rfl) (fun _ => T.n_min) (by decide +kernel) (ja_cons (jo_e (je_add ok.kk (jo_nm 4) (jo_e je_int))) (ja_cons (jo_e (je_callB (fun κ => by first | exact call_lenA | (rw [← ok.kk κ]; exact call_lenA)) d_len (fun _ => rfl) (fun _ => T.n_len) PySem.boot_len (ja_cons (jo_nm 0) ja_nil))) ja_nil))))))) (jb_one (js_if (jt_cmp (fun κ => by rw [← ok.kk κ]; exact op_notInA) d_notIn (jo_nm 3) (jo_e (je_str lit3))) (jb_one (js_while hp (jt_w (jw_and (jt_cmp (fun _ => op_ltA) d_lt (jo_nm 4) (jo_e (je_callB (fun κ => by first | exact call_lenA | (rw [← ok.kk κ]; exact call_lenA)) d_len (fun _ => rfl) (fun _ => T.n_len) PySem.boot_len (ja_cons (jo_nm 0) ja_nil)))) (jw_and1 (jt_cmp (fun κ => by rw [← ok.kk κ]; exact op_notInA) d_notIn (jo_e (je_ix ok.kk (jo_nm 0) (jo_nm 4))) (jo_e (je_str lit4)))))) (jb_one (js_set ok 4 (jv_e (je_add ok.kk (jo_nm 4) (jo_e je_int))))))) jb_nil)))
    (jb_cons (js_if (jt_cmp (fun κ => by rw [← ok.kk κ]; exact op_notInA) d_notIn (jo_nm 3) (jo_e (je_str lit0))) (jb_one (js_expr (je_append ok 1 (je_sl ok.kk (jo_nm 0) (jp_some (jo_nm 2)) (jp_some (jo_nm 4)))))) jb_nil)
    (jb_one (js_set ok 2 (jv_e (je_nm 4))))))))
    (jb_one (js_ret (je_nm 1)))))

theorem sc__law_t_wild : FnScope ["deal", "tokens", "found", "last", "token", "some"] ["deal", "tokens"] (defScope s__law_t_wild) := ⟨rfl, rfl, rfl, by decide +kernel, rfl, by decide +kernel, by decide +kernel⟩
theorem bi__law_t_wild (T : Txt K mg) : Binds K (d__law_t_wild K) ["deal", "tokens"] [] := T.F__law_t_wild.binds (ps := ["deal", "tokens"]) fun _ _ _ _ _ _ us hl => match us, hl with | [_, _], _ => rfl
noncomputable def b__law_t_wild : M Out := (mSeq (mPar 2 3 (mV (mCallD F__law_of 0 (mCons (mEN (mLst (mCons (M.ret (.str lit7s)) (mCons (M.ret (.str lit6s)) (mCons (M.ret (.str lit5s)) (mCons (M.ret (.str lit13s)) (M.ret []))))))) (M.ret [])))) (mV (M.ret (.str lit14s))))
    (mSeq (mForI (gNm 4) (mSeq (mSet 5 (mV (mIf ((mOr (mTest (mBin dIn (mNm 4) (mSh (M.ret (.str lit8s))))) (mTest (mBin dIn (mNm 3) (mSh (M.ret (.str lit8s))))))) (mEN (mLst (mCons (M.ret (.str lit7s)) (mCons (M.ret (.str lit6s)) (mCons (M.ret (.str lit5s)) (mCons (M.ret (.str lit10s)) (mCons (M.ret (.str lit9s)) (M.ret [])))))))) (mEN (mLst (mCons (M.ret (.str lit6s)) (mCons (M.ret (.str lit5s)) (mCons (M.ret (.str lit12s)) (mCons (M.ret (.str lit11s)) (M.ret []))))))))))
    (mPar 2 3 (mV (mBin dAdd (mSh (mBin dAdd (mNm 2) (mSh (mCallD F__law_of 0 (mCons (tkSl [0] 5) (M.ret [])))))) (mNm 4))) (mV (tkSl [0] 4)))) (mItems (tkSl [0] 1)))
    (mRet (mBin dAdd (mNm 2) (mSh (mCallD F__law_of 0 (mCons (mEN (mLst (mCons (M.ret (.str lit7s)) (mCons (M.ret (.str lit6s)) (mCons (M.ret (.str lit5s)) (M.ret [])))))) (M.ret []))))))))
noncomputable def F__law_t_wild : Fd := cutF 1 (bodyF 6 b__law_t_wild)
theorem ok__law_t_wild (T : Txt K mg) : FnOk P w K mg base (L2.CX P w) 3 (a__law_t_wild K) (d__law_t_wild K) ["deal", "tokens"] (spD K xc [0] 2 F__law_t_wild) := by
  refine ok_cut 1 (by decide) (fn_D T.F__law_t_wild sc__law_t_wild (by decide) fun cdv A outer s H E hr => ?_)
  have ok := ccOf_ok (P := P) (w := w) (K := K) (mg := mg) (base := base) (xc := xc) (an := [0]) (outer := outer) (H := H) (E := E) sc__law_t_wild hr
  have hp := ccOf_own (P := P) (w := w) (K := K) (mg := mg) (base := base) (xc := xc) (an := [0]) (N := ["deal", "tokens", "found", "last", "token", "some"]) (qual := "_law_t_wild") (scope := defScope s__law_t_wild) (f := (a__law_t_wild K)) (cd := cdv) (A := A) (outer := outer) (s := s) (H := H) (E := E)
  have hx := ccOf_pass (P := P) (w := w) (K := K) (mg := mg) (base := base) (xc := xc) (an := [0]) (N := ["deal", "tokens", "found", "last", "token", "some"]) (qual := "_law_t_wild") (scope := defScope s__law_t_wild) (f := (a__law_t_wild K)) (cd := cdv) (A := A) (outer := outer) (s := s) (H := H) (E := E)
  exact (jb_cons (js_par ok 2 3 (jv_e (je_callD 0 hx (fun _ => (ok__law_of T)) (fun _ => (hr.mono (by decide))) (fun _ => T.g__law_of) (fun _ => T.F__law_of.kp) (fun _ => bi__law_of T) (jl_cons (je_n (jn_lst (jl_cons (je_str lit7) (jl_cons (je_str lit6) (jl_cons (je_str lit5) (jl_cons (je_str lit13) jl_nil)))))) jl_nil) (fun ds ρ ρ' h => by rw [(mCons_len ret_len) ds ρ ρ' h]; rfl))) (jv_e (je_str lit14)))
    (jb_cons (js_for ok hp (ji_any ok (je_nm 1)) (jg_nm ok 4) (jb_cons (js_set ok 5 (jv_e (je_if (jt_w (jw_or (jt_cmp (fun κ => by rw [← ok.kk κ]; exact op_inA) d_in (jo_nm 4) (jo_e (je_str lit8))) (jw_or1 (jt_cmp (fun κ => by rw [← ok.kk κ]; exact op_inA) d_in (jo_nm 3) (jo_e (je_str lit8)))))) (je_n (jn_lst (jl_cons (je_str lit7) (jl_cons (je_str lit6) (jl_cons (je_str lit5) (jl_cons (je_str lit10) (jl_cons (je_str lit9) jl_nil))))))) (je_n (jn_lst (jl_cons (je_str lit6) (jl_cons (je_str lit5) (jl_cons (je_str lit12) (jl_cons (je_str lit11) jl_nil)))))))))
    (jb_one (js_par ok 2 3 (jv_e (je_add ok.kk (jo_e (je_add ok.kk (jo_nm 2) (jo_e (je_callD 0 hx (fun _ => (ok__law_of T)) (fun _ => (hr.mono (by decide))) (fun _ => T.g__law_of) (fun _ => T.F__law_of.kp) (fun _ => bi__law_of T) (jl_cons (je_nm 5) jl_nil) (fun ds ρ ρ' h => by rw [(mCons_len ret_len) ds ρ ρ' h]; rfl))))) (jo_nm 4))) (jv_e (je_nm 4))))))
    (jb_one (js_ret (je_add ok.kk (jo_nm 2) (jo_e (je_callD 0 hx (fun _ => (ok__law_of T)) (fun _ => (hr.mono (by decide))) (fun _ => T.g__law_of) (fun _ => T.F__law_of.kp) (fun _ => bi__law_of T) (jl_cons (je_n (jn_lst (jl_cons (je_str lit7) (jl_cons (je_str lit6) (jl_cons (je_str lit5) jl_nil))))) jl_nil) (fun ds ρ ρ' h => by rw [(mCons_len ret_len) ds ρ ρ' h]; rfl))))))))

theorem sc__law_some_text : FnScope ["deal", "many", "pieces", "turn"] ["deal", "many"] (defScope s__law_some_text) := ⟨rfl, rfl, rfl, by decide +kernel, rfl, by decide +kernel, by decide +kernel⟩
theorem bi__law_some_text (T : Txt K mg) : Binds K (d__law_some_text K) ["deal", "many"] [] := T.F__law_some_text.binds (ps := ["deal", "many"]) fun _ _ _ _ _ _ us hl => match us, hl with | [_, _], _ => rfl
noncomputable def b__law_some_text : M Out := (mSeq (mSet 2 (mV (mEN (mLst (mCons (M.ret (.str lit39s)) (mCons (M.ret (.str lit38s)) (mCons (M.ret (.str lit37s)) (mCons (M.ret (.str lit36s)) (mCons (M.ret (.str lit14s)) (mCons (M.ret (.str lit35s)) (mCons (M.ret (.str lit34s)) (mCons (M.ret (.str lit33s)) (mCons (M.ret (.str lit32s)) (mCons (M.ret (.str lit31s)) (mCons (M.ret (.str lit30s)) (mCons (M.ret (.str lit6s)) (mCons (M.ret (.str lit10s)) (mCons (M.ret (.str lit5s)) (mCons (M.ret (.str lit12s)) (mCons (M.ret (.str lit1s)) (mCons (M.ret (.str lit29s)) (mCons (M.ret (.str lit28s)) (mCons (M.ret (.str lit27s)) (mCons (M.ret (.str lit26s)) (mCons (M.ret (.str lit2s)) (mCons (M.ret (.str lit25s)) (mCons (M.ret (.str lit24s)) (mCons (M.ret (.str lit23s)) (mCons (M.ret (.str lit22s)) (mCons (M.ret (.str lit21s)) (mCons (M.ret (.str lit20s)) (mCons (M.ret (.str lit19s)) (mCons (M.ret (.str lit18s)) (mCons (M.ret (.str lit17s)) (mCons (M.ret (.str lit16s)) (mCons (M.ret (.str lit15s)) (M.ret [])))))))))))))))))))))))))))))))))))))
    (mRet (mJoin (mSh (M.ret (.str lit7s))) (mShN (mLc [3] (gNm 3) (M.ret true) (mCallD F__law_of 0 (mCons (tkSl [0] 2) (M.ret []))) (mCall dRange1 (mCons (mNm 1) (M.ret []))))))))
noncomputable def F__law_some_text : Fd := cutF 1 (bodyF 4 b__law_some_text)
theorem ok__law_some_text (T : Txt K mg) : FnOk P w K mg base (L2.CX P w) 3 (a__law_some_text K) (d__law_some_text K) ["deal", "many"] (spD K xc [0] 2 F__law_some_text) := by
  refine ok_cut 1 (by decide) (fn_D T.F__law_some_text sc__law_some_text (by decide) fun cdv A outer s H E hr => ?_)
  have ok := ccOf_ok (P := P) (w := w) (K := K) (mg := mg) (base := base) (xc := xc) (an := [0]) (outer := outer) (H := H) (E := E) sc__law_some_text hr
  have hp := ccOf_own (P := P) (w := w) (K := K) (mg := mg) (base := base) (xc := xc) (an := [0]) (N := ["deal", "many", "pieces", "turn"]) (qual := "_law_some_text") (scope := defScope s__law_some_text) (f := (a__law_some_text K)) (cd := cdv) (A := A) (outer := outer) (s := s) (H := H) (E := E)
  have hx := ccOf_pass (P := P) (w := w) (K := K) (mg := mg) (base := base) (xc := xc) (an := [0]) (N := ["deal", "many", "pieces", "turn"]) (qual := "_law_some_text") (scope := defScope s__law_some_text) (f := (a__law_some_text K)) (cd := cdv) (A := A) (outer := outer) (s := s) (H := H) (E := E)
  exact (jb_cons (js_set ok 2 (jv_e (je_n (jn_lst (jl_cons (je_str lit39) (jl_cons (je_str lit38) (jl_cons (je_str lit37) (jl_cons (je_str lit36) (jl_cons (je_str lit14) (jl_cons (je_str lit35) (jl_cons (je_str lit34) (jl_cons (je_str lit33) (jl_cons (je_str lit32) (jl_cons (je_str lit31) (jl_cons (je_str lit30) (jl_cons (je_str lit6) (jl_cons (je_str lit10) (jl_cons (je_str lit5) (jl_cons (je_str lit12) (jl_cons (je_str lit1) (jl_cons (je_str lit29) (jl_cons (je_str lit28) (jl_cons (je_str lit27) (jl_cons (je_str lit26) (jl_cons (je_str lit2) (jl_cons (je_str lit25) (jl_cons (je_str lit24) (jl_cons (je_str lit23) (jl_cons (je_str lit22) (jl_cons (je_str lit21) (jl_cons (je_str lit20) (jl_cons (je_str lit19) (jl_cons (je_str lit18) (jl_cons (je_str lit17) (jl_cons (je_str lit16) (jl_cons (je_str lit15) jl_nil))))))))))))))))))))))))))))))))))))
    (jb_one (js_ret (je_join ok (jo_e (je_str lit7)) (jo_n (jn_lc ok [("turn", 3)] (ji_range1 (ja_cons (jo_nm 1) ja_nil) (fun _ => T.n_range)) (jg_nm (ok.blk _) 3) jf_nil (je_callD 0 PassC.blk (fun _ => (ok__law_of T)) (fun _ => (hr.mono (by decide))) (fun _ => T.g__law_of) (fun _ => T.F__law_of.kp) (fun _ => bi__law_of T) (jl_cons (je_nm 2) jl_nil) (fun ds ρ ρ' h => by rw [(mCons_len ret_len) ds ρ ρ' h]; rfl))))))))

theorem sc_law : FnScope ["script", "deal", "turn", "text", "other", "due", "at", "shut", "cases", "token"] ["script"] (defScope s_law) := ⟨rfl, rfl, rfl, by decide +kernel, rfl, by decide +kernel, by decide +kernel⟩
theorem bi_law (T : Txt K mg) : Binds K (d_law K) ["script"] [] := T.F_law.binds (ps := ["script"]) fun _ _ _ _ _ _ us hl => match us, hl with | [_], _ => rfl
noncomputable def b_law : M Out := (mSeq (mDeal 1 F__law_draw 0 107)
    (mSeq (mForI (gNm 2) (mSeq (mPar 3 4 (mV (mCallD F__law_some_text 1 (mCons (mCallD F__law_of 1 (mCons (mEN (mLst (mCons (M.ret (.int 0)) (mCons (M.ret (.int 1)) (mCons (M.ret (.int 3)) (mCons (M.ret (.int 8)) (mCons (M.ret (.int 30)) (M.ret [])))))))) (M.ret []))) (M.ret [])))) (mV (mCallD F__law_some_text 1 (mCons (mCallD F__law_any 1 (mCons (M.ret (.int 6)) (M.ret []))) (M.ret [])))))
    (mSeq (mSet 5 (mV (mCallA F__law_t_tokens (mCons (mNm 3) (M.ret [])))))
    (mSeq (mIf (mNot (mTru (mSh (mCallA (F__law_same 40) (mCons (mSh (mCallA F_tokens_of (mCons (mNm 3) (M.ret [])))) (mCons (mNm 5) (M.ret []))))))) (mRet (M.ret (.bl false))) mNx)
    (mSeq (mSet 6 (mV (mCallD F__law_any 1 (mCons (mBin dAdd (mSh (mCall dLen (mCons (mNm 3) (M.ret [])))) (mSh (M.ret (.int 1)))) (M.ret [])))))
    (mSeq (mIf (mNot (mTru (mSh (mCallA (F__law_same 40) (mCons (mShN (mLst (mCons (mCallA F_tokens_of (mCons (mSh (mSl (mNm 3) (M.ret none) (mPart (mNm 6)))) (M.ret []))) (mCons (mCallA F_tokens_of (mCons (mSh (mSl (mNm 3) (mPart (mNm 6)) (M.ret none))) (M.ret []))) (mCons (mCallA F_tokens_of (mCons (mSh (mBin dAdd (mNm 3) (mNm 4))) (M.ret []))) (M.ret [])))))) (mCons (mShN (mLst (mCons (mCallA F__law_t_tokens (mCons (mSh (mSl (mNm 3) (M.ret none) (mPart (mNm 6)))) (M.ret []))) (mCons (mCallA F__law_t_tokens (mCons (mSh (mSl (mNm 3) (mPart (mNm 6)) (M.ret none))) (M.ret []))) (mCons (mCallA F__law_t_tokens (mCons (mSh (mBin dAdd (mNm 3) (mNm 4))) (M.ret []))) (M.ret [])))))) (M.ret []))))))) (mRet (M.ret (.bl false))) mNx)
    (mSeq (mSet 7 (mO (mLc [9] (gNm 9) ((mOr (mTest (mBin dNe (mSh (mSl (mNm 9) (M.ret none) (mPart (mSh (M.ret (.int 1)))))) (mSh (M.ret (.str lit1s))))) ((mAnd (mTest (mBin dGt (mSh (mCall dLen (mCons (mNm 9) (M.ret [])))) (mSh (M.ret (.int 1))))) (mAnd (mTest (mBin dEq (mSh (mSl (mNm 9) (mPart (mSh (mUn dNeg (mSh (M.ret (.int 1)))))) (M.ret none))) (mSh (M.ret (.str lit1s))))) (mTest (mBin dEq (mSh (mCallA F__law_t_tokens (mCons (mSh (mBin dAdd (mNm 9) (mSh (M.ret (.str lit48s))))) (M.ret [])))) (mShN (mLst (mCons (tkSl [] 9) (mCons (M.ret (.str lit48s)) (M.ret [])))))))))))) (tkSl [] 9) (mItems (tkSl [] 5)))))
    (mIf (mNot (mTru (mSh (mCallA (F__law_same 40) (mCons (mShN (mLst (mCons (mCallA F_tokens_of (mCons (mSh (mCallD F__law_t_wild 1 (mCons (tkSl [] 7) (M.ret [])))) (M.ret []))) (mCons (mCallA F_tokens_of (mCons (mSh (mBin dAdd (mSh (mBin dAdd (mSh (mJoin (mSh (M.ret (.str lit6s))) (mNm 7))) (mSh (M.ret (.str lit6s))))) (mNm 4))) (M.ret []))) (M.ret []))))) (mCons (mShN (mLst (mCons (tkSl [] 7) (mCons (mBin dAdd (mNm 7) (mSh (mCallA F__law_t_tokens (mCons (mNm 4) (M.ret []))))) (M.ret []))))) (M.ret []))))))) (mRet (M.ret (.bl false))) mNx))))))) (mCall dRange1 (mCons (mSh (M.ret (.int 30))) (M.ret []))))
    (mSeq (mSet 8 (mV (mEN (mLst (mCons (mTup (mCons (M.ret (.str lit7s)) (mCons (mEN (mLst (M.ret []))) (M.ret [])))) (mCons (mTup (mCons (M.ret (.str lit0s)) (mCons (mEN (mLst (M.ret []))) (M.ret [])))) (mCons (mTup (mCons (M.ret (.str lit53s)) (mCons (mEN (mLst (mCons (M.ret (.str lit39s)) (mCons (M.ret (.str lit52s)) (mCons (M.ret (.str lit46s)) (M.ret [])))))) (M.ret [])))) (mCons (mTup (mCons (M.ret (.str lit51s)) (mCons (mEN (mLst (mCons (M.ret (.str lit51s)) (M.ret [])))) (M.ret [])))) (mCons (mTup (mCons (M.ret (.str lit50s)) (mCons (mEN (mLst (mCons (M.ret (.str lit50s)) (M.ret [])))) (M.ret [])))) (mCons (mTup (mCons (M.ret (.str lit49s)) (mCons (mEN (mLst (mCons (M.ret (.str lit27s)) (mCons (M.ret (.str lit48s)) (M.ret []))))) (M.ret [])))) (mCons (mTup (mCons (M.ret (.str lit47s)) (mCons (mEN (mLst (mCons (M.ret (.str lit39s)) (mCons (M.ret (.str lit30s)) (mCons (M.ret (.str lit43s)) (mCons (M.ret (.str lit32s)) (mCons (M.ret (.str lit46s)) (M.ret [])))))))) (M.ret [])))) (mCons (mTup (mCons (M.ret (.str lit45s)) (mCons (mEN (mLst (mCons (M.ret (.str lit44s)) (mCons (M.ret (.str lit43s)) (M.ret []))))) (M.ret [])))) (mCons (mTup (mCons (M.ret (.str lit42s)) (mCons (mEN (mLst (mCons (M.ret (.str lit29s)) (mCons (M.ret (.str lit29s)) (M.ret []))))) (M.ret [])))) (M.ret []))))))))))))))
    (mRet (mBin dEq (mShN (mLc [3, 5] (gTp 2 (gsCons (gNm 3) (gsCons (gNm 5) gsNil))) (mNot (mTru (mSh (mCallA (F__law_same 40) (mCons (mSh (mCallA F_tokens_of (mCons (mNm 3) (M.ret [])))) (mCons (mNm 5) (M.ret []))))))) (tkSl [] 3) (mItems (mBin dAdd (mNm 8) (mShN (mLst (mCons (mTup (mCons (M.ret (.str lit41s)) (mCons (mEN (mLst (mCons (M.ret (.str lit41s)) (M.ret [])))) (M.ret [])))) (mCons (mTup (mCons (M.ret (.str lit19s)) (mCons (mEN (mLst (mCons (M.ret (.str lit19s)) (M.ret [])))) (M.ret [])))) (mCons (mTup (mCons (M.ret (.str lit40s)) (mCons (mEN (mLst (mCons (M.ret (.str lit30s)) (mCons (M.ret (.str lit30s)) (M.ret []))))) (M.ret [])))) (M.ret [])))))))))) (mShN (mLst (M.ret []))))))))
noncomputable def F_law : Fd := cutF 0 (bodyF 10 b_law)
theorem ok_law (T : Txt K mg) : FnOk P w K mg base (L2.CX P w) 41 (a_law K) (d_law K) ["script"] (spD K xc [] 1 F_law) := by
  refine ok_cut 0 (by decide) (fn_D T.F_law sc_law (by decide) fun cdv A outer s H E hr => ?_)
  have ok := ccOf_ok (P := P) (w := w) (K := K) (mg := mg) (base := base) (xc := xc) (an := []) (outer := outer) (H := H) (E := E) sc_law hr
  have hp := ccOf_own (P := P) (w := w) (K := K) (mg := mg) (base := base) (xc := xc) (an := []) (N := ["script", "deal", "turn", "text", "other", "due", "at", "shut", "cases", "token"]) (qual := "law") (scope := defScope s_law) (f := (a_law K)) (cd := cdv) (A := A) (outer := outer) (s := s) (H := H) (E := E)
  have hx := ccOf_pass (P := P) (w := w) (K := K) (mg := mg) (base := base) (xc := xc) (an := []) (N := ["script", "deal", "turn", "text", "other", "due", "at", "shut", "cases", "token"]) (qual := "law") (scope := defScope s_law) (f := (a_law K)) (cd := cdv) (A := A) (outer := outer) (s := s) (H := H) (E := E)
  exact (jb_cons (js_deal ok hx 1 0 (fun _ => (ok__law_draw T)) (fun _ => hr.mono (by decide)) (fun _ => T.g__law_draw) (fun _ => T.F__law_draw.kp) (fun _ => bi__law_draw T))
    (jb_cons (js_for ok hp (ji_range1 (ja_cons (jo_e je_int) ja_nil) (fun _ => T.n_range)) (jg_nm ok 2) (jb_cons (js_par ok 3 4 (jv_e (je_callD 1 hx (fun _ => (ok__law_some_text T)) (fun _ => (hr.mono (by decide))) (fun _ => T.g__law_some_text) (fun _ => T.F__law_some_text.kp) (fun _ => bi__law_some_text T) (jl_cons (je_callD 1 hx (fun _ => (ok__law_of T)) (fun _ => (hr.mono (by decide))) (fun _ => T.g__law_of) (fun _ => T.F__law_of.kp) (fun _ => bi__law_of T) (jl_cons (je_n (jn_lst (jl_cons je_int (jl_cons je_int (jl_cons je_int (jl_cons je_int (jl_cons je_int jl_nil))))))) jl_nil) (fun ds ρ ρ' h => by rw [(mCons_len ret_len) ds ρ ρ' h]; rfl)) jl_nil) (fun ds ρ ρ' h => by rw [(mCons_len ret_len) ds ρ ρ' h]; rfl))) (jv_e (je_callD 1 hx (fun _ => (ok__law_some_text T)) (fun _ => (hr.mono (by decide))) (fun _ => T.g__law_some_text) (fun _ => T.F__law_some_text.kp) (fun _ => bi__law_some_text T) (jl_cons (je_callD 1 hx (fun _ => (ok__law_any T)) (fun _ => (hr.mono (by decide))) (fun _ => T.g__law_any) (fun _ => T.F__law_any.kp) (fun _ => bi__law_any T) (jl_cons je_int jl_nil) (fun ds ρ ρ' h => by rw [(mCons_len ret_len) ds ρ ρ' h]; rfl)) jl_nil) (fun ds ρ ρ' h => by rw [(mCons_len ret_len) ds ρ ρ' h]; rfl))))
    (jb_cons (js_set ok 5 (jv_e (je_call hx (fun _ => (ok__law_t_tokens T)) (fun _ => (hr.mono (by decide))) (fun _ => T.g__law_t_tokens) (fun _ => T.F__law_t_tokens.kp) (fun _ => bi__law_t_tokens T) (ja_cons (jo_nm 3) ja_nil) (mCons_len ret_len))))
    (jb_cons (js_if (jt_not (jt_e ok (je_call hx (fun _ => (ok__law_same T 40)) (fun _ => (hr.mono (by decide))) (fun _ => T.g__law_same) (fun _ => T.F__law_same.kp) (fun _ => bi__law_same T) (ja_cons (jo_e (je_callKw hx (fun _ => (ok_tokens_of T)) (fun _ => (hr.mono (by decide))) (fun _ => T.g_tokens_of) (fun _ => T.F_tokens_of.kp) (fun _ => kw_tokens_of T) (jk_cons (jo_nm 3) jk_nil) (mCons_len ret_len))) (ja_cons (jo_nm 5) ja_nil)) (mCons_len (mCons_len ret_len))))) (jb_one (js_ret je_bl)) jb_nil)
    (jb_cons (js_set ok 6 (jv_e (je_callD 1 hx (fun _ => (ok__law_any T)) (fun _ => (hr.mono (by decide))) (fun _ => T.g__law_any) (fun _ => T.F__law_any.kp) (fun _ => bi__law_any T) (jl_cons (je_add ok.kk (jo_e (je_callB (fun κ => by first | exact call_lenA | (rw [← ok.kk κ]; exact call_lenA)) d_len (fun _ => rfl) (fun _ => T.n_len) PySem.boot_len (ja_cons (jo_nm 3) ja_nil))) (jo_e je_int)) jl_nil) (fun ds ρ ρ' h => by rw [(mCons_len ret_len) ds ρ ρ' h]; rfl))))
    (jb_cons (js_if (jt_not (jt_e ok (je_call hx (fun _ => (ok__law_same T 40)) (fun _ => (hr.mono (by decide))) (fun _ => T.g__law_same) (fun _ => T.F__law_same.kp) (fun _ => bi__law_same T) (ja_cons (jo_n (jn_lst (jl_cons (je_call hx (fun _ => (ok_tokens_of T)) (fun _ => (hr.mono (by decide))) (fun _ => T.g_tokens_of) (fun _ => T.F_tokens_of.kp) (fun _ => bi_tokens_of T) (ja_cons (jo_e (je_sl ok.kk (jo_nm 3) jp_none (jp_some (jo_nm 6)))) ja_nil) (mCons_len ret_len)) (jl_cons (je_call hx (fun _ => (ok_tokens_of T)) (fun _ => (hr.mono (by decide))) (fun _ => T.g_tokens_of) (fun _ => T.F_tokens_of.kp) (fun _ => bi_tokens_of T) (ja_cons (jo_e (je_sl ok.kk (jo_nm 3) (jp_some (jo_nm 6)) jp_none)) ja_nil) (mCons_len ret_len)) (jl_cons (je_call hx (fun _ => (ok_tokens_of T)) (fun _ => (hr.mono (by decide))) (fun _ => T.g_tokens_of) (fun _ => T.F_tokens_of.kp) (fun _ => bi_tokens_of T) (ja_cons (jo_e (je_add ok.kk (jo_nm 3) (jo_nm 4))) ja_nil) (mCons_len ret_len)) jl_nil))))) (ja_cons (jo_n (jn_lst (jl_cons (je_call hx (fun _ => (ok__law_t_tokens T)) (fun _ => (hr.mono (by decide))) (fun _ => T.g__law_t_tokens) (fun _ => T.F__law_t_tokens.kp) (fun _ => bi__law_t_tokens T) (ja_cons (jo_e (je_sl ok.kk (jo_nm 3) jp_none (jp_some (jo_nm 6)))) ja_nil) (mCons_len ret_len)) (jl_cons (je_call hx (fun _ => (ok__law_t_tokens T)) (fun _ => (hr.mono (by decide))) (fun _ => T.g__law_t_tokens) (fun _ => T.F__law_t_tokens.kp) (fun _ => bi__law_t_tokens T) (ja_cons (jo_e (je_sl ok.kk (jo_nm 3) (jp_some (jo_nm 6)) jp_none)) ja_nil) (mCons_len ret_len)) (jl_cons (je_call hx (fun _ => (ok__law_t_tokens T)) (fun _ => (hr.mono (by decide))) (fun _ => T.g__law_t_tokens) (fun _ => T.F__law_t_tokens.kp) (fun _ => bi__law_t_tokens T) (ja_cons (jo_e (je_add ok.kk (jo_nm 3) (jo_nm 4))) ja_nil) (mCons_len ret_len)) jl_nil))))) ja_nil)) (mCons_len (mCons_len ret_len))))) (jb_one (js_ret je_bl)) jb_nil)
    (jb_cons (js_setLc ok 7 [("token", 9)] (ji_any ok (je_nm 5)) (jg_nm (ok.blk _) 9) (jf_one (jt_w (jw_or (jt_cmp (fun κ => by rw [← (ok.blk _).kk κ]; exact op_neX ((ok.blk _).hu κ)) d_ne (jo_e (je_sl (ok.blk _).kk (jo_nm 9) jp_none (jp_some (jo_e je_int)))) (jo_e (je_str lit1))) (jw_or1 (jt_w (jw_and (jt_cmp (fun _ => op_gtA) d_gt (jo_e (je_callB (fun κ => by first | exact call_lenA | (rw [← (ok.blk _).kk κ]; exact call_lenA)) d_len (fun _ => rfl) (fun _ => T.n_len) PySem.boot_len (ja_cons (jo_nm 9) ja_nil))) (jo_e je_int)) (jw_and (jt_cmp (fun κ => by rw [← (ok.blk _).kk κ]; exact op_eqX ((ok.blk _).hu κ)) d_eq (jo_e (je_sl (ok.blk _).kk (jo_nm 9) (jp_some (jo_e (je_neg (jo_e je_int)))) jp_none)) (jo_e (je_str lit1))) (jw_and1 (jt_cmp (fun κ => by rw [← (ok.blk _).kk κ]; exact op_eqX ((ok.blk _).hu κ)) d_eq (jo_e (je_call PassC.blk (fun _ => (ok__law_t_tokens T)) (fun _ => (hr.mono (by decide))) (fun _ => T.g__law_t_tokens) (fun _ => T.F__law_t_tokens.kp) (fun _ => bi__law_t_tokens T) (ja_cons (jo_e (je_add (ok.blk _).kk (jo_nm 9) (jo_e (je_str lit48)))) ja_nil) (mCons_len ret_len))) (jo_n (jn_lst (jl_cons (je_nm 9) (jl_cons (je_str lit48) jl_nil))))))))))))) (je_nm 9))
    (jb_one (js_if (jt_not (jt_e ok (je_call hx (fun _ => (ok__law_same T 40)) (fun _ => (hr.mono (by decide))) (fun _ => T.g__law_same) (fun _ => T.F__law_same.kp) (fun _ => bi__law_same T) (ja_cons (jo_n (jn_lst (jl_cons (je_call hx (fun _ => (ok_tokens_of T)) (fun _ => (hr.mono (by decide))) (fun _ => T.g_tokens_of) (fun _ => T.F_tokens_of.kp) (fun _ => bi_tokens_of T) (ja_cons (jo_e (je_callD 1 hx (fun _ => (ok__law_t_wild T)) (fun _ => (hr.mono (by decide))) (fun _ => T.g__law_t_wild) (fun _ => T.F__law_t_wild.kp) (fun _ => bi__law_t_wild T) (jl_cons (je_nm 7) jl_nil) (fun ds ρ ρ' h => by rw [(mCons_len ret_len) ds ρ ρ' h]; rfl))) ja_nil) (mCons_len ret_len)) (jl_cons (je_call hx (fun _ => (ok_tokens_of T)) (fun _ => (hr.mono (by decide))) (fun _ => T.g_tokens_of) (fun _ => T.F_tokens_of.kp) (fun _ => bi_tokens_of T) (ja_cons (jo_e (je_add ok.kk (jo_e (je_add ok.kk (jo_e (je_join ok (jo_e (je_str lit6)) (jo_nm 7))) (jo_e (je_str lit6)))) (jo_nm 4))) ja_nil) (mCons_len ret_len)) jl_nil)))) (ja_cons (jo_n (jn_lst (jl_cons (je_nm 7) (jl_cons (je_add ok.kk (jo_nm 7) (jo_e (je_call hx (fun _ => (ok__law_t_tokens T)) (fun _ => (hr.mono (by decide))) (fun _ => T.g__law_t_tokens) (fun _ => T.F__law_t_tokens.kp) (fun _ => bi__law_t_tokens T) (ja_cons (jo_nm 4) ja_nil) (mCons_len ret_len)))) jl_nil)))) ja_nil)) (mCons_len (mCons_len ret_len))))) (jb_one (js_ret je_bl)) jb_nil)))))))))
    (jb_cons (js_set ok 8 (jv_e (je_n (jn_lst (jl_cons (je_tup (jl_cons (je_str lit7) (jl_cons (je_n (jn_lst jl_nil)) jl_nil))) (jl_cons (je_tup (jl_cons (je_str lit0) (jl_cons (je_n (jn_lst jl_nil)) jl_nil))) (jl_cons (je_tup (jl_cons (je_str lit53) (jl_cons (je_n (jn_lst (jl_cons (je_str lit39) (jl_cons (je_str lit52) (jl_cons (je_str lit46) jl_nil))))) jl_nil))) (jl_cons (je_tup (jl_cons (je_str lit51) (jl_cons (je_n (jn_lst (jl_cons (je_str lit51) jl_nil))) jl_nil))) (jl_cons (je_tup (jl_cons (je_str lit50) (jl_cons (je_n (jn_lst (jl_cons (je_str lit50) jl_nil))) jl_nil))) (jl_cons (je_tup (jl_cons (je_str lit49) (jl_cons (je_n (jn_lst (jl_cons (je_str lit27) (jl_cons (je_str lit48) jl_nil)))) jl_nil))) (jl_cons (je_tup (jl_cons (je_str lit47) (jl_cons (je_n (jn_lst (jl_cons (je_str lit39) (jl_cons (je_str lit30) (jl_cons (je_str lit43) (jl_cons (je_str lit32) (jl_cons (je_str lit46) jl_nil))))))) jl_nil))) (jl_cons (je_tup (jl_cons (je_str lit45) (jl_cons (je_n (jn_lst (jl_cons (je_str lit44) (jl_cons (je_str lit43) jl_nil)))) jl_nil))) (jl_cons (je_tup (jl_cons (je_str lit42) (jl_cons (je_n (jn_lst (jl_cons (je_str lit29) (jl_cons (je_str lit29) jl_nil)))) jl_nil))) jl_nil)))))))))))))
    (jb_one (js_ret (je_cmp (fun κ => by rw [← ok.kk κ]; exact op_eqX (ok.hu κ)) d_eq (jo_n (jn_lc ok [("text", 3), ("due", 5)] (ji_any ok (je_add ok.kk (jo_nm 8) (jo_n (jn_lst (jl_cons (je_tup (jl_cons (je_str lit41) (jl_cons (je_n (jn_lst (jl_cons (je_str lit41) jl_nil))) jl_nil))) (jl_cons (je_tup (jl_cons (je_str lit19) (jl_cons (je_n (jn_lst (jl_cons (je_str lit19) jl_nil))) jl_nil))) (jl_cons (je_tup (jl_cons (je_str lit40) (jl_cons (je_n (jn_lst (jl_cons (je_str lit30) (jl_cons (je_str lit30) jl_nil)))) jl_nil))) jl_nil))))))) (jg_tp (ok.blk _) (jgs_cons (jg_nm (ok.blk _) 3) (jgs_cons (jg_nm (ok.blk _) 5) jgs_nil))) (jf_one (jt_not (jt_e (ok.blk _) (je_call PassC.blk (fun _ => (ok__law_same T 40)) (fun _ => (hr.mono (by decide))) (fun _ => T.g__law_same) (fun _ => T.F__law_same.kp) (fun _ => bi__law_same T) (ja_cons (jo_e (je_call PassC.blk (fun _ => (ok_tokens_of T)) (fun _ => (hr.mono (by decide))) (fun _ => T.g_tokens_of) (fun _ => T.F_tokens_of.kp) (fun _ => bi_tokens_of T) (ja_cons (jo_nm 3) ja_nil) (mCons_len ret_len))) (ja_cons (jo_nm 5) ja_nil)) (mCons_len (mCons_len ret_len)))))) (je_nm 3))) (jo_n (jn_lst jl_nil))))))))

end
def fns : List He.DefD := [dfd "quoted_end" s_quoted_end, dfd "run_end" s_run_end, dfd "token_places" s_token_places, dfd "tokens_of" s_tokens_of, dfd "_law_draw" s__law_draw, dfd "_law_any" s__law_any, dfd "_law_of" s__law_of, dfd "_law_same" s__law_same, dfd "_law_t_tokens" s__law_t_tokens, dfd "_law_t_wild" s__law_t_wild, dfd "_law_some_text" s__law_some_text, dfd "law" s_law]
def fas : List He.Fa := [.glo "quoted_end", .glo "run_end", .glo "token_places", .glo "tokens_of", .glo "_law_draw", .glo "_law_any", .glo "_law_of", .glo "_law_same", .glo "_law_t_tokens", .glo "_law_t_wild", .glo "_law_some_text", .glo "law", .free "abs", .free "bool", .free "int", .free "isinstance", .free "len", .free "list", .free "min", .free "range", .free "str", .free "tuple", .free "zip"]
def css : List (Str × D) := [("BLANKS", k_BLANKS), ("SIGNS", k_SIGNS), ("QUOTE", k_QUOTE), ("SLASH", k_SLASH)]
theorem txt_of {K : PySem.W.Frag} {h : Heap} {mg : Str → Option Value} (X : K.In h) (G : h.Ns mainGlobals mg) (c : SaysX fas fns css K) : Txt K mg where
  F_quoted_end := c.fn 0
  g_quoted_end := He.glo_ok X G (c.d.fact 0 (f := .glo "quoted_end") rfl)
  F_run_end := c.fn 1
  g_run_end := He.glo_ok X G (c.d.fact 1 (f := .glo "run_end") rfl)
  F_token_places := c.fn 2
  g_token_places := He.glo_ok X G (c.d.fact 2 (f := .glo "token_places") rfl)
  F_tokens_of := c.fn 3
  g_tokens_of := He.glo_ok X G (c.d.fact 3 (f := .glo "tokens_of") rfl)
  F__law_draw := c.fn 4
  g__law_draw := He.glo_ok X G (c.d.fact 4 (f := .glo "_law_draw") rfl)
  F__law_any := c.fn 5
  g__law_any := He.glo_ok X G (c.d.fact 5 (f := .glo "_law_any") rfl)
  F__law_of := c.fn 6
  g__law_of := He.glo_ok X G (c.d.fact 6 (f := .glo "_law_of") rfl)
  F__law_same := c.fn 7
  g__law_same := He.glo_ok X G (c.d.fact 7 (f := .glo "_law_same") rfl)
  F__law_t_tokens := c.fn 8
  g__law_t_tokens := He.glo_ok X G (c.d.fact 8 (f := .glo "_law_t_tokens") rfl)
  F__law_t_wild := c.fn 9
  g__law_t_wild := He.glo_ok X G (c.d.fact 9 (f := .glo "_law_t_wild") rfl)
  F__law_some_text := c.fn 10
  g__law_some_text := He.glo_ok X G (c.d.fact 10 (f := .glo "_law_some_text") rfl)
  F_law := c.fn 11
  g_law := He.glo_ok X G (c.d.fact 11 (f := .glo "law") rfl)
  n_abs := He.free_ok X G (c.d.fact 12 (f := .free "abs") rfl)
  n_bool := He.free_ok X G (c.d.fact 13 (f := .free "bool") rfl)
  n_int := He.free_ok X G (c.d.fact 14 (f := .free "int") rfl)
  n_isinstance := He.free_ok X G (c.d.fact 15 (f := .free "isinstance") rfl)
  n_len := He.free_ok X G (c.d.fact 16 (f := .free "len") rfl)
  n_list := He.free_ok X G (c.d.fact 17 (f := .free "list") rfl)
  n_min := He.free_ok X G (c.d.fact 18 (f := .free "min") rfl)
  n_range := He.free_ok X G (c.d.fact 19 (f := .free "range") rfl)
  n_str := He.free_ok X G (c.d.fact 20 (f := .free "str") rfl)
  n_tuple := He.free_ok X G (c.d.fact 21 (f := .free "tuple") rfl)
  n_zip := He.free_ok X G (c.d.fact 22 (f := .free "zip") rfl)
  c_BLANKS := cstOk_ok X G (c.cst 0 (x := "BLANKS") (d := k_BLANKS) rfl)
  c_SIGNS := cstOk_ok X G (c.cst 1 (x := "SIGNS") (d := k_SIGNS) rfl)
  c_QUOTE := cstOk_ok X G (c.cst 2 (x := "QUOTE") (d := k_QUOTE) rfl)
  c_SLASH := cstOk_ok X G (c.cst 3 (x := "SLASH") (d := k_SLASH) rfl)
theorem law_at {P : Program} {w : World} {K : PySem.W.Frag} {mg : Str → Option Value} {f : Addr} (T : Txt K mg) (hf : mg "law" = some (.ref f)) :
    ∃ fd : FuncData, (∀ (s : Shared) (u : Value), BindsTo s fd ⟨[u], []⟩ [("script", u)]) ∧ ∀ base : Heap, FnOk P w K mg base (L2.CX P w) 41 f fd ["script"] (spD K (fun _ _ => True) [] 1 F_law) := by
  have e := hf.symm.trans T.g_law
  cases e
  exact ⟨d_law K, fun s u => Dy.fun_binds T.F_law (ps := ["script"]) (fun _ _ _ _ _ _ us hl => match us, hl with | [_], _ => rfl) s [u] rfl, fun base => ok_law T⟩
theorem subS_one (c : Nat) (x : List Nat) : subS [c] x = x.contains c := by
  rw [Bool.eq_iff_iff, List.contains_iff_mem, subS, List.any_eq_true]
  constructor
  · rintro ⟨i, _, h⟩
    simp only [Bool.and_eq_true, decide_eq_true_eq, beq_iff_eq, List.length_singleton] at h
    have : c ∈ (x.drop i).take 1 := by rw [h.2]; exact List.mem_singleton.mpr rfl
    exact List.mem_of_mem_drop (List.mem_of_mem_take this)
  · intro h
    obtain ⟨i, hi, e⟩ := List.getElem_of_mem h
    refine ⟨i, List.mem_range.mpr (by omega), ?_⟩
    simp only [Bool.and_eq_true, decide_eq_true_eq, beq_iff_eq, List.length_singleton]
    refine ⟨hi, ?_⟩
    rw [List.drop_eq_getElem_cons hi, e]
    rfl
theorem atI_nat {α : Type} (xs : List α) (p : Nat) : atI xs (p : Int) = xs[p]? := by
  unfold atI ixN
  rw [if_pos (by omega)]
  by_cases h : p < xs.length
  · rw [if_pos (by omega)]
    rfl
  · rw [if_neg (by omega), List.getElem?_eq_none (by omega)]
    rfl
def blank (c : Nat) : Bool := c == 32 || c == 10 || c == 9
def sign (c : Nat) : Bool := [123, 125, 91, 93, 61, 44, 46].contains c
def plain (c : Nat) : Bool := !blank c && !sign c && !(c == 34)
def qlen : List Nat → Nat
  | [] => 0
  | [_] => 1
  | c :: d :: r => if c = 34 then 1 else if c = 92 then 2 + qlen r else 1 + qlen (d :: r)
theorem qlen_le : ∀ s : List Nat, qlen s ≤ s.length
  | [] => Nat.le_refl _
  | [_] => Nat.le_refl _
  | c :: d :: r => by
    have h1 := qlen_le r
    have h2 := qlen_le (d :: r)
    unfold qlen
    split
    · simp
    · split
      · simp only [List.length_cons] at *
        omega
      · simp only [List.length_cons] at *
        omega
def rlen : List Nat → Nat
  | [] => 0
  | c :: r => if plain c then 1 + rlen r else 0
theorem rlen_le : ∀ s : List Nat, rlen s ≤ s.length
  | [] => Nat.le_refl _
  | c :: r => by
    have := rlen_le r
    unfold rlen
    split
    · simp only [List.length_cons]
      omega
    · omega
theorem qlen_q (r : List Nat) : qlen (34 :: r) = 1 := by cases r <;> simp [qlen]
theorem qlen_s (r : List Nat) : qlen (92 :: r) = if r = [] then 1 else 2 + qlen (r.drop 1) := by cases r <;> simp [qlen]
theorem qlen_o {c : Nat} (r : List Nat) (h1 : c ≠ 34) (h2 : c ≠ 92) : qlen (c :: r) = 1 + qlen r := by cases r <;> simp [qlen, h1, h2]
/-- the end of a quoted token, from a place behind its first sign -/
theorem quote_run (s : List Nat) (p E : Nat) (i : Nat) (hE0 : p + qlen (s.drop p) = E) (hp : p ≤ s.length) {t : M Bool} {b : M Out} {Q : Out → Ev → Prop} {ev : Int → Ev}
    (ht : ∀ q : Nat, q ≤ s.length + 1 → wp t (ev q) (fun c ρ1 => (∀ h : q < s.length, c = (s[q] != 34)) ∧ (¬ q < s.length → c = false) ∧ ρ1 = ev q) XF)
    (hb : ∀ q : Nat, ∀ h : q < s.length, s[q] ≠ 34 → ∀ J : Ev → Prop, J (ev ((q + (if s[q] = 92 then 2 else 1) : Nat) : Int)) → wp b (ev q) (loopI J Q) XF)
    (hQ : ∀ q : Nat, q ≤ s.length + 1 → min (q + 1) s.length = E → Q .nx (ev q)) : wp (mWhile t b) (ev p) Q XF := by
  have hle := qlen_le (s.drop p)
  rw [List.length_drop] at hle
  refine wp_while (I := fun k ρ => ∃ q : Nat, ρ = ev q ∧ q ≤ s.length + 1 ∧ k = s.length + 1 - q ∧ min (q + qlen (s.drop q)) s.length = E) ?_ (n := s.length + 1 - p) ⟨p, rfl, by omega, by omega, by omega⟩
  rintro k ρ ⟨q, rfl, hq, rfl, hE⟩
  refine wp_imp (ht q hq) fun c ρ1 ⟨h1, h2, h3⟩ => ?_
  subst h3
  by_cases h : q < s.length
  · have e1 : s.drop q = s[q] :: s.drop (q + 1) := List.drop_eq_getElem_cons h
    rw [e1] at hE
    rw [h1 h]
    by_cases c1 : s[q] = 34
    · rw [c1, qlen_q] at hE
      rw [c1]
      simp
      exact hQ q hq (by omega)
    · have : (s[q] != 34) = true := by simpa using c1
      rw [this, if_pos rfl]
      refine hb q h c1 _ ?_
      by_cases c2 : s[q] = 92
      · rw [c2, qlen_s] at hE
        rw [if_pos c2]
        refine ⟨s.length + 1 - (q + 2), by omega, q + 2, rfl, by omega, rfl, ?_⟩
        by_cases c3 : s.drop (q + 1) = []
        · rw [if_pos c3] at hE
          have := List.drop_eq_nil_iff.mp c3
          rw [List.drop_of_length_le (show s.length ≤ q + 2 by omega)]
          show min (q + 2 + 0) s.length = E
          omega
        · rw [if_neg c3, List.drop_drop] at hE
          have hE : min (q + (2 + qlen (s.drop (q + 2)))) s.length = E := hE
          rw [← hE, Nat.add_assoc]
      · rw [qlen_o _ c1 c2] at hE
        rw [if_neg c2]
        exact ⟨s.length + 1 - (q + 1), by omega, q + 1, rfl, by omega, rfl, by omega⟩
  · rw [h2 h]
    simp
    refine hQ q hq ?_
    rw [List.drop_of_length_le (show s.length ≤ q by omega)] at hE
    have hE : min (q + 0) s.length = E := hE
    omega
theorem quoted_end_eq (s : List Nat) (p : Nat) (hp : p < s.length) : F_quoted_end [.val (.str s), .val (.int p)] = .ok (.int ((p + 1 + qlen (s.drop (p + 1)) : Nat) : Int)) [] := by
  refine run_eq ?_
  unfold b_quoted_end
  simp [initE]
  refine quote_run s (p + 1) _ 1 rfl hp (ev := fun q => [.val (.str s), .val (.int q)]) ?_ ?_ ?_
  · intro q hq
    by_cases h : q < s.length
    · simp [h, atI_nat, k_QUOTE, bne]
    · simp [h]
  · intro q h h1 J hJ
    by_cases h2 : s[q] = 92
    · rw [if_pos h2] at hJ
      simp [h, atI_nat, k_SLASH, h2]
      exact hJ
    · rw [if_neg h2] at hJ
      simp [h, atI_nat, k_SLASH, h2]
      exact hJ
  · intro q hq hE
    simp
    split <;> omega
theorem rlen_c (c : Nat) (r : List Nat) : rlen (c :: r) = if plain c then 1 + rlen r else 0 := rfl
/-- the end of a run -/
theorem plain_run (s : List Nat) (p E : Nat) (hE0 : p + rlen (s.drop p) = E) (hp : p ≤ s.length) {t : M Bool} {b : M Out} {Q : Out → Ev → Prop} {ev : Int → Ev}
    (ht : ∀ q : Nat, q ≤ s.length → wp t (ev q) (fun c ρ1 => (∀ h : q < s.length, c = plain s[q]) ∧ (¬ q < s.length → c = false) ∧ ρ1 = ev q) XF)
    (hb : ∀ q : Nat, ∀ h : q < s.length, ∀ J : Ev → Prop, J (ev ((q + 1 : Nat) : Int)) → wp b (ev q) (loopI J Q) XF)
    (hQ : Q .nx (ev E)) : wp (mWhile t b) (ev p) Q XF := by
  refine wp_while (I := fun k ρ => ∃ q : Nat, ρ = ev q ∧ q ≤ s.length ∧ k = s.length - q ∧ q + rlen (s.drop q) = E) ?_ (n := s.length - p) ⟨p, rfl, hp, rfl, hE0⟩
  rintro k ρ ⟨q, rfl, hq, rfl, hE⟩
  refine wp_imp (ht q hq) fun c ρ1 ⟨h1, h2, h3⟩ => ?_
  subst h3
  by_cases h : q < s.length
  · have e1 : s.drop q = s[q] :: s.drop (q + 1) := List.drop_eq_getElem_cons h
    rw [e1, rlen_c] at hE
    rw [h1 h]
    by_cases c1 : plain s[q] = true
    · rw [if_pos c1] at hE ⊢
      refine hb q h _ ⟨s.length - (q + 1), by omega, q + 1, rfl, by omega, rfl, by omega⟩
    · rw [if_neg c1] at hE ⊢
      have : q = E := by omega
      subst this
      exact hQ
  · rw [h2 h]
    simp
    rw [List.drop_of_length_le (show s.length ≤ q by omega)] at hE
    have : q = E := hE
    subst this
    exact hQ
theorem run_end_eq (s : List Nat) (p : Nat) (hp : p ≤ s.length) : F_run_end [.val (.str s), .val (.int p)] = .ok (.int ((p + rlen (s.drop p) : Nat) : Int)) [] := by
  refine run_eq ?_
  unfold b_run_end
  simp [initE]
  refine plain_run s p _ rfl hp (ev := fun q => [.val (.str s), .val (.int q)]) ?_ ?_ ?_
  · intro q hq
    by_cases h : q < s.length
    · simp [h, atI_nat, k_QUOTE, k_BLANKS, k_SIGNS, subS_one]
      split
      · split
        · intro _
          simp_all [plain, blank, sign]
        · intro _
          simp_all [plain, blank, sign]
      · intro _
        simp_all [plain, blank, sign]
    · simp [h]
  · intro q h J hJ
    simp
    exact hJ
  · simp
/-! ### the tokens of a text -/
def tlen (c : Nat) (r : List Nat) : Nat := if c = 34 then qlen r else if sign c then 0 else rlen r
theorem tlen_le (c : Nat) (r : List Nat) : tlen c r ≤ r.length := by
  unfold tlen
  split
  · exact qlen_le r
  · split
    · exact Nat.zero_le _
    · exact rlen_le r
def toks : List Nat → List (List Nat)
  | [] => []
  | c :: r => if blank c then toks r else (c :: r.take (tlen c r)) :: toks (r.drop (tlen c r))
termination_by s => s.length
decreasing_by
  · simp
  · simp only [List.length_drop, List.length_cons]
    omega
theorem toks_nil : toks [] = [] := by rw [toks]
theorem toks_blank {c : Nat} {r : List Nat} (h : blank c = true) : toks (c :: r) = toks r := by rw [toks, if_pos h]
theorem toks_cons {c : Nat} {r : List Nat} (h : blank c = false) : toks (c :: r) = (c :: r.take (tlen c r)) :: toks (r.drop (tlen c r)) := by rw [toks, h, if_neg Bool.false_ne_true]
def pl (p : Nat × Nat) : D := .tup [.int p.1, .int p.2]
def cut (s : List Nat) (p : Nat × Nat) : List Nat := (s.drop p.1).take (p.2 - p.1)
theorem toks_step {s : List Nat} {q : Nat} {ps : List (Nat × Nat)} (h : q < s.length) (hb : blank s[q] = false) (hI : ps.map (cut s) ++ toks (s.drop q) = toks s) :
    (ps ++ [(q, q + 1 + tlen s[q] (s.drop (q + 1)))]).map (cut s) ++ toks (s.drop (q + 1 + tlen s[q] (s.drop (q + 1)))) = toks s := by
  have e1 : s.drop q = s[q] :: s.drop (q + 1) := List.drop_eq_getElem_cons h
  rw [e1, toks_cons hb, List.drop_drop] at hI
  rw [← hI, List.map_append, List.append_assoc]
  congr 1
  show cut s (q, _) :: _ = _
  congr 1
  unfold cut
  rw [e1, show q + 1 + tlen s[q] (s.drop (q + 1)) - q = tlen s[q] (s.drop (q + 1)) + 1 by omega]
  rfl
theorem places_eq (s : List Nat) (hs : s.length < sizeLine) : ∃ ps : List (Nat × Nat), F_token_places [.val (.str s)] = .ok (.lst (ps.map pl)) [] ∧ ps.map (cut s) = toks s ∧ ps.length ≤ s.length := by
  have main : ∃ (d : D) (ρ' : Ev), F_token_places [.val (.str s)] = .ok d (ρ'.take 0) ∧ ∃ ps : List (Nat × Nat), d = .lst (ps.map pl) ∧ ps.map (cut s) = toks s ∧ ps.length ≤ s.length := by
    refine run_of ?_
    unfold b_token_places
    simp [initE]
    refine wp_while (I := fun k ρ => ∃ (q : Nat) (ps : List (Nat × Nat)) (s3 : Sl), ρ = [.val (.str s), .own (ps.map pl), .val (.int q), s3] ∧ q ≤ s.length ∧ k = s.length - q ∧ ps.length ≤ q ∧ ps.map (cut s) ++ toks (s.drop q) = toks s) ?_ (n := s.length) ⟨0, [], .un, rfl, by omega, by omega, Nat.le_refl _, rfl⟩
    rintro k ρ ⟨q, ps, s3, rfl, hq, rfl, hn, hI⟩
    by_cases h : q < s.length
    · have e1 : s.drop q = s[q] :: s.drop (q + 1) := List.drop_eq_getElem_cons h
      have et := fun hb => toks_step h hb hI
      have tl := tlen_le s[q] (s.drop (q + 1))
      rw [List.length_drop] at tl
      have q1 := quoted_end_eq s q h
      have q2 := run_end_eq s q hq
      have hz : 2 ≤ sizeLine := by decide
      have fin : ∀ E : Nat, blank s[q] = false → E = q + 1 + tlen s[q] (s.drop (q + 1)) → ∃ m, m < s.length - q ∧ ∃ (q1 : Nat) (ps1 : List (Nat × Nat)), (ps.map pl ++ [D.tup [.int (q : Int), .int (E : Int)]] = ps1.map pl ∧ E = q1) ∧ q1 ≤ s.length ∧ m = s.length - q1 ∧ ps1.length ≤ q1 ∧ ps1.map (cut s) ++ toks (s.drop q1) = toks s := by
        rintro E hb rfl
        exact ⟨_, by omega, _, ps ++ [(q, _)], ⟨by rw [List.map_append]; rfl, rfl⟩, by omega, rfl, by rw [List.length_append, List.length_singleton]; omega, et hb⟩
      simp [h, atI_nat, k_QUOTE, k_BLANKS, k_SIGNS, subS_one]
      split
      · rename_i hc
        have hb : blank s[q] = true := by simpa [blank, or_assoc] using hc
        rw [e1, toks_blank hb] at hI
        exact ⟨_, by omega, q + 1, ps, ⟨rfl, rfl⟩, by omega, rfl, by omega, hI⟩
      · rename_i hc
        have hb : blank s[q] = false := by
          rw [← Bool.not_eq_true]
          simpa [blank, or_assoc] using hc
        split
        · rename_i h34
          obtain ⟨m, hm, a1, a2, a3, a4⟩ := fin (q + 1 + qlen (s.drop (q + 1))) hb (by rw [tlen, if_pos h34])
          rw [q1]
          simp
          exact ⟨hz, by omega, m, hm, a1, a2, ⟨a3.1, by have := a3.2; omega⟩, a4⟩
        · rename_i h34
          split
          · rename_i hg
            have hsg : sign s[q] = false := by
              rw [← Bool.not_eq_true]
              simpa [sign] using hg
            have hpl : plain s[q] = true := by
              unfold plain
              rw [hb, hsg]
              simpa using h34
            obtain ⟨m, hm, a1, a2, a3, a4⟩ := fin (q + rlen (s.drop q)) hb (by rw [tlen, if_neg h34, hsg, if_neg Bool.false_ne_true, e1, rlen_c, if_pos hpl]; omega)
            rw [q2]
            simp
            exact ⟨hz, by omega, m, hm, a1, a2, ⟨a3.1, by have := a3.2; omega⟩, a4⟩
          · rename_i hg
            have hsg : sign s[q] = true := by
              rw [← Bool.not_eq_false]
              intro z
              exact hg (by simpa [sign] using z)
            obtain ⟨m, hm, a1, a2, a3, a4⟩ := fin (q + 1) hb (by rw [tlen, if_neg h34, hsg, if_pos rfl])
            exact ⟨hz, by omega, m, hm, a1, a2, ⟨a3.1, by have := a3.2; omega⟩, a4⟩
    · simp [h]
      rw [List.drop_of_length_le (show s.length ≤ q by omega), toks_nil, List.append_nil] at hI
      exact ⟨ps, rfl, hI, by omega⟩
  obtain ⟨d, ρ', e, ps, rfl, h⟩ := main
  exact ⟨ps, e, h⟩
theorem tokens_of_eq (s : List Nat) (hs : s.length < sizeLine) : F_tokens_of [.val (.str s)] = .ok (.lst ((toks s).map D.str)) [] := by
  obtain ⟨ps, e, hm, hl⟩ := places_eq s hs
  refine run_eq ?_
  unfold b_tokens_of
  simp [initE]
  refine wp_lc2 (ps.map pl) [.val (.str s), .un, .un] (I := fun ds acc ρ => ∃ (s1 s2 : Sl) (as bs : List (Nat × Nat)), ρ = [.val (.str s), s1, s2] ∧ ps = as ++ bs ∧ ds = bs.map pl ∧ acc = as.map fun p => D.str (cut s p)) ?_ ⟨_, _, [], ps, rfl, rfl, rfl, rfl⟩ ?_ ?_
  · simp [e]
  · rintro d ds acc ρ ⟨s1, s2, as, bs, rfl, ep, ed, rfl⟩
    cases bs with
    | nil => cases ed
    | cons b bs =>
      cases ed
      have : as.length < sizeLine := by
        rw [ep, List.length_append, List.length_cons] at hl
        omega
      simp [pl, cutL_mid, this]
      exact ⟨as ++ [b], bs, by rw [ep]; simp, rfl, by simp [cut]⟩
  · rintro zs ρ2 ⟨s1, s2, as, bs, rfl, ep, ed, rfl⟩
    have : bs = [] := by
      cases bs with
      | nil => rfl
      | cons b bs => cases ed
    subst this
    rw [List.append_nil] at ep
    subst ep
    rw [← hm]
    simp
theorem t_tokens_eq (s : List Nat) (hs : s.length < sizeLine) : F__law_t_tokens [.val (.str s)] = .ok (.lst ((toks s).map D.str)) [] := by
  refine run_eq ?_
  unfold b__law_t_tokens
  simp [initE]
  refine wp_while (I := fun k ρ => ∃ (q : Nat) (ts : List (List Nat)) (s3 s4 : Sl), ρ = [.val (.str s), .own (ts.map D.str), .val (.int q), s3, s4] ∧ q ≤ s.length ∧ k = s.length - q ∧ ts.length ≤ q ∧ ts ++ toks (s.drop q) = toks s) ?_ (n := s.length) ⟨0, [], .un, .un, rfl, by omega, by omega, Nat.le_refl _, rfl⟩
  rintro k ρ ⟨q, ts, s3, s4, rfl, hq, rfl, hn, hI⟩
  by_cases h : q < s.length
  · have e1 : s.drop q = s[q] :: s.drop (q + 1) := List.drop_eq_getElem_cons h
    have tl := tlen_le s[q] (s.drop (q + 1))
    rw [List.length_drop] at tl
    have fin : ∀ E : Nat, blank s[q] = false → E = q + 1 + tlen s[q] (s.drop (q + 1)) → ts.length < sizeLine ∧ ∃ m, m < s.length - q ∧ ∃ (q1 : Nat) (ts1 : List (List Nat)), (ts.map D.str ++ [D.str (cutL s (some (q : Int)) (some (E : Int)))] = ts1.map D.str ∧ (E : Int) = (q1 : Int)) ∧ q1 ≤ s.length ∧ m = s.length - q1 ∧ ts1.length ≤ q1 ∧ ts1 ++ toks (s.drop q1) = toks s := by
      rintro E hb rfl
      refine ⟨by omega, _, by omega, _, ts ++ [_], ⟨by rw [List.map_append]; rfl, rfl⟩, by omega, rfl, by rw [List.length_append, List.length_singleton]; omega, ?_⟩
      rw [← hI, e1, toks_cons hb, cutL_mid, e1, show q + 1 + tlen s[q] (s.drop (q + 1)) - q = tlen s[q] (s.drop (q + 1)) + 1 by omega, List.append_assoc, List.drop_drop]
      rfl
    simp [h, atI_nat, lit1s, lit0s, lit3s, subS_one]
    split
    · rename_i h34
      have hb : blank s[q] = false := by rw [h34]; rfl
      refine quote_run s (q + 1) _ 1 rfl (by omega) (ev := fun i => [.val (.str s), .own (ts.map D.str), .val (.int q), .val (.str [s[q]]), .val (.int i)]) ?_ ?_ ?_
      · intro p hp
        by_cases hh : p < s.length
        · simp [hh, atI_nat, bne]
        · simp [hh]
      · intro p hh h1 J hJ
        by_cases h2 : s[p] = 92
        · rw [if_pos h2] at hJ
          simp [hh, atI_nat, lit2s, h2]
          exact hJ
        · rw [if_neg h2] at hJ
          simp [hh, atI_nat, lit2s, h2]
          exact hJ
      · intro p hp hE
        have hE2 : (if (s.length : Int) < (p : Int) + 1 then (s.length : Int) else (p : Int) + 1) = ((q + 1 + qlen (s.drop (q + 1)) : Nat) : Int) := by split <;> omega
        simp [h34]
        rw [hE2]
        exact fin _ hb (by rw [tlen, if_pos h34])
    · rename_i h34
      split
      · rename_i hc
        have hb : blank s[q] = false := by
          rw [← Bool.not_eq_true]
          simp only [blank, Bool.or_eq_true, beq_iff_eq]
          omega
        have hsg : sign s[q] = false := by
          rw [← Bool.not_eq_true]
          simp [sign]
          omega
        refine plain_run s (q + 1) _ rfl (by omega) (ev := fun i => [.val (.str s), .own (ts.map D.str), .val (.int q), .val (.str [s[q]]), .val (.int i)]) ?_ ?_ ?_
        · intro p hp
          by_cases hh : p < s.length
          · simp [hh, atI_nat, lit4s, subS_one]
            intro _
            rw [Bool.eq_iff_iff]
            simp [plain, blank, sign]
            omega
          · simp [hh]
        · intro p hh J hJ
          simp
          exact hJ
        · have hd := hc.2.2.2.2.2.2.2
          simp [hd, subS_one]
          exact fin _ hb (by rw [tlen, if_neg h34, hsg, if_neg Bool.false_ne_true])
      · rename_i hc
        split
        · rename_i hd
          have hb : blank s[q] = false := by
            rw [← Bool.not_eq_true]
            simp only [blank, Bool.or_eq_true, beq_iff_eq]
            omega
          have hsg : sign s[q] = true := by
            simp [sign]
            omega
          exact fin (q + 1) hb (by rw [tlen, if_neg h34, hsg, if_pos rfl])
        · rename_i hd
          have hb : blank s[q] = true := by
            simp only [blank, Bool.or_eq_true, beq_iff_eq]
            omega
          rw [e1, toks_blank hb] at hI
          exact ⟨_, by omega, q + 1, ts, ⟨rfl, rfl⟩, by omega, rfl, by omega, hI⟩
  · simp [h]
    rw [List.drop_of_length_le (show s.length ≤ q by omega), toks_nil, List.append_nil] at hI
    rw [hI]
/-! ### what tokens are -/
def Run (t : List Nat) : Prop := t ≠ [] ∧ ∀ c ∈ t, plain c = true
def Closed (t : List Nat) : Prop := t ≠ [] ∧ ∀ r, toks (t ++ r) = t :: toks r
theorem run_take : ∀ r : List Nat, ∀ c ∈ r.take (rlen r), plain c = true
  | [], c, h => by cases h
  | x :: r, c, h => by
    rw [rlen_c] at h
    by_cases hx : plain x = true
    · rw [if_pos hx, Nat.add_comm, List.take_succ_cons] at h
      rcases List.mem_cons.mp h with rfl | h
      · exact hx
      · exact run_take r c h
    · rw [if_neg hx] at h
      cases h
theorem rlen_run : ∀ {t : List Nat} (r : List Nat), (∀ c ∈ t, plain c = true) → (∀ c, r.head? = some c → plain c = false) → rlen (t ++ r) = t.length
  | [], r, _, h => by
    cases r with
    | nil => rfl
    | cons c r => rw [List.nil_append, rlen_c, h c rfl, if_neg Bool.false_ne_true]; rfl
  | x :: t, r, h1, h2 => by
    rw [List.cons_append, rlen_c, if_pos (h1 x (List.mem_cons_self ..)), rlen_run r (fun c hc => h1 c (List.mem_cons_of_mem _ hc)) h2, List.length_cons]
    omega
theorem plain_not {c : Nat} (h : plain c = true) : blank c = false ∧ sign c = false ∧ c ≠ 34 := by
  unfold plain at h
  simp only [Bool.and_eq_true, Bool.not_eq_true', beq_eq_false_iff_ne] at h
  exact ⟨h.1.1, h.1.2, h.2⟩
theorem toks_run {t : List Nat} (h : Run t) (r : List Nat) (hr : ∀ c, r.head? = some c → plain c = false) : toks (t ++ r) = t :: toks r := by
  obtain ⟨hn, hp⟩ := h
  cases t with
  | nil => exact absurd rfl hn
  | cons c t =>
    obtain ⟨hb, hs, h34⟩ := plain_not (hp c (List.mem_cons_self ..))
    rw [List.cons_append, toks_cons hb]
    have e : tlen c (t ++ r) = t.length := by
      unfold tlen
      rw [if_neg h34, hs, if_neg Bool.false_ne_true]
      exact rlen_run r (fun x hx => hp x (List.mem_cons_of_mem _ hx)) hr
    rw [e, List.take_left', List.drop_left'] <;> rfl
theorem closed_sign {c : Nat} (h : sign c = true) : Closed [c] := by
  refine ⟨by simp, fun r => ?_⟩
  have hb : blank c = false := by
    rw [← Bool.not_eq_true]
    intro z
    simp [blank] at z
    simp [sign] at h
    omega
  have h34 : c ≠ 34 := by
    rintro rfl
    exact absurd h (by decide)
  have e : tlen c r = 0 := by
    unfold tlen
    rw [if_neg h34, if_pos h]
  rw [List.singleton_append, toks_cons hb, e]
  rfl
theorem qlen_closed : ∀ (n : Nat) (b : List Nat) (x : Nat), b.length ≤ n → qlen (b ++ [x]) = b.length → ∀ r, qlen (b ++ r) = b.length
  | _, [], x, _, h, _ => by simp [qlen] at h
  | _, [c], x, _, h, r => by
    by_cases h1 : c = 34
    · subst h1
      exact qlen_q r
    · by_cases h2 : c = 92
      · subst h2
        simp [qlen] at h
      · simp [qlen, h1, h2] at h
  | n + 1, c :: d :: b, x, hn, h, r => by
    simp only [List.cons_append, List.length_cons] at h hn ⊢
    by_cases h1 : c = 34
    · subst h1
      rw [qlen_q] at h
      omega
    · by_cases h2 : c = 92
      · subst h2
        rw [qlen_s, if_neg (by simp)] at h ⊢
        simp only [List.drop_succ_cons, List.drop_zero] at h ⊢
        rw [qlen_closed n b x (by omega) (by omega) r]
        omega
      · rw [qlen_o _ h1 h2] at h ⊢
        have := qlen_closed n (d :: b) x (by simp only [List.length_cons]; omega) (by simp only [List.cons_append, List.length_cons]; omega) r
        simp only [List.cons_append, List.length_cons] at this
        rw [this]
        omega
theorem closed_quote {b : List Nat} {x : Nat} (h : toks (34 :: (b ++ [x])) = [34 :: b, [x]]) : Closed (34 :: b) := by
  have hb : blank 34 = false := rfl
  have et : ∀ r, tlen 34 r = qlen r := fun r => if_pos rfl
  rw [toks_cons hb, et] at h
  have h1 : (b ++ [x]).take (qlen (b ++ [x])) = b := by
    have := (List.cons.inj h).1
    exact (List.cons.inj this).2
  have hl := congrArg List.length h1
  have hle := qlen_le (b ++ [x])
  simp only [List.length_take, List.length_append, List.length_singleton] at hl hle
  have hq : qlen (b ++ [x]) = b.length := by omega
  refine ⟨by simp, fun r => ?_⟩
  rw [List.cons_append, toks_cons hb, et, qlen_closed b.length b x (Nat.le_refl _) hq r, List.take_left', List.drop_left'] <;> rfl
theorem tok_kind : ∀ (n : Nat) (s : List Nat), s.length ≤ n → ∀ t ∈ toks s, Run t ∨ (∃ c, t = [c] ∧ sign c = true) ∨ ∃ b, t = 34 :: b
  | _, [], _, t, h => by
    rw [toks_nil] at h
    cases h
  | n + 1, c :: r, hn, t, h => by
    simp only [List.length_cons] at hn
    cases hb : blank c with
    | true =>
      rw [toks_blank hb] at h
      exact tok_kind n r (by omega) t h
    | false =>
      rw [toks_cons hb] at h
      rcases List.mem_cons.mp h with rfl | h
      · by_cases h34 : c = 34
        · exact .inr (.inr ⟨_, by rw [h34]⟩)
        · cases hs : sign c with
          | true =>
            refine .inr (.inl ⟨c, ?_, hs⟩)
            have e : tlen c r = 0 := by
              unfold tlen
              rw [if_neg h34, if_pos hs]
            rw [e]
            rfl
          | false =>
            refine .inl ⟨by simp, fun x hx => ?_⟩
            have hpl : plain c = true := by
              unfold plain
              rw [hb, hs]
              simpa using h34
            rcases List.mem_cons.mp hx with rfl | hx
            · exact hpl
            · have e : tlen c r = rlen r := by
                unfold tlen
                rw [if_neg h34, hs, if_neg Bool.false_ne_true]
              rw [e] at hx
              exact run_take r x hx
      · exact tok_kind n _ (by rw [List.length_drop]; omega) t h
theorem toks_sum : ∀ (n : Nat) (s : List Nat), s.length ≤ n → sumL (toks s) ≤ s.length ∧ (toks s).length ≤ s.length
  | _, [], _ => by
    rw [toks_nil]
    exact ⟨Nat.le_refl _, Nat.le_refl _⟩
  | n + 1, c :: r, hn => by
    simp only [List.length_cons] at hn ⊢
    cases hb : blank c with
    | true =>
      rw [toks_blank hb]
      have := toks_sum n r (by omega)
      omega
    | false =>
      rw [toks_cons hb]
      have := toks_sum n (r.drop (tlen c r)) (by rw [List.length_drop]; omega)
      have tl := tlen_le c r
      rw [List.length_drop] at this
      simp only [sumL, List.map_cons, List.sum_cons, List.length_cons, List.length_take] at *
      omega
def Tok (t : List Nat) : Prop := Run t ∨ Closed t
theorem toks_blanks : ∀ {b : List Nat} (r : List Nat), (∀ c ∈ b, blank c = true) → toks (b ++ r) = toks r
  | [], _, _ => rfl
  | c :: b, r, h => by
    rw [List.cons_append, toks_blank (h c (List.mem_cons_self ..)), toks_blanks r fun x hx => h x (List.mem_cons_of_mem _ hx)]
theorem blank_not {c : Nat} (h : blank c = true) : plain c = false := by
  unfold plain
  rw [h]
  rfl
theorem join_toks : ∀ {ts : List (List Nat)} (r : List Nat), (∀ t ∈ ts, Tok t) → toks (TL.joinL [32] ts ++ 32 :: r) = ts ++ toks r
  | [], r, _ => toks_blank rfl
  | [t], r, h => by
    show toks (t ++ 32 :: r) = t :: toks r
    have e : toks (32 :: r) = toks r := toks_blank rfl
    rcases h t (List.mem_singleton.mpr rfl) with k | k
    · rw [toks_run k, e]
      rintro c hc
      cases hc
      rfl
    · rw [k.2, e]
  | t :: u :: ts, r, h => by
    have ih := join_toks (ts := u :: ts) r fun x hx => h x (List.mem_cons_of_mem _ hx)
    show toks (t ++ ([32] ++ TL.joinL [32] (u :: ts)) ++ 32 :: r) = t :: (u :: ts ++ toks r)
    rw [← ih, List.append_assoc, List.append_assoc]
    have e : toks ([32] ++ (TL.joinL [32] (u :: ts) ++ 32 :: r)) = toks (TL.joinL [32] (u :: ts) ++ 32 :: r) := toks_blank rfl
    rcases h t (List.mem_cons_self ..) with k | k
    · rw [toks_run k, e]
      rintro c hc
      cases hc
      rfl
    · rw [k.2, e]
/-! ### texts that are drawn -/
theorem subS_head {c : Nat} {t x : List Nat} (h : subS (c :: t) x = true) : c ∈ x := by
  rw [subS, List.any_eq_true] at h
  obtain ⟨i, _, h⟩ := h
  simp only [Bool.and_eq_true, decide_eq_true_eq, beq_iff_eq] at h
  have : c ∈ (x.drop i).take (c :: t).length := by rw [h.2]; exact List.mem_cons_self ..
  exact List.mem_of_mem_drop (List.mem_of_mem_take this)
theorem depL_strs (ts : List (List Nat)) : depL (ts.map D.str) = 0 := by
  induction ts with
  | nil => rfl
  | cons t ts ih =>
    show max 0 (depL (ts.map D.str)) = 0
    rw [ih]
    rfl
/-- where a text that ends with the token t may go on with r -/
def After (t r : List Nat) : Prop := Run t → ∀ c, r.head? = some c → plain c = false
theorem tok_then {t r : List Nat} (h : Tok t) (hr : After t r) : toks (t ++ r) = t :: toks r := by
  rcases h with h | h
  · exact toks_run h r (hr h)
  · exact h.2 r
theorem wild_step {f b last t : List Nat} {ds : List (List Nat)} (hf : ∀ r, After last r → toks (f ++ r) = ds ++ toks r) (hb : ∀ c ∈ b, blank c = true) (ht : Tok t) (hn : t ≠ []) (hc : b = [] → ¬ Run last ∨ ∃ c r, t = c :: r ∧ plain c = false) :
    ∀ r, After t r → toks (f ++ b ++ t ++ r) = (ds ++ [t]) ++ toks r := by
  intro r hr
  rw [List.append_assoc, List.append_assoc, hf, toks_blanks _ hb, tok_then ht hr, List.append_assoc]
  · rfl
  · intro hl c e
    cases b with
    | nil =>
      rcases hc rfl with k | ⟨x, y, rfl, k⟩
      · exact absurd hl k
      · cases e
        exact k
    | cons x b =>
      cases e
      exact blank_not (hb c (List.mem_cons_self ..))
theorem sz : sizeLine = 16777216 := rfl
theorem wild_draws (ts : List (List Nat)) (ht : ∀ t ∈ ts, Tok t ∧ t ≠ []) (h1 : sumL ts ≤ 1000) (h2 : ts.length ≤ 1000) : Draws F__law_t_wild [.lst (ts.map D.str)] fun d => ∃ w, d = .str w ∧ toks w = ts ∧ w.length ≤ 10000 := by
  refine draws_of fun cs z hl => ?_
  unfold b__law_t_wild
  simp [initE, lit5s, lit6s, lit7s, lit13s, lit14s, sz]
  refine wp_draw (of_draws ?_ ?_) rfl hl ?_
  · simp
  · simp
  intro d cs1 z1 hl1 hd
  have hd : ∃ b : List Nat, d = .str b ∧ (∀ c ∈ b, blank c = true) ∧ b.length ≤ 3 := by
    simp at hd
    rcases hd with rfl | rfl | rfl | rfl <;> exact ⟨_, rfl, by decide, by decide⟩
  obtain ⟨b, rfl, hb, hbl⟩ := hd
  simp
  refine wp_for (I := fun ds ρ => ∃ (cs : List Int) (z : Int) (f last : List Nat) (as bs : List (List Nat)) (s4 s5 : Sl), ρ = [.deal cs z, .val (.lst (ts.map D.str)), .val (.str f), .val (.str last), s4, s5] ∧ cs.length ≤ 64 ∧ ts = as ++ bs ∧ ds = bs.map D.str ∧ f.length ≤ 3 + sumL as + 3 * as.length ∧ (last ≠ [] ∧ (Run last → ∀ c ∈ last, plain c = true)) ∧ ∀ r, After last r → toks (f ++ r) = as ++ toks r)
    ?_ ?_ ⟨cs1, z1, b, _, [], ts, _, _, rfl, hl1, rfl, rfl, by simp [sumL]; omega, ⟨by simp, fun h => h.2⟩, fun r hr => by rw [toks_blanks _ hb]; rfl⟩
  · rintro d ds ρ ⟨cs, z, f, last, as, bs, s4, s5, rfl, hl, e, ed, hfl, hla, hf⟩
    cases bs with
    | nil => cases ed
    | cons t bs =>
      cases ed
      have htt := ht t (by rw [e]; simp)
      have hsum : sumL as + t.length + sumL bs = sumL ts := by rw [e]; simp [sumL]; omega
      have hlen : as.length + 1 + bs.length = ts.length := by rw [e]; simp; omega
      have leaf : ∀ (L : List D) (ρ : Ev) (Q : D → Ev → Prop), ρ[0]? = some (.deal cs z) → L ≠ [] → L.length < 1073741824 → (∀ d ∈ L, ∃ b, d = .str b ∧ (∀ c ∈ b, blank c = true) ∧ b.length ≤ 3 ∧ (b = [] → ¬ Run last ∨ ∃ c r, t = c :: r ∧ plain c = false)) →
          (∀ cs' z' b, cs'.length ≤ 64 → (∀ c ∈ b, blank c = true) → b.length ≤ 3 → (b = [] → ¬ Run last ∨ ∃ c r, t = c :: r ∧ plain c = false) → Q (.str b) (ρ.set 0 (.deal cs' z'))) → wp (callD F__law_of 0 [.lst L]) ρ Q XF := by
        intro L ρ Q e0 hL1 hL2 hP hQ
        refine wp_draw (of_draws hL1 hL2) e0 hl fun d cs' z' hl' hd => ?_
        obtain ⟨b, rfl, k1, k2, k3⟩ := hP d hd
        exact hQ cs' z' b hl' k1 k2 k3
      have hne : ∀ c : Nat, sign c = true → plain c = false := fun c h => by
        unfold plain
        rw [h]
        simp
      have fin : ∀ (cs' : List Int) (z' : Int) (b : List Nat), cs'.length ≤ 64 → (∀ c ∈ b, blank c = true) → b.length ≤ 3 → (b = [] → ¬ Run last ∨ ∃ c r, t = c :: r ∧ plain c = false) →
          f.length + b.length ≤ sizeLine ∧ f.length + b.length + t.length ≤ sizeLine ∧ ∃ (cs2 : List Int) (z2 : Int) (f2 last2 : List Nat), ((cs' = cs2 ∧ z' = z2) ∧ f ++ (b ++ t) = f2 ∧ t = last2) ∧ cs2.length ≤ 64 ∧ ∃ (x y : List (List Nat)), ts = x ++ y ∧ bs.map D.str = y.map D.str ∧
            f2.length ≤ 3 + sumL x + 3 * x.length ∧ (¬ last2 = [] ∧ (Run last2 → ∀ c ∈ last2, plain c = true)) ∧ ∀ r, After last2 r → toks (f2 ++ r) = x ++ toks r := by
        intro cs' z' b hcs hb hbl hc
        have hs9 : sumL (as ++ [t]) = sumL as + t.length := by simp [sumL]
        refine ⟨by rw [sz]; omega, by rw [sz]; omega, cs', z', _, t, ⟨⟨rfl, rfl⟩, rfl, rfl⟩, hcs, as ++ [t], bs, by rw [e]; simp, rfl, ?_, ⟨htt.2, fun h => h.2⟩, ?_⟩
        · rw [hs9]
          simp only [List.length_append, List.length_singleton]
          omega
        · rw [← List.append_assoc]
          exact wild_step hf hb htt.1 htt.2 hc
      simp [lit5s, lit6s, lit7s, lit8s, lit9s, lit10s, lit11s, lit12s, sz]
      split
      · rename_i hsub
        refine leaf _ _ _ rfl (by simp) (by simp) ?_ ?_
        · have hc : ∃ c r, t = c :: r ∧ plain c = false := by
            cases t with
            | nil => exact absurd rfl htt.2
            | cons c r => exact ⟨c, r, rfl, hne c (by simpa [sign] using subS_head hsub)⟩
          intro d hd
          simp at hd
          rcases hd with rfl | rfl | rfl | rfl | rfl <;> exact ⟨_, rfl, by decide, by decide, fun _ => .inr hc⟩
        · intro cs' z' b hcs hb hbl hc
          simp
          exact fin cs' z' b hcs hb hbl hc
      · split
        · rename_i hsub
          refine leaf _ _ _ rfl (by simp) (by simp) ?_ ?_
          · have hc : ¬ Run last := by
              intro hr
              cases hlast : last with
              | nil => exact hla.1 hlast
              | cons c r =>
                rw [hlast] at hsub hr
                have h1 := hne c (by simpa [sign] using subS_head hsub)
                rw [hr.2 c (List.mem_cons_self ..)] at h1
                cases h1
            intro d hd
            simp at hd
            rcases hd with rfl | rfl | rfl | rfl | rfl <;> exact ⟨_, rfl, by decide, by decide, fun _ => .inl hc⟩
          · intro cs' z' b hcs hb hbl hc
            simp
            exact fin cs' z' b hcs hb hbl hc
        · refine leaf _ _ _ rfl (by simp) (by simp) ?_ ?_
          · intro d hd
            simp at hd
            rcases hd with rfl | rfl | rfl | rfl <;> exact ⟨_, rfl, by decide, by decide, fun h => by cases h⟩
          · intro cs' z' b hcs hb hbl hc
            simp
            exact fin cs' z' b hcs hb hbl hc
  · rintro ρ ⟨cs, z, f, last, as, bs, s4, s5, rfl, hl, e, ed, hfl, hla, hf⟩
    have : bs = [] := by
      cases bs with
      | nil => rfl
      | cons b bs => cases ed
    subst this
    rw [List.append_nil] at e
    subst e
    simp [lit5s, lit6s, lit7s, sz]
    refine wp_draw (of_draws ?_ ?_) rfl hl ?_
    · simp
    · simp
    intro d cs1 z1 hl1 hd
    have hd : ∃ b : List Nat, d = .str b ∧ (∀ c ∈ b, blank c = true) ∧ b.length ≤ 1 := by
      simp at hd
      rcases hd with rfl | rfl | rfl <;> exact ⟨_, rfl, by decide, by decide⟩
    obtain ⟨b, rfl, hb, hbl⟩ := hd
    simp
    refine ⟨by rw [sz]; omega, ⟨?_, by omega⟩, hl1⟩
    have hr : After last b := by
      intro _ c hc
      cases b with
      | nil => cases hc
      | cons x b =>
        cases hc
        exact blank_not (hb c (List.mem_cons_self ..))
    rw [hf b hr]
    have := toks_blanks (b := b) [] hb
    rw [List.append_nil, toks_nil] at this
    rw [this, List.append_nil]

theorem sumL_le {ss : List (List Nat)} {m : Nat} (h : ∀ s ∈ ss, s.length ≤ m) : sumL ss ≤ m * ss.length := by
  induction ss with
  | nil => simp [sumL]
  | cons s ss ih =>
    have h1 := h s (List.mem_cons_self ..)
    have h2 := ih fun x hx => h x (List.mem_cons_of_mem _ hx)
    simp only [sumL, List.map_cons, List.sum_cons, List.length_cons, Nat.mul_add, Nat.mul_one] at *
    omega
theorem some_draws (many : Nat) (hm : many ≤ 30) : Draws F__law_some_text [.int many] fun d => ∃ s, d = .str s ∧ s.length ≤ 150 := by
  refine draws_of fun cs z hl => ?_
  unfold b__law_some_text
  simp only [wp_mSeq, wp_mSet, wp_mV, wp_mEN, wp_mLst, wp_mCons, wp_ret, initE]
  rw [if_pos (by simp [sz])]
  simp only [seqQ_nx, wp_mRet, wp_mJoin, wp_mSh, wp_ret, wp_rdO_sh, lit7s, wp_asStr, wp_mShN, List.map, List.set, List.cons_append, List.nil_append, List.length_cons, List.length_nil, List.replicate]
  generalize hP0 : ([D.str lit39s, D.str lit38s, D.str lit37s, D.str lit36s, D.str lit14s, D.str lit35s, D.str lit34s,
            D.str lit33s, D.str lit32s, D.str lit31s, D.str lit30s, D.str lit6s, D.str lit10s, D.str lit5s,
            D.str lit12s, D.str lit1s, D.str lit29s, D.str lit28s, D.str lit27s, D.str lit26s, D.str lit2s,
            D.str lit25s, D.str lit24s, D.str lit23s, D.str lit22s, D.str lit21s, D.str lit20s, D.str lit19s,
            D.str lit18s, D.str lit17s, D.str lit16s, D.str lit15s] : List D) = P
  have hP : P ≠ [] ∧ P.length < 1073741824 ∧ ∀ d ∈ P, ∃ s, d = D.str s ∧ s.length ≤ 5 := by
    subst hP0
    refine ⟨by simp, by simp, ?_⟩
    intro d hd
    have hd2 : d ∈ [lit39s, lit38s, lit37s, lit36s, lit14s, lit35s, lit34s, lit33s, lit32s, lit31s, lit30s, lit6s, lit10s, lit5s, lit12s, lit1s, lit29s, lit28s, lit27s, lit26s, lit2s, lit25s, lit24s, lit23s, lit22s, lit21s, lit20s, lit19s, lit18s, lit17s, lit16s, lit15s].map D.str := hd
    obtain ⟨s, hs, rfl⟩ := List.mem_map.mp hd2
    refine ⟨s, rfl, ?_⟩
    clear hd hd2
    revert s
    decide
  have hPd := of_draws hP.1 hP.2.1
  have hP3 := hP.2.2
  clear hP
  refine wp_lc2 (rangeD 0 (many : Int)) [.deal cs z, .val (.int many), .val (.lst P), .un] (I := fun ds acc ρ => ∃ (cs : List Int) (z : Int) (s3 : Sl) (ss : List (List Nat)), ρ = [.deal cs z, .val (.int many), .val (.lst P), s3] ∧ cs.length ≤ 64 ∧ acc = ss.map D.str ∧ (∀ s ∈ ss, s.length ≤ 5) ∧ ss.length + ds.length = many)
    ?_ ?_ ?_ ?_
  · simp [smallI]
    omega
  · refine ⟨cs, z, .un, [], rfl, hl, rfl, ?_, ?_⟩
    · intro s h
      cases h
    · simp [rangeD]
  · rintro d ds acc ρ ⟨cs, z, s3, ss, rfl, hl, rfl, hs, hn⟩
    simp
    refine wp_draw hPd rfl hl ?_
    intro d cs' z' hl' hd
    obtain ⟨s, rfl, hs5⟩ := hP3 d hd
    simp only [List.length_cons] at hn
    simp
    refine ⟨by rw [sz]; omega, hl', ss ++ [s], by simp, ?_, by simp; omega⟩
    intro x hx
    rcases List.mem_append.mp hx with h | h
    · exact hs x h
    · rw [List.mem_singleton.mp h]
      exact hs5
  · rintro zs ρ2 ⟨cs, z, s3, ss, rfl, hl, rfl, hs, hn⟩
    have h1 := sumL_le hs
    have h2 := joinL_length [] ss
    simp only [List.length_nil, Nat.add_zero, Nat.mul_zero] at hn h2
    simp
    exact ⟨by rw [sz]; omega, by omega, hl⟩

theorem beqL_strs : ∀ {ts us : List (List Nat)}, beqL (ts.map D.str) (us.map D.str) = true → ts = us
  | [], [], _ => rfl
  | [], _ :: _, h => by cases h
  | _ :: _, [], h => by cases h
  | t :: ts, u :: us, h => by
    have h : ((t == u) && beqL (ts.map D.str) (us.map D.str)) = true := h
    rw [Bool.and_eq_true, beq_iff_eq] at h
    rw [h.1, beqL_strs h.2]
def caseL : List (List Nat × List (List Nat)) := [([], []), ([32, 10, 9], []), ([97, 34, 98, 34, 99], [[97], [34, 98, 34], [99]]), ([34, 97], [[34, 97]]), ([34, 97, 92], [[34, 97, 92]]), ([34, 92, 34, 34, 32, 120], [[34, 92, 34, 34], [120]]), ([97, 46, 98, 61, 99], [[97], [46], [98], [61], [99]]), ([97, 92, 32, 98], [[97, 92], [98]]), ([34, 34, 34, 34], [[34, 34], [34, 34]]), ([34, 92], [[34, 92]]), ([34, 10, 34], [[34, 10, 34]]), ([46, 46], [[46], [46]])]
theorem case_ok : ∀ p ∈ caseL, toks p.1 = p.2 ∧ p.1.length ≤ 100 := by
  simp [caseL, toks, blank, tlen, qlen, sign, rlen, plain]
def caseD (p : List Nat × List (List Nat)) : D := .tup [.str p.1, .lst (p.2.map D.str)]
theorem law_true (ns : List Int) (h : ns.length ≤ 63) : ∃ ρ, F_law [.scr ns] = .ok (.bl true) ρ := by
  refine ⟨[], run_eq ?_⟩
  unfold b_law
  simp only [wp_mSeq, initE, List.cons_append, List.nil_append, List.length_cons, List.length_nil]
  refine wp_deal rfl h fun cs z hl => ?_
  simp only [seqQ_nx, wp_mSeq, wp_mForI, wp_mCall, wp_mCons, wp_mSh, wp_ret, wp_rdOs_cons, wp_rdO_sh, wp_rdOs_nil, wp_range1]
  refine ⟨by decide, ?_⟩
  refine wp_for (I := fun ds ρ => ∃ (cs : List Int) (z : Int) (s2 s3 s4 s5 s6 s7 s8 s9 : Sl), ρ = [.scr ns, .deal cs z, s2, s3, s4, s5, s6, s7, s8, s9] ∧ cs.length ≤ 64) ?_ ?_ ⟨cs, z, _, _, _, _, _, _, _, _, rfl, hl⟩
  · rintro d ds ρ ⟨cs, z, s2, s3, s4, s5, s6, s7, s8, s9, rfl, hl⟩
    refine ⟨_, rfl, ?_⟩
    simp only [wp_mSeq, wp_mPar, wp_mV, wp_mCallD, wp_mCons, wp_ret]
    simp [sz]
    refine wp_draw (of_draws ?_ ?_) rfl hl ?_
    · simp
    · simp
    intro d1 cs1 z1 hl1 hd1
    have hd1 : ∃ m : Nat, d1 = .int m ∧ m ≤ 30 := by
      simp at hd1
      rcases hd1 with rfl | rfl | rfl | rfl | rfl
      · exact ⟨0, rfl, by decide⟩
      · exact ⟨1, rfl, by decide⟩
      · exact ⟨3, rfl, by decide⟩
      · exact ⟨8, rfl, by decide⟩
      · exact ⟨30, rfl, by decide⟩
    obtain ⟨m, rfl, hm⟩ := hd1
    refine wp_draw (some_draws m hm) rfl hl1 ?_
    rintro _ cs2 z2 hl2 ⟨text, rfl, ht⟩
    simp
    refine wp_draw (any_draws (n := 6) (by decide) (by decide)) rfl hl2 ?_
    rintro _ cs3 z3 hl3 ⟨m2, rfl, m20, m21⟩
    have em : m2 = ((m2.toNat : Nat) : Int) := by omega
    rw [em]
    refine wp_draw (some_draws m2.toNat (by omega)) rfl hl3 ?_
    rintro _ cs4 z4 hl4 ⟨other, rfl, ho⟩
    have hsm : ∀ k : Nat, k ≤ 10000 → k < sizeLine := fun k hk => Nat.lt_of_le_of_lt hk (by decide)
    have e1 := t_tokens_eq text (hsm _ (by omega))
    have e2 := tokens_of_eq text (hsm _ (by omega))
    have same : ∀ d : D, d.dep < 40 → gSame 40 [.val d, .val d] = .ok (.bl true) [] := same_refl 40
    simp [e1, e2, same, depL_strs]
    refine wp_draw (any_draws (n := text.length + 1) (by omega) (by omega)) rfl hl4 ?_
    rintro _ cs5 z5 hl5 ⟨p, rfl, p0, p1⟩
    obtain ⟨q, rfl⟩ : ∃ q : Nat, p = q := ⟨p.toNat, by omega⟩
    have f1 := t_tokens_eq (text.take q) (hsm _ (by rw [List.length_take]; omega))
    have f2 := tokens_of_eq (text.take q) (hsm _ (by rw [List.length_take]; omega))
    have f3 := t_tokens_eq (text.drop q) (hsm _ (by rw [List.length_drop]; omega))
    have f4 := tokens_of_eq (text.drop q) (hsm _ (by rw [List.length_drop]; omega))
    have f5 := t_tokens_eq (text ++ other) (hsm _ (by rw [List.length_append]; omega))
    have f6 := tokens_of_eq (text ++ other) (hsm _ (by rw [List.length_append]; omega))
    simp [cutL_to, cutL_from, f1, f2, f3, f4, f5, f6, same, depL_strs, sz]
    refine ⟨by omega, ?_⟩
    have hsum := toks_sum text.length text (Nat.le_refl _)
    refine wp_lc2 ((toks text).map D.str) [.scr ns, .deal cs5 z5, .val d, .val (.str text), .val (.str other), .val (.lst ((toks text).map D.str)), .val (.int q), s7, s8, s9]
      (I := fun ds acc ρ => ∃ (s9 : Sl) (as bs us : List (List Nat)), ρ = [.scr ns, .deal cs5 z5, .val d, .val (.str text), .val (.str other), .val (.lst ((toks text).map D.str)), .val (.int q), s7, s8, s9] ∧ toks text = as ++ bs ∧ ds = bs.map D.str ∧ acc = us.map D.str ∧
        us.length ≤ as.length ∧ sumL us ≤ sumL as ∧ ∀ u ∈ us, u ∈ as ∧ (u.take 1 = [34] → toks (u ++ [120]) = [u, [120]])) ?_ ⟨_, [], toks text, [], rfl, rfl, rfl, rfl, by simp, by simp [sumL], by simp⟩ ?_ ?_
    · simp
    · rintro d2 ds2 acc ρ ⟨s9, as, bs, us, rfl, eab, ed, rfl, hn1, hn2, hus⟩
      cases bs with
      | nil => cases ed
      | cons t bs =>
        cases ed
        have hst : sumL as + t.length + sumL bs = sumL (toks text) := by rw [eab]; simp [sumL]; omega
        have hnt : as.length + 1 + bs.length = (toks text).length := by rw [eab]; simp; omega
        have g1 := t_tokens_eq (t ++ [120]) (hsm _ (by rw [List.length_append, List.length_singleton]; omega))
        have c1 : cutL t none (some 1) = t.take 1 := cutL_to t 1
        simp [c1, lit1s, lit48s, g1, sz, depL_strs]
        have keep : (t.take 1 = [34] → toks (t ++ [120]) = [t, [120]]) → us.length < 16777216 ∧ ∃ (x y : List (List Nat)), toks text = x ++ y ∧ bs.map D.str = y.map D.str ∧ ∃ v : List (List Nat), us.map D.str ++ [D.str t] = v.map D.str ∧ v.length ≤ x.length ∧ sumL v ≤ sumL x ∧
            ∀ u : List Nat, u ∈ v → u ∈ x ∧ (u.take 1 = [34] → toks (u ++ [120]) = [u, [120]]) := by
          intro hk
          refine ⟨by omega, as ++ [t], bs, by rw [eab]; simp, rfl, us ++ [t], by simp, by simp; omega, by simp [sumL] at *; omega, ?_⟩
          intro u hu
          rcases List.mem_append.mp hu with hu | hu
          · exact ⟨List.mem_append_left _ (hus u hu).1, (hus u hu).2⟩
          · rw [List.mem_singleton.mp hu]
            exact ⟨by simp, hk⟩
        have skip : ∃ (x y : List (List Nat)), toks text = x ++ y ∧ bs.map D.str = y.map D.str ∧ ∃ v : List (List Nat), us.map D.str = v.map D.str ∧ v.length ≤ x.length ∧ sumL v ≤ sumL x ∧
            ∀ u : List Nat, u ∈ v → u ∈ x ∧ (u.take 1 = [34] → toks (u ++ [120]) = [u, [120]]) :=
          ⟨as ++ [t], bs, by rw [eab]; simp, rfl, us, rfl, by simp; omega, by simp [sumL] at *; omega, fun u hu => ⟨List.mem_append_left _ (hus u hu).1, (hus u hu).2⟩⟩
        split
        · split
          · split
            · refine ⟨by omega, ?_⟩
              by_cases hbq : beqL ((toks (t ++ [120])).map D.str) [D.str t, D.str [120]] = true
              · simp only [hbq, if_true]
                exact keep fun _ => beqL_strs (us := [t, [120]]) hbq
              · rw [Bool.not_eq_true] at hbq
                simp only [hbq, Bool.false_eq_true, if_false]
                exact skip
            · exact skip
          · exact skip
        · rename_i hh
          exact keep fun z => absurd z hh
    · rintro zs ρ2 ⟨s9, as, bs, us, rfl, eab, ed, rfl, hn1, hn2, hus⟩
      have hbs : bs = [] := by
        cases bs with
        | nil => rfl
        | cons b bs => cases ed
      subst hbs
      rw [List.append_nil] at eab
      have hu1 : sumL us ≤ 150 := by rw [eab] at hsum; omega
      have hu2 : us.length ≤ 150 := by rw [eab] at hsum; omega
      have htok : ∀ u ∈ us, Tok u ∧ u ≠ [] := by
        intro u hu
        obtain ⟨k1, k2⟩ := hus u hu
        rcases tok_kind _ text (Nat.le_refl _) u (by rw [eab]; exact k1) with k | ⟨c, rfl, k⟩ | ⟨b, rfl⟩
        · exact ⟨.inl k, k.1⟩
        · exact ⟨.inr (closed_sign k), by simp⟩
        · exact ⟨.inr (closed_quote (x := 120) (k2 rfl)), by simp⟩
      have hj := joinL_length [32] us
      have h1 := t_tokens_eq other (hsm _ (by omega))
      have h2 := tokens_of_eq (TL.joinL [32] us ++ 32 :: other) (hsm _ (by simp at *; omega))
      rw [join_toks other fun u hu => (htok u hu).1] at h2
      simp
      refine wp_draw (wild_draws us htok (by omega) (by omega)) rfl hl5 ?_
      rintro _ cs6 z6 hl6 ⟨w, rfl, hw, hwl⟩
      have k1 := tokens_of_eq w (hsm _ (by omega))
      rw [hw] at k1
      rw [List.map_append] at h2
      have dep1 : depL (us.map D.str ++ (toks other).map D.str) = 0 := by rw [← List.map_append]; exact depL_strs _
      have hto := toks_sum other.length other (Nat.le_refl _)
      simp only [List.length_singleton, Nat.mul_one] at hj
      simp [k1, lit6s, h1, h2, same, depL_strs, dep1, sz]
      omega
  · rintro ρ ⟨cs, z, s2, s3, s4, s5, s6, s7, s8, s9, rfl, hl⟩
    simp [sz]
    have same : ∀ d : D, d.dep < 40 → gSame 40 [.val d, .val d] = .ok (.bl true) [] := same_refl 40
    have hsm : ∀ k : Nat, k ≤ 10000 → k < sizeLine := fun k hk => Nat.lt_of_le_of_lt hk (by decide)
    refine wp_lc2 (caseL.map caseD) [.scr ns, .deal cs z, s2, s3, s4, s5, s6, s7, .val (.lst ((caseL.take 9).map caseD)), s9]
      (I := fun ds acc ρ => acc = [] ∧ (∃ (s3 s5 : Sl), ρ = [.scr ns, .deal cs z, s2, s3, s4, s5, s6, s7, .val (.lst ((caseL.take 9).map caseD)), s9]) ∧ ∃ ps, ds = ps.map caseD ∧ ∀ p ∈ ps, toks p.1 = p.2 ∧ p.1.length ≤ 100) ?_ ⟨rfl, ⟨_, _, rfl⟩, caseL, rfl, case_ok⟩ ?_ ?_
    · simp [sz, caseL, caseD, lit7s, lit0s, lit53s, lit39s, lit52s, lit46s, lit51s, lit50s, lit49s, lit27s, lit48s, lit47s, lit30s, lit43s, lit32s, lit45s, lit44s, lit42s, lit29s, lit41s, lit19s, lit40s]
    · rintro d ds acc ρ ⟨rfl, ⟨s3, s5, rfl⟩, ps, ed, hps⟩
      cases ps with
      | nil => cases ed
      | cons p ps =>
        cases ed
        obtain ⟨p1, p2⟩ := hps p (List.mem_cons_self ..)
        have e := tokens_of_eq p.1 (hsm _ (by omega))
        rw [p1] at e
        simp [caseD, e, same, depL_strs]
        exact ⟨ps, rfl, fun a b hab => hps (a, b) (List.mem_cons_of_mem _ hab)⟩
    · rintro zs ρ2 ⟨rfl, ⟨s3, s5, rfl⟩, ps, ed, hps⟩
      simp

def loose0 : List Str := ["__name__", "BLANKS", "SIGNS", "QUOTE", "SLASH", "quoted_end", "run_end", "token_places", "tokens_of", "_law_draw", "_law_any", "_law_of", "_law_same", "_law_t_tokens", "_law_t_wild", "_law_some_text"]
def looseN : List Str := loose0
abbrev R : PySem.W.OpenRow := PySem.W.OpenLaw.row PySem.Challenge.rw_throughviews_k07_whole_tokens_of_any_tex
abbrev hk : PySem.W.Hook := hookX 4 fas fns css
def ob (s : PySem.W.SharedT) : AlX := obsXG 4 fas fns css (HandSHeadRun.getT s)
theorem ob_eq (s : PySem.W.SharedT) : ob s = hk.obs s.abs := obsXG_eq (HandSHeadRun.getT_eq s)
theorem run (w : World) : HandSHeadRun.RunEq R (PySem.W.view R.prog [17]) hk ob 1180 looseN w := by
  intro os
  kernel_rfl
end Lw
open PySem PySem.W PySem.Calls PyProof.Rows in
theorem PySem.Challenge.cw_throughviews_k07_whole_tokens_of_any_tex_holds : PySem.Challenge.rw_throughviews_k07_whole_tokens_of_any_tex.Holds := by
  w_on; o_law
  refine HandSHeadRun.head_any (r := Lw.R) (q := view Lw.R.prog [17]) (H := Lw.hk) (ob := Lw.ob) (M := 1180) (loose := Lw.looseN) (d := HandSHeadRun.topDef Lw.R.prog 17) (kwd := []) Lw.ob_eq
    (by kernel_rfl) (fun s => by kernel_rfl) Lw.run (by kernel_rfl) (by kernel_rfl) (by kernel_rfl) (by rfl) (by first | assumption | decide +kernel) (by decide +kernel) ⟨rfl, rfl, rfl, rfl, rfl, by decide +kernel⟩ ?hw ?hc
  case hw => w_witness2
  case hc =>
    refine Dy.law_end (l := PySem.Challenge.rw_throughviews_k07_whole_tokens_of_any_tex) (n := 63) (k := 41) rfl (by decide) (by kernel_rfl) ⟨rfl, by decide, by decide⟩ ?A Lw.law_true
    intro w mg f h K X G c hf
    refine Lw.law_at (Lw.txt_of X G c) ?_
    have e : (HandSHeadRun.topDef Lw.R.prog 17).name = ("law" : PySem.Str) := by kernel_rfl
    rw [← e]
    exact hf

