import PyProof.Rows.All
import Wide.All
import OpenK.AllK
import Wide.FinOn
import HandS.ForMost
import HandS.ForExc
import HandS.IsInst
import HandS.SortInts
import HandS.ExcInit
import HandS.ExcCtx
import HandS.CallSlots
import HandS.More
import HandS.ClsMeth
import KE.DatumOrd
import HandS.SortKw
import HandS.Defaults
import HandS.MakeKw
import HandS.MakeKwOnly
import HandS.Wide
import HandS.OwnEq
import OpenK.KOps
import HandS.Head0
import HandS.Head1
import HandS.Head2
import HandS.HeadEnd
import HandS.HeadHook1
import HandS.HeadHook2
import PyProof.InstNe
import KE.KRevSl
import HandS.HotCalls
import HandS.ExcField
import KE.KExcIs
import PyProof.SumWalkG
import HandS.Lambda
import HandS.ExcIs
import KE.KLam
import HandS.HeadHook4
import KE.KEqSeq
import HandS.HeadWalk
import HandS.EndTab
import HandS.TupAny
import PySem.Challenge.RW_markworks_k21_values_refused
set_option Elab.async false
set_option linter.all false
set_option autoImplicit false
set_option maxRecDepth 100000
namespace DL
open PySem PySem.Spec L2

inductive D where
  | non | bl (b : Bool) | int (i : Int) | str (x : Str)
  | lst (xs : List D) | tup (xs : List D) | dct (kvs : List (Key × D)) | obj (C : Addr) (fs : List (Str × D)) | fn (a : Addr)

mutual
def Rep (K : PySem.W.Frag) (H : Hp) : D → V → Prop
  | .non, v => v = .non
  | .bl b, v => v = .bl b
  | .int i, v => v = .int i
  | .str x, v => v = .str x
  | .lst ds, v => ds.length ≤ sizeLine ∧ ∃ a vs, v = .ref a ∧ H a = some (.lst vs) ∧ RepL K H ds vs
  | .tup ds, v => ds.length ≤ sizeLine ∧ ∃ a vs, v = .ref a ∧ SqT K H a vs ∧ RepL K H ds vs
  | .dct kvs, v => kvs.length ≤ sizeLine ∧ ∃ a ws, v = .ref a ∧ H a = some (.dK ws) ∧ RepK K H kvs ws
  | .obj C fs, v => ∃ a dx ws, v = .ref a ∧ H a = some (.ins C dx ws) ∧ RepF K H fs ws
  | .fn a, v => v = .ref a
def RepL (K : PySem.W.Frag) (H : Hp) : List D → List V → Prop
  | [], vs => vs = []
  | d :: ds, vs => ∃ v r, vs = v :: r ∧ Rep K H d v ∧ RepL K H ds r
def RepK (K : PySem.W.Frag) (H : Hp) : List (Key × D) → List (Key × V) → Prop
  | [], vs => vs = []
  | (k, d) :: ds, vs => ∃ v r, vs = (k, v) :: r ∧ Rep K H d v ∧ RepK K H ds r
def RepF (K : PySem.W.Frag) (H : Hp) : List (Str × D) → List (Str × V) → Prop
  | [], vs => vs = []
  | (k, d) :: ds, vs => ∃ v r, vs = (k, v) :: r ∧ Rep K H d v ∧ RepF K H ds r
end

variable {K : PySem.W.Frag} {H H' F F' : Hp}
theorem Same.seqT {a : Addr} {xs : List V} (e : Same H H') (h : SqT K H a xs) : SqT K H' a xs := by
  rcases h with (h | ⟨o, h⟩) | h
  · exact .inl (.inl (e _ _ h))
  · exact .inl (.inr ⟨o, e _ _ h⟩)
  · exact .inr h
mutual
theorem Rep.up (e : Same H H') : ∀ (d : D) (v : V), Rep K H d v → Rep K H' d v
  | .non, _, h => h
  | .bl _, _, h => h
  | .int _, _, h => h
  | .str _, _, h => h
  | .lst ds, v, h => by
    obtain ⟨z, a, vs, rfl, s, r⟩ := h
    exact ⟨z, a, vs, rfl, e _ _ s, RepL.up e ds vs r⟩
  | .tup ds, v, h => by
    obtain ⟨z, a, vs, rfl, s, r⟩ := h
    exact ⟨z, a, vs, rfl, Same.seqT e s, RepL.up e ds vs r⟩
  | .dct kvs, v, h => by
    obtain ⟨z, a, ws, rfl, s, r⟩ := h
    exact ⟨z, a, ws, rfl, e _ _ s, RepK.up e kvs ws r⟩
  | .obj C fs, v, h => by
    obtain ⟨a, dx, ws, rfl, s, r⟩ := h
    exact ⟨a, dx, ws, rfl, e _ _ s, RepF.up e fs ws r⟩
  | .fn _, _, h => h
theorem RepL.up (e : Same H H') : ∀ (ds : List D) (vs : List V), RepL K H ds vs → RepL K H' ds vs
  | [], _, h => h
  | d :: ds, _, h => by
    obtain ⟨v, r, rfl, x, y⟩ := h
    exact ⟨v, r, rfl, Rep.up e d v x, RepL.up e ds r y⟩
theorem RepK.up (e : Same H H') : ∀ (ds : List (Key × D)) (vs : List (Key × V)), RepK K H ds vs → RepK K H' ds vs
  | [], _, h => h
  | (k, d) :: ds, _, h => by
    obtain ⟨v, r, rfl, x, y⟩ := h
    exact ⟨v, r, rfl, Rep.up e d v x, RepK.up e ds r y⟩
theorem RepF.up (e : Same H H') : ∀ (ds : List (Str × D)) (vs : List (Str × V)), RepF K H ds vs → RepF K H' ds vs
  | [], _, h => h
  | (k, d) :: ds, _, h => by
    obtain ⟨v, r, rfl, x, y⟩ := h
    exact ⟨v, r, rfl, Rep.up e d v x, RepF.up e ds r y⟩
end
end DL

namespace DL
open PySem PySem.Spec L2

/-! ### what a piece of code may do: a wish of its value, a wish of what it raises -/
/-- what is raised: the class, its field -/
structure Exn where
  cls : Addr
  fld : Option (Str × V)
structure M (ε α : Type) where
  run : (α → Prop) → (ε → Prop) → Prop
  mono : ∀ k k' e e', (∀ a, k a → k' a) → (∀ x, e x → e' x) → run k e → run k' e'
theorem M.ext' {ε α : Type} {m n : M ε α} (h : ∀ k e, m.run k e = n.run k e) : m = n := by
  cases m with | mk a b => cases n with | mk c d =>
  have : a = c := funext fun k => funext fun e => h k e
  subst this; rfl
section
variable {ε ε' α β : Type}
@[reducible] def ret (a : α) : M ε α := ⟨fun k _ => k a, fun _ _ _ _ h _ x => h a x⟩
@[reducible] def bnd (m : M ε α) (f : α → M ε β) : M ε β := ⟨fun k e => m.run (fun a => (f a).run k e) e, fun k k' e e' h h' x => m.mono _ _ _ _ (fun a y => (f a).mono _ _ _ _ h h' y) h' x⟩
@[reducible] def stuck : M ε α := ⟨fun _ _ => False, fun _ _ _ _ _ _ x => x⟩
@[reducible] def raise (x : ε) : M ε α := ⟨fun _ e => e x, fun _ _ _ _ _ h x => h _ x⟩
@[reducible] def mapE (f : ε → ε') (m : M ε α) : M ε' α := ⟨fun k e => m.run k (fun x => e (f x)), fun k k' e e' h h' x => m.mono _ _ _ _ h (fun a y => h' _ y) x⟩
@[reducible] def catchE (m : M ε α) (h : ε → M ε' α) : M ε' α := ⟨fun k e => m.run k (fun x => (h x).run k e), fun k k' e e' a b x => m.mono _ _ _ _ a (fun z y => (h z).mono _ _ _ _ a b y) x⟩
/-- any whole number below n -/
@[reducible] def pick (n : Int) : M ε Int := ⟨fun k _ => 0 < n ∧ ∀ r, 0 ≤ r → r < n → k r, fun _ _ _ _ h _ x => ⟨x.1, fun r a b => h _ (x.2 r a b)⟩⟩
theorem bnd_ret (a : α) (f : α → M ε β) : bnd (ret a) f = f a := rfl
theorem bnd_stuck (f : α → M ε β) : bnd stuck f = stuck := rfl
theorem bnd_raise (x : ε) (f : α → M ε β) : bnd (raise x) f = raise x := rfl
theorem bnd_assoc {γ : Type} (m : M ε α) (f : α → M ε β) (g : β → M ε γ) : bnd (bnd m f) g = bnd m fun a => bnd (f a) g := rfl
theorem bnd_pure (m : M ε α) : bnd m ret = m := rfl
theorem mapE_ret (f : ε → ε') (a : α) : mapE f (ret a) = ret a := rfl
theorem mapE_raise (f : ε → ε') (x : ε) : mapE f (raise x : M ε α) = raise (f x) := rfl
theorem mapE_stuck (f : ε → ε') : mapE f (stuck : M ε α) = stuck := rfl
theorem mapE_bnd (f : ε → ε') (m : M ε α) (g : α → M ε β) : mapE f (bnd m g) = bnd (mapE f m) fun a => mapE f (g a) := rfl
theorem catch_ret (a : α) (h : ε → M ε' α) : catchE (ret a) h = ret a := rfl
theorem catch_raise (x : ε) (h : ε → M ε' α) : catchE (raise x) h = h x := rfl
end

/-! ### the volatile part: objects that calls may change (the dice), by an invariant -/
/-- an object that a def may own -/
def OwnO : Option HO → Prop
  | some (.lst _) => True
  | some (.dK _) => True
  | some (.ins _ _ _) => True
  | _ => False
structure Vol where
  z : Nat → Addr
  Z : Addr → Prop
  I : Hp → Prop
  has : ∀ H, I H → ∀ a, Z a → ∃ o, H a = some o
  up : ∀ H H', Same H H' → I H → I H'
  wr : ∀ H p o, I H → ¬ Z p → OwnO (H p) → I (upd H p o)
def vol0 : Vol := ⟨fun _ => 0, fun _ => False, fun _ => True, fun _ _ _ h => h.elim, fun _ _ _ _ => trivial, fun _ _ _ _ _ _ => trivial⟩

/-- F: what is never changed any more, a part of H -/
structure Good (vol : Vol) (F H : Hp) : Prop where
  sub : Same F H
  nz : ∀ a, vol.Z a → F a = none
  vi : vol.I H
structure Ext (vol : Vol) (F H F' H' : Hp) : Prop where
  g : Good vol F' H'
  sF : Same F F'
  sH : ∀ a o, H a = some o → ¬ vol.Z a → H' a = some o
  nw : ∀ p o, H p = some o → F p = none → F' p = none
section
variable {vol : Vol} {F H F' H' F2 H2 : Hp}
theorem Good.ext (g : Good vol F H) : Ext vol F H F H := ⟨g, Same.refl _, fun _ _ e _ => e, fun _ _ _ e => e⟩
theorem Ext.trans (g : Good vol F H) (a : Ext vol F H F' H') (b : Ext vol F' H' F2 H2) : Ext vol F H F2 H2 where
  g := b.g
  sF := a.sF.trans b.sF
  sH := fun p o e n => b.sH p o (a.sH p o e n) n
  nw := fun p o e n => by
    by_cases hz : vol.Z p
    · exact b.g.nz p hz
    · exact b.nw p o (a.sH p o e hz) (a.nw p o e n)
/-- a new object, frozen at once -/
theorem Good.new (g : Good vol F H) {p : Addr} {o : HO} (h : H p = none) : Ext vol F H (upd F p o) (upd H p o) := by
  have hF : F p = none := by
    cases e : F p with
    | none => rfl
    | some u => rw [g.sub _ _ e] at h; cases h
  have sH : Same H (upd H p o) := fun a u e => by rw [upd_ne (ne_of_none e h)]; exact e
  refine ⟨⟨fun a u e => ?_, fun a hz => ?_, vol.up _ _ sH g.vi⟩, fun a u e => by rw [upd_ne (ne_of_none e hF)]; exact e, fun a u e _ => sH a u e, fun q u e n => by rw [upd_ne (ne_of_none e h)]; exact n⟩
  · by_cases q : a = p
    · subst q; rw [upd_same] at e ⊢; exact e
    · rw [upd_ne q] at e ⊢; exact g.sub _ _ e
  · obtain ⟨u, e⟩ := vol.has _ g.vi a hz
    rw [upd_ne (ne_of_none e h)]; exact g.nz a hz
/-- a new object, owned: H alone grows -/
theorem Good.own (g : Good vol F H) {p : Addr} {o : HO} (h : H p = none) : Ext vol F H F (upd H p o) := by
  have sH : Same H (upd H p o) := fun a u e => by rw [upd_ne (ne_of_none e h)]; exact e
  exact ⟨⟨g.sub.trans sH, g.nz, vol.up _ _ sH g.vi⟩, Same.refl _, fun a u e _ => sH a u e, fun _ _ _ n => n⟩
end

/-! ### an owned object; values that may be owned -/
def OwnRep (K : PySem.W.Frag) (F H : Hp) (p : Addr) : D → Prop
  | .lst ds => ds.length ≤ sizeLine ∧ ∃ vs, H p = some (.lst vs) ∧ RepL K F ds vs
  | .dct kvs => kvs.length ≤ sizeLine ∧ ∃ ws, H p = some (.dK ws) ∧ RepK K F kvs ws
  | .obj C fs => fs.length ≤ 900 ∧ ∃ dx ws, H p = some (.ins C dx ws) ∧ RepF K F fs ws
  | _ => False
structure OwnAt (vol : Vol) (K : PySem.W.Frag) (F H : Hp) (p : Addr) (d : D) : Prop where
  nF : F p = none
  nZ : ¬ vol.Z p
  rep : OwnRep K F H p d
def RepB (vol : Vol) (K : PySem.W.Frag) (F H : Hp) (d : D) (v : V) : Prop := Rep K F d v ∨ ∃ p, v = .ref p ∧ OwnAt vol K F H p d
def RepBL (vol : Vol) (K : PySem.W.Frag) (F H : Hp) : List D → List V → Prop
  | [], vs => vs = []
  | d :: ds, vs => ∃ v r, vs = v :: r ∧ RepB vol K F H d v ∧ RepBL vol K F H ds r
section
variable {vol : Vol} {K : PySem.W.Frag} {F H F' H' : Hp} {p : Addr} {d : D} {v : V}
theorem OwnRep.there (r : OwnRep K F H p d) : ∃ o, H p = some o := by
  cases d with
  | lst ds => obtain ⟨_, vs, e, _⟩ := r; exact ⟨_, e⟩
  | dct kvs => obtain ⟨_, vs, e, _⟩ := r; exact ⟨_, e⟩
  | obj C fs => obtain ⟨_, dx, vs, e, _⟩ := r; exact ⟨_, e⟩
  | _ => exact r.elim
theorem OwnRep.up (r : OwnRep K F H p d) (sF : Same F F') (e : ∀ o, H p = some o → H' p = some o) : OwnRep K F' H' p d := by
  cases d with
  | lst ds => obtain ⟨z, vs, q, r⟩ := r; exact ⟨z, vs, e _ q, RepL.up sF _ _ r⟩
  | dct kvs => obtain ⟨z, vs, q, r⟩ := r; exact ⟨z, vs, e _ q, RepK.up sF _ _ r⟩
  | obj C fs => obtain ⟨z, dx, vs, q, r⟩ := r; exact ⟨z, dx, vs, e _ q, RepF.up sF _ _ r⟩
  | _ => exact r.elim
theorem OwnAt.ext (r : OwnAt vol K F H p d) (x : Ext vol F H F' H') : OwnAt vol K F' H' p d := by
  obtain ⟨o, e⟩ := r.rep.there
  exact ⟨x.nw p o e r.nF, r.nZ, r.rep.up x.sF fun o e => x.sH p o e r.nZ⟩
theorem RepB.ext (r : RepB vol K F H d v) (x : Ext vol F H F' H') : RepB vol K F' H' d v := by
  rcases r with r | ⟨p, e, r⟩
  · exact .inl (Rep.up x.sF _ _ r)
  · exact .inr ⟨p, e, r.ext x⟩
theorem RepBL.ext (x : Ext vol F H F' H') : ∀ {ds : List D} {vs : List V}, RepBL vol K F H ds vs → RepBL vol K F' H' ds vs
  | [], _, r => r
  | d :: ds, _, r => by
    obtain ⟨v, r, rfl, a, b⟩ := r
    exact ⟨v, r, rfl, a.ext x, RepBL.ext x b⟩
theorem RepBL.of : ∀ {ds : List D} {vs : List V}, RepL K F ds vs → RepBL vol K F H ds vs
  | [], _, r => r
  | d :: ds, _, r => by
    obtain ⟨v, r, rfl, a, b⟩ := r
    exact ⟨v, r, rfl, .inl a, RepBL.of b⟩
/-- all that stands, but the volatile, as frozen -/
noncomputable def allF (vol : Vol) (H : Hp) : Hp := fun a => haveI := Classical.propDecidable (vol.Z a); if vol.Z a then none else H a
theorem allF_z {a : Addr} (h : vol.Z a) : allF vol H a = none := if_pos h
theorem allF_n {a : Addr} (h : ¬ vol.Z a) : allF vol H a = H a := if_neg h
theorem allF_sub : Same (allF vol H) H := fun a o e => by
  by_cases h : vol.Z a
  · rw [allF_z h] at e; cases e
  · rw [allF_n h] at e; exact e
theorem Good.allF (g : Good vol F H) : Good vol (allF vol H) H := ⟨allF_sub, fun a h => allF_z h, g.vi⟩
theorem Good.toAll (g : Good vol F H) : Same F (DL.allF vol H) := fun a o e => by
  by_cases h : vol.Z a
  · rw [g.nz a h] at e; cases e
  · rw [allF_n h]; exact g.sub _ _ e
theorem RepB.all (g : Good vol F H) (r : RepB vol K F H d v) : Rep K (allF vol H) d v := by
  rcases r with r | ⟨p, rfl, r⟩
  · exact Rep.up g.toAll _ _ r
  · have e : ∀ o, H p = some o → DL.allF vol H p = some o := fun o q => by rw [allF_n r.nZ]; exact q
    cases d with
    | lst ds => obtain ⟨z, vs, q, r⟩ := r.rep; exact ⟨z, p, vs, rfl, e _ q, RepL.up g.toAll _ _ r⟩
    | dct kvs => obtain ⟨z, vs, q, r⟩ := r.rep; exact ⟨z, p, vs, rfl, e _ q, RepK.up g.toAll _ _ r⟩
    | obj C fs => obtain ⟨z, dx, vs, q, r⟩ := r.rep; exact ⟨p, dx, vs, rfl, e _ q, RepF.up g.toAll _ _ r⟩
    | _ => exact r.rep.elim
theorem RepBL.all (g : Good vol F H) : ∀ {ds : List D} {vs : List V}, RepBL vol K F H ds vs → RepL K (allF vol H) ds vs
  | [], _, r => r
  | d :: ds, _, r => by
    obtain ⟨v, r, rfl, a, b⟩ := r
    exact ⟨v, r, rfl, a.all g, RepBL.all g b⟩
end

/-! ### slots -/
inductive SlotD where
  | im (d : D) | own (d : D) | vz (n : Nat)
abbrev EnvD := List (Option SlotD)
structure ERep (vol : Vol) (K : PySem.W.Frag) (F H : Hp) (σ : St) (ρ : EnvD) : Prop where
  len : σ.length = ρ.length
  im : ∀ (i : Nat) (d : D), ρ[i]? = some (some (.im d)) → ∃ v, σ[i]? = some (some v) ∧ Rep K F d v
  own : ∀ (i : Nat) (d : D), ρ[i]? = some (some (.own d)) → ∃ p, σ[i]? = some (some (.ref p)) ∧ OwnAt vol K F H p d
  vz : ∀ (i n : Nat), ρ[i]? = some (some (.vz n)) → σ[i]? = some (some (.ref (vol.z n)))
section
variable {vol : Vol} {K : PySem.W.Frag} {F H F' H' : Hp} {σ : St} {ρ : EnvD}
theorem ERep.ext (r : ERep vol K F H σ ρ) (x : Ext vol F H F' H') : ERep vol K F' H' σ ρ where
  len := r.len
  im := fun i d e => by
    obtain ⟨v, a, b⟩ := r.im i d e
    exact ⟨v, a, Rep.up x.sF _ _ b⟩
  own := fun i d e => by
    obtain ⟨p, a, b⟩ := r.own i d e
    exact ⟨p, a, b.ext x⟩
  vz := r.vz
theorem ERep.set (r : ERep vol K F H σ ρ) {d : D} {v : V} (i : Nat) (h : Rep K F d v) : ERep vol K F H (σ.set i (some v)) (ρ.set i (some (.im d))) where
  len := by simp [r.len]
  im := fun j d' e => by
    by_cases q : i = j
    · subst q
      by_cases hi : i < ρ.length
      · rw [List.getElem?_set_self hi] at e
        cases e
        exact ⟨v, List.getElem?_set_self (by rw [r.len]; exact hi), h⟩
      · rw [List.getElem?_eq_none (by simpa using hi)] at e; cases e
    · rw [List.getElem?_set_ne q] at e ⊢
      exact r.im j d' e
  own := fun j d' e => by
    by_cases q : i = j
    · subst q
      by_cases hi : i < ρ.length
      · rw [List.getElem?_set_self hi] at e; cases e
      · rw [List.getElem?_eq_none (by simpa using hi)] at e; cases e
    · rw [List.getElem?_set_ne q] at e ⊢
      exact r.own j d' e
  vz := fun j n e => by
    by_cases q : i = j
    · subst q
      by_cases hi : i < ρ.length
      · rw [List.getElem?_set_self hi] at e; cases e
      · rw [List.getElem?_eq_none (by simpa using hi)] at e; cases e
    · rw [List.getElem?_set_ne q] at e ⊢
      exact r.vz j n e
theorem ERep.unset (r : ERep vol K F H σ ρ) (i : Nat) (o : Option V) : ERep vol K F H (σ.set i o) (ρ.set i none) where
  len := by simp [r.len]
  im := fun j d' e => by
    by_cases q : i = j
    · subst q
      by_cases hi : i < ρ.length
      · rw [List.getElem?_set_self hi] at e; cases e
      · rw [List.getElem?_eq_none (by simpa using hi)] at e; cases e
    · rw [List.getElem?_set_ne q] at e ⊢
      exact r.im j d' e
  own := fun j d' e => by
    by_cases q : i = j
    · subst q
      by_cases hi : i < ρ.length
      · rw [List.getElem?_set_self hi] at e; cases e
      · rw [List.getElem?_eq_none (by simpa using hi)] at e; cases e
    · rw [List.getElem?_set_ne q] at e ⊢
      exact r.own j d' e
  vz := fun j n e => by
    by_cases q : i = j
    · subst q
      by_cases hi : i < ρ.length
      · rw [List.getElem?_set_self hi] at e; cases e
      · rw [List.getElem?_eq_none (by simpa using hi)] at e; cases e
    · rw [List.getElem?_set_ne q] at e ⊢
      exact r.vz j n e
end

/-! ### the judgements -/
def XRep (H : Hp) (x : Exn) (dd : Option Addr) : Prop := match x.fld with
  | none => dd = none
  | some (n, v) => ∃ a, dd = some a ∧ H a = some (.xd [(n, v)])
/-- the wish of what is raised, at the slots -/
def EX (vol : Vol) (W : WX) (σ : St) (F H : Hp) : Exn → Prop := fun x => ∀ dd F' H', Ext vol F H F' H' → XRep H' x dd → W (.ref x.cls) dd σ H'
theorem EX.ext {vol : Vol} {W : WX} {σ : St} {F H F' H' : Hp} (g : Good vol F H) (x : Ext vol F H F' H') {e : Exn} (h : EX vol W σ F H e) : EX vol W σ F' H' e :=
  fun dd F2 H2 x2 r => h dd F2 H2 (x.trans g x2) r
/-- a frozen value; one that may be owned; a new object that is owned -/
def VF (vol : Vol) (K : PySem.W.Frag) (F H : Hp) (Q : VK) : D → Prop := fun d => ∀ v F' H', Ext vol F H F' H' → Rep K F' d v → Q v H'
def VB (vol : Vol) (K : PySem.W.Frag) (F H : Hp) (Q : VK) : D → Prop := fun d => ∀ v F' H', Ext vol F H F' H' → RepB vol K F' H' d v → Q v H'
def VN (vol : Vol) (K : PySem.W.Frag) (F H : Hp) (Q : VK) : D → Prop := fun d => ∀ p F' H', Ext vol F H F' H' → H p = none → OwnAt vol K F' H' p d → Q (.ref p) H'
def tD (P : Vol → PySem.W.Frag → Hp → Hp → VK → D → Prop) (vol : Vol) (K : PySem.W.Frag) (W : WX) (f : EnvD → M Exn D) : TE := fun σ H Q =>
  ∃ F ρ, Good vol F H ∧ ERep vol K F H σ ρ ∧ (f ρ).run (P vol K F H Q) (EX vol W σ F H)
/-- an expression with a frozen value -/
structure DF (X : Cx) (vol : Vol) (W : WX) (e : Expr) (f : EnvD → M Exn D) : Prop where
  run : PE X e (tD VF vol X.K W f)
structure DB (X : Cx) (vol : Vol) (W : WX) (e : Expr) (f : EnvD → M Exn D) : Prop where
  run : PE X e (tD VB vol X.K W f)
structure DN (X : Cx) (vol : Vol) (W : WX) (e : Expr) (f : EnvD → M Exn D) : Prop where
  run : PE X e (tD VN vol X.K W f)
/-- a test -/
def tT (vol : Vol) (K : PySem.W.Frag) (W : WX) (f : EnvD → M Exn Bool) : TT := fun σ H Q =>
  ∃ F ρ, Good vol F H ∧ ERep vol K F H σ ρ ∧ (f ρ).run (fun b => ∀ F' H', Ext vol F H F' H' → Q b H') (EX vol W σ F H)
structure DT (X : Cx) (vol : Vol) (W : WX) (e : Expr) (f : EnvD → M Exn Bool) : Prop where
  run : PT X e (tT vol X.K W f)
structure DW (X : Cx) (vol : Vol) (W : WX) (e : Expr) (f : EnvD → M Exn Bool) : Prop where
  run : PW X e (tT vol X.K W f)
/-- arguments: frozen all; some owned -/
def tAF (vol : Vol) (K : PySem.W.Frag) (W : WX) (f : EnvD → M Exn (List D)) : TA := fun σ H Q =>
  ∃ F ρ, Good vol F H ∧ ERep vol K F H σ ρ ∧ (f ρ).run (fun ds => ∀ vs F' H', Ext vol F H F' H' → RepL K F' ds vs → Q vs H') (EX vol W σ F H)
def tAB (vol : Vol) (K : PySem.W.Frag) (W : WX) (f : EnvD → M Exn (List D)) : TA := fun σ H Q =>
  ∃ F ρ, Good vol F H ∧ ERep vol K F H σ ρ ∧ (f ρ).run (fun ds => ∀ vs F' H', Ext vol F H F' H' → RepBL vol K F' H' ds vs → Q vs H') (EX vol W σ F H)
structure AF (X : Cx) (vol : Vol) (W : WX) (es : List Expr) (f : EnvD → M Exn (List D)) : Prop where
  run : PA X es (tAF vol X.K W f)
structure AB (X : Cx) (vol : Vol) (W : WX) (es : List Expr) (f : EnvD → M Exn (List D)) : Prop where
  run : PA X es (tAB vol X.K W f)

theorem _root_.L2.PE.conseq {X : Cx} {e : Expr} {t t' : TE} (h : PE X e t) (i : ∀ σ H Q, t' σ H Q → t σ H Q) : PE X e t' := ⟨fun pins s σ H Q I hw => h.run pins s σ H Q I (i _ _ _ hw)⟩
theorem _root_.L2.PT.conseq {X : Cx} {e : Expr} {t t' : TT} (h : PT X e t) (i : ∀ σ H Q, t' σ H Q → t σ H Q) : PT X e t' := ⟨fun pins s σ H Q I hw => h.run pins s σ H Q I (i _ _ _ hw)⟩
theorem _root_.L2.PW.conseq {X : Cx} {e : Expr} {t t' : TT} (h : PW X e t) (i : ∀ σ H Q, t' σ H Q → t σ H Q) : PW X e t' := ⟨fun wh pins s σ H Q I hw => h.run wh pins s σ H Q I (i _ _ _ hw)⟩
theorem _root_.L2.PA.conseq {X : Cx} {es : List Expr} {t t' : TA} (h : PA X es t) (i : ∀ σ H Q, t' σ H Q → t σ H Q) : PA X es t' := ⟨fun pos pins s σ H Q I hw => h.run pos pins s σ H Q I (i _ _ _ hw)⟩
theorem _root_.L2.PS.conseq {X : Cx} {e : Stmt} {t t' : TS} (h : PS X e t) (i : ∀ D σ H, t' D σ H → t D σ H) : PS X e t' := ⟨fun pins s σ H Q I hw => h.run pins s σ H Q I (i _ _ _ hw)⟩
theorem _root_.L2.PSs.conseq {X : Cx} {e : List Stmt} {t t' : TS} (h : PSs X e t) (i : ∀ D σ H, t' D σ H → t D σ H) : PSs X e t' := ⟨fun pins s σ H Q I hw => h.run pins s σ H Q I (i _ _ _ hw)⟩

section
variable {X : Cx} {vol : Vol} {W : WX} {e a b : Expr} {es : List Expr} {f g fa fb : EnvD → M Exn D} {K : PySem.W.Frag} {pos : Pos}
theorem VF.bind {F H : Hp} {σ : St} {m : M Exn D} {k : D → M Exn D} {Q : VK} {P : Vol → PySem.W.Frag → Hp → Hp → VK → D → Prop} (h : (bnd m k).run (P vol K F H Q) (EX vol W σ F H)) : m.run (fun d => (k d).run (P vol K F H Q) (EX vol W σ F H)) (EX vol W σ F H) := h
/-- from a frozen value on -/
theorem tD.go {F H : Hp} {σ : St} {ρ : EnvD} {Q : VK} {k : D → Prop} (G : Good vol F H) (E : ERep vol K F H σ ρ) (h : (f ρ).run k (EX vol W σ F H))
    (hk : ∀ d, k d → ∀ v F' H', Ext vol F H F' H' → Rep K F' d v → Q v H') : tD VF vol K W f σ H Q := ⟨F, ρ, G, E, (f ρ).mono _ _ _ _ hk (fun _ x => x) h⟩
theorem tD.goB {F H : Hp} {σ : St} {ρ : EnvD} {Q : VK} {k : D → Prop} (G : Good vol F H) (E : ERep vol K F H σ ρ) (h : (f ρ).run k (EX vol W σ F H))
    (hk : ∀ d, k d → ∀ v F' H', Ext vol F H F' H' → RepB vol K F' H' d v → Q v H') : tD VB vol K W f σ H Q := ⟨F, ρ, G, E, (f ρ).mono _ _ _ _ hk (fun _ x => x) h⟩
theorem tT.go {F H : Hp} {σ : St} {ρ : EnvD} {f : EnvD → M Exn Bool} {Q : Bool → Hp → Prop} {k : Bool → Prop} (G : Good vol F H) (E : ERep vol K F H σ ρ) (h : (f ρ).run k (EX vol W σ F H))
    (hk : ∀ d, k d → ∀ F' H', Ext vol F H F' H' → Q d H') : tT vol K W f σ H Q := ⟨F, ρ, G, E, (f ρ).mono _ _ _ _ hk (fun _ x => x) h⟩
theorem tAF.go {F H : Hp} {σ : St} {ρ : EnvD} {f : EnvD → M Exn (List D)} {Q : List V → Hp → Prop} {k : List D → Prop} (G : Good vol F H) (E : ERep vol K F H σ ρ) (h : (f ρ).run k (EX vol W σ F H))
    (hk : ∀ d, k d → ∀ v F' H', Ext vol F H F' H' → RepL K F' d v → Q v H') : tAF vol K W f σ H Q := ⟨F, ρ, G, E, (f ρ).mono _ _ _ _ hk (fun _ x => x) h⟩
theorem tAB.go {F H : Hp} {σ : St} {ρ : EnvD} {f : EnvD → M Exn (List D)} {Q : List V → Hp → Prop} {k : List D → Prop} (G : Good vol F H) (E : ERep vol K F H σ ρ) (h : (f ρ).run k (EX vol W σ F H))
    (hk : ∀ d, k d → ∀ v F' H', Ext vol F H F' H' → RepBL vol K F' H' d v → Q v H') : tAB vol K W f σ H Q := ⟨F, ρ, G, E, (f ρ).mono _ _ _ _ hk (fun _ x => x) h⟩
theorem MonoEX {α : Type} {m : M Exn α} {σ : St} {F H F' H' : Hp} {k k' : α → Prop} (g : Good vol F H) (x : Ext vol F H F' H') (h : m.run k (EX vol W σ F H)) (hk : ∀ a, k a → k' a) : m.run k' (EX vol W σ F' H') :=
  m.mono _ _ _ _ hk (fun _ y => y.ext g x) h

theorem DF.toB (h : DF X vol W e f) : DB X vol W e f := ⟨h.run.conseq fun σ H Q ⟨F, ρ, G, E, r⟩ => tD.go G E r fun d k v F' H' x q => k v F' H' x (.inl q)⟩
theorem DN.toB (h : DN X vol W e f) : DB X vol W e f := ⟨h.run.conseq fun σ H Q ⟨F, ρ, G, E, r⟩ => ⟨F, ρ, G, E, (f ρ).mono _ _ _ _ (fun d k p F' H' x n r => k _ F' H' x (.inr ⟨p, rfl, r⟩)) (fun _ x => x) r⟩⟩
/-- a new object is frozen -/
theorem OwnAt.freeze {F H F' H' : Hp} {p : Addr} {d : D} (G : Good vol F H) (x : Ext vol F H F' H') (n : H p = none) (r : OwnAt vol K F' H' p d) : ∃ F2, Ext vol F H F2 H' ∧ Rep K F2 d (.ref p) := by
  obtain ⟨o, e⟩ := r.rep.there
  have sF : Same F' (upd F' p o) := fun a u q => by rw [upd_ne (ne_of_none q r.nF)]; exact q
  refine ⟨upd F' p o, ⟨⟨fun a u q => ?_, fun a hz => ?_, x.g.vi⟩, x.sF.trans sF, x.sH, fun q u e1 e2 => ?_⟩, ?_⟩
  · by_cases z : a = p
    · subst z; rw [upd_same] at q; cases q; exact e
    · rw [upd_ne z] at q; exact x.g.sub _ _ q
  · rw [upd_ne (fun z => r.nZ (by rw [← z]; exact hz))]; exact x.g.nz a hz
  · rw [upd_ne (ne_of_none e1 n)]; exact x.nw q u e1 e2
  · have h := r.rep
    cases d with
    | lst ds => obtain ⟨z, vs, q, r⟩ := h; rw [e] at q; cases q; exact ⟨z, p, vs, rfl, upd_same, RepL.up sF _ _ r⟩
    | dct kvs => obtain ⟨z, vs, q, r⟩ := h; rw [e] at q; cases q; exact ⟨z, p, vs, rfl, upd_same, RepK.up sF _ _ r⟩
    | obj C fs => obtain ⟨z, dx, vs, q, r⟩ := h; rw [e] at q; cases q; exact ⟨p, dx, vs, rfl, upd_same, RepF.up sF _ _ r⟩
    | _ => exact h.elim
theorem DN.toF (h : DN X vol W e f) : DF X vol W e f := ⟨h.run.conseq fun σ H Q ⟨F, ρ, G, E, r⟩ => ⟨F, ρ, G, E, (f ρ).mono _ _ _ _ (fun d k p F' H' x n r => by
  obtain ⟨F2, x2, r2⟩ := r.freeze G x n
  exact k _ F2 H' x2 r2) (fun _ x => x) r⟩⟩
end
end DL

namespace DL
open PySem PySem.Spec L2

/-! ### shapes -/
section
variable {vol : Vol} {K : PySem.W.Frag} {F H F' H' : Hp} {v : V}
theorem RepB.int {i : Int} (r : RepB vol K F H (.int i) v) : v = .int i := by
  rcases r with r | ⟨p, _, r⟩
  · exact r
  · exact r.rep.elim
theorem RepB.bl {i : Bool} (r : RepB vol K F H (.bl i) v) : v = .bl i := by
  rcases r with r | ⟨p, _, r⟩
  · exact r
  · exact r.rep.elim
theorem RepB.str {i : Str} (r : RepB vol K F H (.str i) v) : v = .str i := by
  rcases r with r | ⟨p, _, r⟩
  · exact r
  · exact r.rep.elim
theorem RepB.non (r : RepB vol K F H .non v) : v = .non := by
  rcases r with r | ⟨p, _, r⟩
  · exact r
  · exact r.rep.elim
theorem RepB.lst {ds : List D} (g : Good vol F H) (r : RepB vol K F H (.lst ds) v) : ds.length ≤ sizeLine ∧ ∃ a vs, v = .ref a ∧ H a = some (.lst vs) ∧ RepL K F ds vs := by
  rcases r with r | ⟨p, e, r⟩
  · obtain ⟨z, a, vs, e, h, r⟩ := r
    exact ⟨z, a, vs, e, g.sub _ _ h, r⟩
  · obtain ⟨z, vs, h, q⟩ := r.rep
    exact ⟨z, p, vs, e, h, q⟩
theorem RepB.tup {ds : List D} (g : Good vol F H) (r : RepB vol K F H (.tup ds) v) : ds.length ≤ sizeLine ∧ ∃ a vs, v = .ref a ∧ SqT K H a vs ∧ RepL K F ds vs := by
  rcases r with r | ⟨p, e, r⟩
  · obtain ⟨z, a, vs, e, h, r⟩ := r
    exact ⟨z, a, vs, e, Same.seqT g.sub h, r⟩
  · exact r.rep.elim
theorem RepB.dct {ds : List (Key × D)} (g : Good vol F H) (r : RepB vol K F H (.dct ds) v) : ds.length ≤ sizeLine ∧ ∃ a ws, v = .ref a ∧ H a = some (.dK ws) ∧ RepK K F ds ws := by
  rcases r with r | ⟨p, e, r⟩
  · obtain ⟨z, a, vs, e, h, r⟩ := r
    exact ⟨z, a, vs, e, g.sub _ _ h, r⟩
  · obtain ⟨z, vs, h, q⟩ := r.rep
    exact ⟨z, p, vs, e, h, q⟩
theorem RepB.obj {C : Addr} {fs : List (Str × D)} (g : Good vol F H) (r : RepB vol K F H (.obj C fs) v) : ∃ a dx ws, v = .ref a ∧ H a = some (.ins C dx ws) ∧ RepF K F fs ws := by
  rcases r with r | ⟨p, e, r⟩
  · obtain ⟨a, dx, vs, e, h, r⟩ := r
    exact ⟨a, dx, vs, e, g.sub _ _ h, r⟩
  · obtain ⟨z, dx, vs, h, q⟩ := r.rep
    exact ⟨p, dx, vs, e, h, q⟩
theorem RepL.length : ∀ {ds : List D} {vs : List V}, RepL K F ds vs → vs.length = ds.length
  | [], _, r => by cases r; rfl
  | d :: ds, _, r => by
    obtain ⟨v, r, rfl, _, b⟩ := r
    simp [RepL.length b]
theorem RepL.get : ∀ {ds : List D} {vs : List V} {i : Nat} {d : D}, RepL K F ds vs → ds[i]? = some d → ∃ v, vs[i]? = some v ∧ Rep K F d v
  | [], _, i, d, _, e => by simp at e
  | d' :: ds, _, i, d, r, e => by
    obtain ⟨v, r, rfl, a, b⟩ := r
    cases i with
    | zero => simp at e; subst e; exact ⟨v, rfl, a⟩
    | succ i => exact RepL.get (i := i) b (by simpa using e)
theorem RepL.append : ∀ {ds es : List D} {vs ws : List V}, RepL K F ds vs → RepL K F es ws → RepL K F (ds ++ es) (vs ++ ws)
  | [], _, _, _, r, q => by cases r; exact q
  | d :: ds, _, _, _, r, q => by
    obtain ⟨v, r, rfl, a, b⟩ := r
    exact ⟨v, _, rfl, a, RepL.append b q⟩
theorem RepL.take : ∀ {ds : List D} {vs : List V} (n : Nat), RepL K F ds vs → RepL K F (ds.take n) (vs.take n)
  | [], _, n, r => by cases r; simp; rfl
  | d :: ds, _, 0, r => by simp; rfl
  | d :: ds, _, n + 1, r => by
    obtain ⟨v, r, rfl, a, b⟩ := r
    exact ⟨v, _, rfl, a, RepL.take n b⟩
theorem RepL.drop : ∀ {ds : List D} {vs : List V} (n : Nat), RepL K F ds vs → RepL K F (ds.drop n) (vs.drop n)
  | [], _, n, r => by cases r; simp; rfl
  | d :: ds, _, 0, r => r
  | d :: ds, _, n + 1, r => by
    obtain ⟨v, r, rfl, a, b⟩ := r
    exact RepL.drop n b
theorem RepL.ints : ∀ {ns : List Int} {vs : List V}, RepL K F (ns.map D.int) vs → vs = ns.map V.int
  | [], _, r => by cases r; rfl
  | n :: ns, _, r => by
    obtain ⟨v, r, rfl, a, b⟩ := r
    cases a; rw [RepL.ints b]; rfl
theorem RepL.bls : ∀ {ns : List Bool} {vs : List V}, RepL K F (ns.map D.bl) vs → vs = ns.map V.bl
  | [], _, r => by cases r; rfl
  | n :: ns, _, r => by
    obtain ⟨v, r, rfl, a, b⟩ := r
    cases a; rw [RepL.bls b]; rfl
theorem RepL.strs : ∀ {ns : List Str} {vs : List V}, RepL K F (ns.map D.str) vs → vs = ns.map V.str
  | [], _, r => by cases r; rfl
  | n :: ns, _, r => by
    obtain ⟨v, r, rfl, a, b⟩ := r
    cases a; rw [RepL.strs b]; rfl
theorem RepF.lookup {f : Str} : ∀ {fs : List (Str × D)} {ws : List (Str × V)} {d : D}, RepF K F fs ws → fs.lookup f = some d → ∃ v, ws.lookup f = some v ∧ Rep K F d v
  | [], _, _, _, e => by simp at e
  | (n, d') :: fs, _, d, r, e => by
    obtain ⟨v, r, rfl, a, b⟩ := r
    rw [List.lookup_cons] at e ⊢
    cases q : f == n with
    | true => rw [q] at e; simp at e; subst e; exact ⟨v, by simp, a⟩
    | false => rw [q] at e; exact RepF.lookup b e
theorem RepF.none {f : Str} : ∀ {fs : List (Str × D)} {ws : List (Str × V)}, RepF K F fs ws → fs.lookup f = Option.none → ws.lookup f = Option.none
  | [], _, r, _ => by cases r; rfl
  | (n, d') :: fs, _, r, e => by
    obtain ⟨v, r, rfl, a, b⟩ := r
    rw [List.lookup_cons] at e ⊢
    cases q : f == n with
    | true => rw [q] at e; simp at e
    | false => rw [q] at e; exact RepF.none b e
/-- a dict's look-up -/
def valD (kvs : List (Key × D)) (k : Key) : Option D := (kvs.find? fun kv => decide (kv.1 = k)).map (·.2)
def putD (kvs : List (Key × D)) (k : Key) (d : D) : List (Key × D) :=
  if kvs.any fun kv => decide (kv.1 = k) then kvs.map fun kv => if kv.1 = k then (kv.1, d) else kv else kvs ++ [(k, d)]
theorem valD_cons (p : Key × D) (r : List (Key × D)) (k : Key) : valD (p :: r) k = if p.1 = k then some p.2 else valD r k := by
  unfold valD
  rw [List.find?_cons]
  by_cases e : p.1 = k
  · rw [if_pos e]; simp [e]
  · rw [if_neg e]; simp [e]
theorem RepK.val {k : Key} : ∀ {kvs : List (Key × D)} {ws : List (Key × V)}, RepK K F kvs ws → match valD kvs k with | some d => ∃ v, valV ws k = some v ∧ Rep K F d v | Option.none => valV ws k = Option.none
  | [], _, r => by cases r; rfl
  | (k', d) :: kvs, _, r => by
    obtain ⟨v, r, rfl, a, b⟩ := r
    by_cases e : k' = k
    · rw [valD_cons, if_pos e, valV_pos e]
      exact ⟨v, rfl, a⟩
    · rw [valD_cons, if_neg e, valV_neg e]
      exact RepK.val b
theorem RepK.length : ∀ {kvs : List (Key × D)} {ws : List (Key × V)}, RepK K F kvs ws → ws.length = kvs.length
  | [], _, r => by cases r; rfl
  | (k', d) :: kvs, _, r => by
    obtain ⟨v, r, rfl, a, b⟩ := r
    simp [RepK.length b]
theorem RepK.any {k : Key} : ∀ {kvs : List (Key × D)} {ws : List (Key × V)}, RepK K F kvs ws → (ws.any fun kv => decide (kv.1 = k)) = kvs.any fun kv => decide (kv.1 = k)
  | [], _, r => by cases r; rfl
  | (k', d) :: kvs, _, r => by
    obtain ⟨v, r, rfl, a, b⟩ := r
    simp [RepK.any b]
theorem RepK.mapd {k : Key} {d : D} {v : V} (h : Rep K F d v) : ∀ {kvs : List (Key × D)} {ws : List (Key × V)}, RepK K F kvs ws → RepK K F (kvs.map fun kv => if kv.1 = k then (kv.1, d) else kv) (ws.map fun kv => if kv.1 = k then (kv.1, v) else kv)
  | [], _, r => by cases r; rfl
  | (k', d') :: kvs, _, r => by
    obtain ⟨v', r, rfl, a, b⟩ := r
    by_cases e : k' = k
    · simp only [List.map_cons, if_pos e]
      exact ⟨v, _, rfl, h, RepK.mapd h b⟩
    · simp only [List.map_cons, if_neg e]
      exact ⟨v', _, rfl, a, RepK.mapd h b⟩
theorem RepK.snoc {k : Key} {d : D} {v : V} (h : Rep K F d v) : ∀ {kvs : List (Key × D)} {ws : List (Key × V)}, RepK K F kvs ws → RepK K F (kvs ++ [(k, d)]) (ws ++ [(k, v)])
  | [], _, r => by cases r; exact ⟨v, _, rfl, h, rfl⟩
  | (k', d') :: kvs, _, r => by
    obtain ⟨v', r, rfl, a, b⟩ := r
    exact ⟨v', _, rfl, a, RepK.snoc h b⟩
theorem RepK.put {k : Key} {d : D} {v : V} (h : Rep K F d v) {kvs : List (Key × D)} {ws : List (Key × V)} (r : RepK K F kvs ws) : RepK K F (putD kvs k d) (putK ws k v) := by
  unfold putD putK
  rw [r.any]
  cases kvs.any fun kv => decide (kv.1 = k) with
  | true => exact RepK.mapd h r
  | false => exact RepK.snoc h r
theorem length_putD (kvs : List (Key × D)) (k : Key) (v : D) : (putD kvs k v).length ≤ kvs.length + 1 := by
  unfold putD
  split <;> simp
end

/-! ### equality of data -/
mutual
def toP : D → Option PyData
  | .non => some .none
  | .bl b => some (.bool b)
  | .int i => some (.int i)
  | .str x => some (.str x)
  | .lst ds => (toPs ds).map .list
  | .tup ds => (toPs ds).map .tuple
  | .dct _ => none
  | .obj _ _ => none
  | .fn _ => none
def toPs : List D → Option (List PyData)
  | [] => some []
  | d :: ds => (toP d).bind fun p => (toPs ds).map fun ps => p :: ps
end
mutual
theorem Rep.dp {K : PySem.W.Frag} {F H : Hp} (s : Same F H) : ∀ (d : D) (p : PyData) (v : V), toP d = some p → Rep K F d v → Dp K H v p
  | .non, p, v, e, r => by cases e; cases r; exact .non
  | .bl b, p, v, e, r => by cases e; cases r; exact .bl b
  | .int i, p, v, e, r => by cases e; cases r; exact .int i
  | .str x, p, v, e, r => by cases e; cases r; exact .str x
  | .lst ds, p, v, e, r => by
    obtain ⟨z, a, vs, rfl, h, r⟩ := r
    unfold toP at e
    cases q : toPs ds with
    | none => rw [q] at e; cases e
    | some ps => rw [q] at e; cases e; exact .lst (SqL.of (s _ _ h)) (RepL.dp s ds ps vs q r)
  | .tup ds, p, v, e, r => by
    obtain ⟨z, a, vs, rfl, h, r⟩ := r
    unfold toP at e
    cases q : toPs ds with
    | none => rw [q] at e; cases e
    | some ps => rw [q] at e; cases e; exact .tup (Same.seqT s h) (RepL.dp s ds ps vs q r)
  | .dct _, p, v, e, r => by cases e
  | .obj _ _, p, v, e, r => by cases e
  | .fn _, p, v, e, r => by cases e
theorem RepL.dp {K : PySem.W.Frag} {F H : Hp} (s : Same F H) : ∀ (ds : List D) (ps : List PyData) (vs : List V), toPs ds = some ps → RepL K F ds vs → DpAll K H vs ps
  | [], ps, vs, e, r => by cases e; cases r; exact .nil
  | d :: ds, ps, _, e, r => by
    obtain ⟨v, r, rfl, a, b⟩ := r
    unfold toPs at e
    cases q : toP d with
    | none => rw [q] at e; cases e
    | some p =>
      rw [q] at e
      cases q' : toPs ds with
      | none => rw [q'] at e; cases e
      | some ps' => rw [q'] at e; cases e; exact .cons (Rep.dp s d p v q a) (RepL.dp s ds ps' r q' b)
end
theorem RepB.dp {vol : Vol} {K : PySem.W.Frag} {F H : Hp} (g : Good vol F H) {d : D} {p : PyData} {v : V} (e : toP d = some p) (r : RepB vol K F H d v) : Dp K H v p := by
  rcases r with r | ⟨q, rfl, r⟩
  · exact Rep.dp g.sub d p v e r
  · cases d with
    | lst ds =>
      obtain ⟨z, vs, h, r⟩ := r.rep
      unfold toP at e
      cases q : toPs ds with
      | none => rw [q] at e; cases e
      | some ps => rw [q] at e; cases e; exact .lst (SqL.of h) (RepL.dp g.sub ds ps vs q r)
    | dct _ => cases e
    | obj _ _ => cases e
    | _ => exact r.rep.elim
end DL

set_option maxHeartbeats 2000000
/-! exceptions whose context is None: what the deep layer lacks -/
namespace DL
open PySem PySem.Spec PyProof.Rows L2
theorem takes0N {X : Cx} : L2N.Takes X (fun _ _ _ _ => False) := fun u s h => by
  have ⟨a, B, sI, pins, σ, H, cls, d, e1, e2, e3, e4, e5, e6, e7, e8, w⟩ := h
  exact w.elim
/-- an exception of an own class with an own __init__ is made: its context is None -/
theorem pmk_oexN {X : Cx} {CX : CXT} {x : Str} {e : Expr} {es : List Expr} {ta : TA} {p pos : Pos} {C fI : Addr} {k : Nat} {fd : FuncData} {ps : List Str} {sp : Sp}
    (T : OexC X.K C) (iC : PySem.W.findIn X.K (.ref C) "__init__" = some (some (.ref fI))) (tI : PySem.W.typeIn X.K (.ref fI) = some (.type "function"))
    (F1 : FnOk X.prog X.w X.K X.mg X.base CX k fI fd ps sp) (hr : Room (k + 1) X.A) (hb : Binds X.K fd ps []) (hx : Passes CX X (fun _ _ _ => False)) (hg : Gl X x) (hm : X.mg x = some (.ref C)) (ha : PA X (e :: es) ta)
    (hd : (x == ("__debug__" : Str)) = false) (hs : starEach (e :: es) X.env = (false, eval e X.env) :: starEach es X.env) (hpl : (backTo pos (starEach es X.env)).any (·.1) = false) :
    L2N.PMk X (.Call (.Name x p) (e :: es) [] pos) (tMkO C sp [] ta) := fun pins s σ H Q I h => by
  have ⟨nm, q, N, bs, bm, sn, sub, ab, col, dd, k0, k1, k2, k3, k5, hC, hbm⟩ := T.cls
  refine wpAny_Call_Name_kw (ld_glob I hg hm ?_ hd)
  refine PySem.W.callWith_K (h₀ := X.base) I.ok.mod.kin T.kC (thn (ha.run pos pins s σ H _ I h) fun us s1 h1 => ?_) hs hpl
  obtain ⟨vs, H1, I1, r1, hz, q1⟩ := h1
  refine ⟨I1.kIn, ?_⟩
  rcases s1 with ⟨hp, g, dr, tk, os⟩
  show wpAny _ _ (call (.ref C) us) _ _ _
  -- the new object stands behind the arguments' tuple
  let n : Addr := hp.objs.size + 1
  let h2 : Heap := (hp.push (PySem.W.kdv_tup us)).push (PySem.HandSPX.excO C hp.objs.size)
  have hsz : hp.objs.size ≤ n := Nat.le_succ _
  have kk : ∀ b o, hp.get? b = some o → h2.get? b = some o := fun b o y => Heap.get?_push_of_some _ (Heap.get?_push_of_some _ y)
  have at2 : h2.get? n = some (PySem.HandSPX.excO C hp.objs.size) := by
    show ((hp.push (PySem.W.kdv_tup us)).push (PySem.HandSPX.excO C hp.objs.size)).get? (hp.objs.size + 1) = _
    heap_get
  have hq := q1 n (I1.hok.fresh hsz)
  rw [List.append_nil] at hq
  have I2 : Inv X pins σ (upd H1 n (exo n C none)) ⟨h2, g, dr, tk, os⟩ := I1.laid (t' := tk) (a := n) (o := exo n C none) (h' := h2) kk hsz (exo_ok at2)
  have r2 : Vals (V.ref n :: vs) (Value.ref n :: us) := .cons rfl r1
  have hl : (Value.ref n :: us).length = ps.length := r2.length.symm.trans (F1.len _ _ _ _ hq)
  have hus : us.length ≤ sizeLine := by
    have := Paired.length r1
    rw [sizeLine_eq]; omega
  have b2 := hb ⟨h2, g, dr, tk, os⟩ (Value.ref n :: us) I2.kIn (by rw [List.append_nil]; exact hl)
  rw [List.append_nil] at b2
  have body := F1.run _ X.stack _ _ ⟨Value.ref n :: us, []⟩ (Value.ref n :: us) _ _ (fun _ _ _ => False) (hr.make C us []) (I2.env0.make C us []) b2 r2 hq
  refine wpAny_call (PySem.HandSPX.call_own F.excBase_ValueError (fun Y => PySem.HandSPX.refsVE_contains Y bm hbm) (I1.kIn _ _ hC) (PySem.W.looks_findIn I1.kIn iC) (fun self => PySem.W.bind_fn I1.kIn self tI) hus (codeAny_mono body fun r s' hq' => ?_))
  match r, hq' with
  | .error er, hq' => exact hx pins σ _ _ er s' I2 hq'
  | .ok .next, hq' => exact False.elim hq'
  | .ok .brk, hq' => exact False.elim hq'
  | .ok .cont, hq' => exact False.elim hq'
  | .ok (.ret u), hq' =>
    obtain ⟨v, H2, os2, bare2, un2, hok2, rv, ev, d, fs, ea, ed, hd1, q2⟩ := hq'
    subst ev
    rcases s' with ⟨h3, g2, d2, t2, os'⟩
    have ⟨t0, G, J, kG, ge, hoe, na⟩ := mk_end0 (d2 := d2) (t2 := t2) I1 hsz kk un2 hok2 os2 bare2 ea ed hd1
    exact ⟨rv, n, _, _, ⟨G, g2, d2, t2, os'⟩, _, .ref C, some d, rfl, J, kG, ge, hoe, ⟨rfl, rfl, fun vs hv => by cases hv; rfl⟩, rfl, rfl, na, rfl, bare2, raises_own T.exC T.tyC, q2⟩
/-- a def that may raise, its promise for any way of telling what leaves it -/
theorem fun_okN {P : Program} {w : World} {K : PySem.W.Frag} {mg : Str → Option Value} {base : Heap} {CX : CXT} {x qual : Str} {st : Stmt} {f : Addr} {fd : FuncData} {N ps : List Str} {k : Nat} {sp : Sp} (F : Fun K x qual st f fd) (S : FnScope N ps (defScope st))
    (len : ∀ vs H Q E, sp vs H Q E → vs.length = ps.length)
    (h : ∀ cdv A outer s H vs Q E, Room k (A.deeper (envOfC qual (defScope st) s.heap.objs.size f cdv)) → sp vs H Q E →
      ∃ t, PSs (cxOf CX P w K mg base N qual (defScope st) f cdv A outer s H E) (defBody st) t ∧ t { nx := fun _ H' => Q .non H', rt := Q } (L2.start N vs) H) : FnOk P w K mg base CX (k + 1) f fd ps sp := by
  have ⟨oc, od, kV, doc, pm, an, cdv, ct, osl, e, lk, hcd⟩ := F.ex
  subst e
  exact fn_of lk hcd S len fun A outer s H vs Q E hr hsp => h cdv A outer s H vs Q E hr hsp
end DL

namespace DL
open PySem PySem.Spec L2

/-- what a def's body (a block) stands in -/
structure Ctx (X : Cx) (W : WX) (k : Nat) : Prop where
  tk : L2N.Takes X W
  ps : PassesOwn (model X.prog X.w) X.A X.env X.xe
  calm : X.calm = true
  nd : X.N.Nodup
  room : Room k X.A

section
variable {X : Cx} {vol : Vol} {W : WX} {e a b c : Expr} {es : List Expr} {f fa fb fc : EnvD → M Exn D} {pos : Pos} {k : Nat}

/-! ### names, constants -/
def getV (i : Nat) (ρ : EnvD) : M Exn D := match ρ[i]? with
  | some (some (.im d)) => ret d
  | _ => stuck
def getB (i : Nat) (ρ : EnvD) : M Exn D := match ρ[i]? with
  | some (some (.im d)) => ret d
  | some (some (.own d)) => ret d
  | _ => stuck
theorem df_var (i : Nat) {x : Str} (h : PE X (.Name x pos) (tVar i)) : DF X vol W (.Name x pos) (getV i) := ⟨h.conseq fun σ H Q ⟨F, ρ, G, E, r⟩ => by
  unfold getV at r
  split at r
  · rename_i d q
    obtain ⟨v, e, rv⟩ := E.im _ _ q
    exact ⟨v, e, r v F H G.ext rv⟩
  · exact r.elim⟩
theorem db_var (i : Nat) {x : Str} (h : PE X (.Name x pos) (tVar i)) : DB X vol W (.Name x pos) (getB i) := ⟨h.conseq fun σ H Q ⟨F, ρ, G, E, r⟩ => by
  unfold getB at r
  split at r
  · rename_i d q
    obtain ⟨v, e, rv⟩ := E.im _ _ q
    exact ⟨v, e, r v F H G.ext (.inl rv)⟩
  · rename_i d q
    obtain ⟨p, e, rv⟩ := E.own _ _ q
    exact ⟨_, e, r _ F H G.ext (.inr ⟨p, rfl, rv⟩)⟩
  · exact r.elim⟩
theorem df_const {v : V} {d : D} (h : PE X e (tC v)) (r : ∀ F : Hp, Rep X.K F d v) : DF X vol W e (fun _ => ret d) := ⟨h.conseq fun σ H Q ⟨F, ρ, G, E, q⟩ => q v F H G.ext (r F)⟩
theorem df_int {i : Int} {j} : DF X vol W (.Constant (.int i) j pos) (fun _ => ret (.int i)) := df_const pe_int fun _ => rfl
theorem df_bl {i : Bool} {j} : DF X vol W (.Constant (.bool i) j pos) (fun _ => ret (.bl i)) := df_const pe_bl fun _ => rfl
theorem df_str {i : Str} {j} : DF X vol W (.Constant (.str i) j pos) (fun _ => ret (.str i)) := df_const pe_str fun _ => rfl
theorem df_non {j} : DF X vol W (.Constant .none j pos) (fun _ => ret .non) := df_const pe_non fun _ => rfl

/-! ### two values, one value -/
@[reducible] def two (fa fb : EnvD → M Exn D) (g : D → D → M Exn D) : EnvD → M Exn D := fun ρ => bnd (fa ρ) fun x => bnd (fb ρ) fun y => g x y
@[reducible] def one (fa : EnvD → M Exn D) (g : D → M Exn D) : EnvD → M Exn D := fun ρ => bnd (fa ρ) g
/-- what a rule r on values asks is what g tells -/
def Agr2 (vol : Vol) (K : PySem.W.Frag) (r : R2) (g : D → D → M Exn D) : Prop := ∀ (F H : Hp) (x y : D) (v w : V) (Q : VK) (e : Exn → Prop), Good vol F H → RepB vol K F H x v → RepB vol K F H y w → (g x y).run (VF vol K F H Q) e → r v w H Q
def Agr1 (vol : Vol) (K : PySem.W.Frag) (r : V → Hp → VK → Prop) (g : D → M Exn D) : Prop := ∀ (F H : Hp) (x : D) (v : V) (Q : VK) (e : Exn → Prop), Good vol F H → RepB vol K F H x v → (g x).run (VF vol K F H Q) e → r v H Q
theorem two_go {r : R2} {g : D → D → M Exn D} {K : PySem.W.Frag} (hr : Agr2 vol K r g) {σ : St} {H : Hp} {Q : VK}
    (h : tD VF vol K W (two fa fb g) σ H Q) : tOp r (tD VB vol K W fa) (tD VB vol K W fb) σ H Q := by
  obtain ⟨F, ρ, G, E, q⟩ := h
  refine tD.goB G E q fun x q1 v F1 H1 x1 r1 => ?_
  refine tD.goB x1.g (E.ext x1) (MonoEX G x1 q1 fun _ z => z) fun y q2 w F2 H2 x2 r2 => ?_
  have x3 := x1.trans G x2
  refine hr F2 H2 x y v w Q (EX vol W σ F H) x2.g (r1.ext x2) r2 ((g x y).mono _ _ _ _ (fun d z u F' H' x4 ru => z u F' H' (x3.trans G x4) ru) (fun _ z => z) q2)
theorem df_op {op : Operator} {r : R2} {g : D → D → M Exn D} (ho : OpR X (binaryOp op) r) (hr : Agr2 vol X.K r g) (ha : DB X vol W a fa) (hb : DB X vol W b fb) : DF X vol W (.BinOp a op b pos) (two fa fb g) :=
  ⟨(pe_op ho ha.run hb.run).conseq fun σ H Q h => two_go hr h⟩
theorem df_cmp {op : CmpOp} {r : R2} {g : D → D → M Exn D} (ho : OpR X (compareOp op) r) (hr : Agr2 vol X.K r g) (ha : DB X vol W a fa) (hb : DB X vol W b fb) (hm : behindInMarks op b = false) : DF X vol W (.Compare a [op] [b] pos) (two fa fb g) :=
  ⟨(pe_cmpR ho ha.run hb.run hm).conseq fun σ H Q h => two_go hr h⟩
theorem df_ix {r : R2} {g : D → D → M Exn D} (ho : IxR X r) (hr : Agr2 vol X.K r g) (ha : DB X vol W a fa) (hb : DB X vol W b fb) (hs : PlainIx b) : DF X vol W (.Subscript a b pos) (two fa fb g) :=
  ⟨(pe_ix ho ha.run hb.run hs).conseq fun σ H Q h => two_go hr h⟩
theorem df_un {op : UnaryOp} {r : V → Hp → VK → Prop} {g : D → M Exn D} (ho : UnR X (unaryOp op) r) (hr : Agr1 vol X.K r g) (ha : DB X vol W a fa) : DF X vol W (.UnaryOp op a pos) (one fa g) :=
  ⟨(pe_un ho ha.run).conseq fun σ H Q ⟨F, ρ, G, E, q⟩ => tD.goB G E q fun x q1 v F1 H1 x1 r1 =>
    hr F1 H1 x v Q (EX vol W σ F H) x1.g r1 ((g x).mono _ _ _ _ (fun d z u F' H' x4 ru => z u F' H' (x1.trans G x4) ru) (fun _ z => z) q1)⟩
/-- a truth value, as a test -/
def asB : D → M Exn Bool
  | .bl b => ret b
  | _ => stuck
@[reducible] def tst (f : EnvD → M Exn D) : EnvD → M Exn Bool := fun ρ => bnd (f ρ) asB
theorem tst_go {K : PySem.W.Frag} {σ : St} {H : Hp} {Q : Bool → Hp → Prop} (h : tT vol K W (tst f) σ H Q) : tD VB vol K W f σ H fun x H1 => ∃ c, x = .bl c ∧ Q c H1 := by
  obtain ⟨F, ρ, G, E, q⟩ := h
  refine tD.goB G E q fun x q1 v F1 H1 x1 r1 => ?_
  unfold asB at q1
  split at q1
  · rw [r1.bl]; exact ⟨_, rfl, q1 F1 H1 x1⟩
  · exact q1.elim
theorem dt_val (h : DB X vol W e f) (he : ∀ whole, isTrue e X.env whole = (do let v ← whole; standAt e.pos; holding [v] (truthy v)) := by intro _; rfl) : DT X vol W e (tst f) :=
  ⟨(pt_val h.run he).conseq fun σ H Q q => tst_go q⟩
theorem dt_cmp {op : CmpOp} {r : R2} {g : D → D → M Exn D} (ho : OpR X (compareOp op) r) (hr : Agr2 vol X.K r g) (ha : DB X vol W a fa) (hb : DB X vol W b fb) (hm : behindInMarks op b = false) : DT X vol W (.Compare a [op] [b] pos) (tst (two fa fb g)) :=
  ⟨(pt_cmpR ho ha.run hb.run hm).conseq fun σ H Q ⟨F, ρ, G, E, q⟩ => two_go hr ⟨F, ρ, G, E, (two fa fb g ρ).mono _ _ _ _ (fun d q1 v F1 H1 x1 r1 => by
    unfold asB at q1
    split at q1
    · cases r1; exact ⟨_, rfl, q1 F1 H1 x1⟩
    · exact q1.elim) (fun _ z => z) q⟩⟩

/-! ### and, or, not, if .. else -/
@[reducible] def andT (f g : EnvD → M Exn Bool) : EnvD → M Exn Bool := fun ρ => bnd (f ρ) fun c => if c = true then g ρ else ret false
@[reducible] def orT (f g : EnvD → M Exn Bool) : EnvD → M Exn Bool := fun ρ => bnd (f ρ) fun c => if c = true then ret true else g ρ
@[reducible] def notT (f : EnvD → M Exn Bool) : EnvD → M Exn Bool := fun ρ => bnd (f ρ) fun c => ret !c
@[reducible] def blD (f : EnvD → M Exn Bool) : EnvD → M Exn D := fun ρ => bnd (f ρ) fun c => ret (.bl c)
variable {ft gt : EnvD → M Exn Bool} {rest : List Expr}
theorem DW.t (h : DW X vol W e ft) : DT X vol W e ft := ⟨h.run.pt⟩
theorem dw_and1 (h : DT X vol W a ft) : DW X vol W (.BoolOp .And [a] pos) ft := ⟨pw_and1 h.run⟩
theorem dw_or1 (h : DT X vol W a ft) : DW X vol W (.BoolOp .Or [a] pos) ft := ⟨pw_or1 h.run⟩
theorem dw_and (ha : DT X vol W a ft) (hb : DW X vol W (.BoolOp .And (b :: rest) pos) gt) : DW X vol W (.BoolOp .And (a :: b :: rest) pos) (andT ft gt) :=
  ⟨(pw_and ha.run hb.run).conseq fun σ H Q ⟨F, ρ, G, E, q⟩ => tT.go G E q fun c q1 F1 H1 x1 => by
    cases c with
    | true => exact tT.go x1.g (E.ext x1) (MonoEX G x1 q1 fun _ z => z) fun c q2 F2 H2 x2 => q2 F2 H2 (x1.trans G x2)
    | false => exact q1 F1 H1 x1⟩
theorem dw_or (ha : DT X vol W a ft) (hb : DW X vol W (.BoolOp .Or (b :: rest) pos) gt) : DW X vol W (.BoolOp .Or (a :: b :: rest) pos) (orT ft gt) :=
  ⟨(pw_or ha.run hb.run).conseq fun σ H Q ⟨F, ρ, G, E, q⟩ => tT.go G E q fun c q1 F1 H1 x1 => by
    cases c with
    | false => exact tT.go x1.g (E.ext x1) (MonoEX G x1 q1 fun _ z => z) fun c q2 F2 H2 x2 => q2 F2 H2 (x1.trans G x2)
    | true => exact q1 F1 H1 x1⟩
theorem dt_not (ha : DT X vol W a ft) : DT X vol W (.UnaryOp .Not a pos) (notT ft) :=
  ⟨(pt_not ha.run).conseq fun σ H Q ⟨F, ρ, G, E, q⟩ => tT.go G E q fun c q1 F1 H1 x1 => q1 F1 H1 x1⟩
theorem dt_ifExp {gt : EnvD → M Exn Bool} (hc : DT X vol W c gt) (ha : DB X vol W a fa) (hb : DB X vol W b fb) : DB X vol W (.IfExp c a b pos) (fun ρ => bnd (gt ρ) fun c => if c = true then fa ρ else fb ρ) :=
  ⟨(pe_ifExp hc.run ha.run hb.run).conseq fun σ H Q ⟨F, ρ, G, E, q⟩ => tT.go G E q fun c q1 F1 H1 x1 => by
    cases c with
    | true => exact tD.goB x1.g (E.ext x1) (MonoEX G x1 q1 fun _ z => z) fun c q2 v F2 H2 x2 r2 => q2 v F2 H2 (x1.trans G x2) r2
    | false => exact tD.goB x1.g (E.ext x1) (MonoEX G x1 q1 fun _ z => z) fun c q2 v F2 H2 x2 r2 => q2 v F2 H2 (x1.trans G x2) r2⟩
theorem df_ifExp {gt : EnvD → M Exn Bool} (hc : DT X vol W c gt) (ha : DF X vol W a fa) (hb : DF X vol W b fb) : DF X vol W (.IfExp c a b pos) (fun ρ => bnd (gt ρ) fun c => if c = true then fa ρ else fb ρ) :=
  ⟨(pe_ifExp hc.run ha.run hb.run).conseq fun σ H Q ⟨F, ρ, G, E, q⟩ => tT.go G E q fun c q1 F1 H1 x1 => by
    cases c with
    | true => exact tD.go x1.g (E.ext x1) (MonoEX G x1 q1 fun _ z => z) fun c q2 v F2 H2 x2 r2 => q2 v F2 H2 (x1.trans G x2) r2
    | false => exact tD.go x1.g (E.ext x1) (MonoEX G x1 q1 fun _ z => z) fun c q2 v F2 H2 x2 r2 => q2 v F2 H2 (x1.trans G x2) r2⟩
/-- and, or of truth values, as a value -/
@[reducible] def andV (f g : EnvD → M Exn D) : EnvD → M Exn D := fun ρ => bnd (bnd (f ρ) asB) fun c => if c = true then g ρ else ret (.bl false)
@[reducible] def orV (f g : EnvD → M Exn D) : EnvD → M Exn D := fun ρ => bnd (bnd (f ρ) asB) fun c => if c = true then ret (.bl true) else g ρ
theorem dv_one {op : BoolOp} (h : DF X vol W a fa) : DF X vol W (.BoolOp op [a] pos) fa := ⟨pe_one h.run⟩
theorem dv_and (ha : DF X vol W a fa) (hb : DF X vol W (.BoolOp .And (b :: rest) pos) fb) : DF X vol W (.BoolOp .And (a :: b :: rest) pos) (andV fa fb) :=
  ⟨(pe_and ha.run hb.run).conseq fun σ H Q ⟨F, ρ, G, E, q⟩ => tD.go G E q fun x q1 v F1 H1 x1 r1 => by
    cases x with
    | bl c =>
      cases r1
      refine ⟨c, rfl, ?_⟩
      cases c with
      | true => exact tD.go x1.g (E.ext x1) (MonoEX G x1 q1 fun _ z => z) fun c q2 v F2 H2 x2 r2 => q2 v F2 H2 (x1.trans G x2) r2
      | false => exact q1 _ F1 H1 x1 rfl
    | _ => exact q1.elim⟩
theorem dv_or (ha : DF X vol W a fa) (hb : DF X vol W (.BoolOp .Or (b :: rest) pos) fb) : DF X vol W (.BoolOp .Or (a :: b :: rest) pos) (orV fa fb) :=
  ⟨(pe_or ha.run hb.run).conseq fun σ H Q ⟨F, ρ, G, E, q⟩ => tD.go G E q fun x q1 v F1 H1 x1 r1 => by
    cases x with
    | bl c =>
      cases r1
      refine ⟨c, rfl, ?_⟩
      cases c with
      | false => exact tD.go x1.g (E.ext x1) (MonoEX G x1 q1 fun _ z => z) fun c q2 v F2 H2 x2 r2 => q2 v F2 H2 (x1.trans G x2) r2
      | true => exact q1 _ F1 H1 x1 rfl
    | _ => exact q1.elim⟩
theorem dv_not (ha : DF X vol W a fa) : DF X vol W (.UnaryOp .Not a pos) (fun ρ => bnd (bnd (fa ρ) asB) fun c => ret (.bl !c)) :=
  ⟨(pe_not ha.run).conseq fun σ H Q ⟨F, ρ, G, E, q⟩ => tD.go G E q fun x q1 v F1 H1 x1 r1 => by
    cases x with
    | bl c => cases r1; exact ⟨c, rfl, q1 _ F1 H1 x1 rfl⟩
    | _ => exact q1.elim⟩
end
end DL

namespace DL
open PySem PySem.Spec L2

section
variable {X : Cx} {vol : Vol} {W : WX} {e a b c : Expr} {es : List Expr} {f fa fb fc : EnvD → M Exn D} {pos : Pos} {k : Nat} {K : PySem.W.Frag}

/-! ### whole numbers -/
def opI (C : Int → Int → Prop) [∀ i j, Decidable (C i j)] (g : Int → Int → Int) : D → D → M Exn D
  | .int i, .int j => if C i j then ret (.int (g i j)) else stuck
  | _, _ => stuck
def opI0 (g : Int → Int → Int) : D → D → M Exn D
  | .int i, .int j => ret (.int (g i j))
  | _, _ => stuck
def opC (g : Int → Int → Bool) : D → D → M Exn D
  | .int i, .int j => ret (.bl (g i j))
  | _, _ => stuck
theorem agr_I {C : Int → Int → Prop} [∀ i j, Decidable (C i j)] {g : Int → Int → Int} : Agr2 vol K (rI C fun i j => .int (g i j)) (opI C g) := fun F H x y v w Q e G rx ry h => by
  unfold opI at h
  split at h
  · split at h
    · rename_i hc
      exact ⟨_, _, rx.int, ry.int, hc, h _ F H G.ext rfl⟩
    · exact h.elim
  · exact h.elim
theorem agr_I0 {g : Int → Int → Int} : Agr2 vol K (rI0 fun i j => .int (g i j)) (opI0 g) := fun F H x y v w Q e G rx ry h => by
  unfold opI0 at h
  split at h
  · exact ⟨_, _, rx.int, ry.int, h _ F H G.ext rfl⟩
  · exact h.elim
theorem agr_C {g : Int → Int → Bool} : Agr2 vol K (rI0 fun i j => .bl (g i j)) (opC g) := fun F H x y v w Q e G rx ry h => by
  unfold opC at h
  split at h
  · exact ⟨_, _, rx.int, ry.int, h _ F H G.ext rfl⟩
  · exact h.elim
instance : ∀ i j, Decidable (CMul i j) := fun i j => by unfold CMul; infer_instance
instance : ∀ i j, Decidable (CPow i j) := fun i j => by unfold CPow; infer_instance
instance : ∀ i j, Decidable (CDivN i j) := fun i j => by unfold CDivN; infer_instance
@[reducible] def subD := opI0 fun i j => i - j
@[reducible] def mulD := opI CMul fun i j => i * j
@[reducible] def fdivD := opI CDivN fun i j => i.fdiv j
@[reducible] def modD := opI (fun _ j => j ≠ 0) fun i j => i.fmod j
@[reducible] def powD := opI CPow fun i j => i ^ j.toNat
@[reducible] def shlD := opI CPow fun i j => i * 2 ^ j.toNat
@[reducible] def shrD := opI (fun _ j => 0 ≤ j) fun i j => i / 2 ^ j.toNat
@[reducible] def andD := opI0 Builtin.bitAnd
@[reducible] def orD := opI0 Builtin.bitOr
@[reducible] def xorD := opI0 Builtin.bitXor
@[reducible] def ltD := opC fun i j => decide (i < j)
@[reducible] def leD := opC fun i j => decide (i ≤ j)
@[reducible] def gtD := opC fun i j => decide (j < i)
@[reducible] def geD := opC fun i j => decide (j ≤ i)
def negD : D → M Exn D
  | .int i => ret (.int (-i))
  | _ => stuck
theorem df_neg (ha : DB X vol W a fa) : DF X vol W (.UnaryOp .USub a pos) (one fa negD) := df_un un_neg (fun F H x v Q e G r h => by
  unfold negD at h
  split at h
  · exact ⟨_, r.int, h _ F H G.ext rfl⟩
  · exact h.elim) ha
variable (ha : DB X vol W a fa) (hb : DB X vol W b fb)
include ha hb
theorem df_sub : DF X vol W (.BinOp a .Sub b pos) (two fa fb subD) := df_op op_sub agr_I0 ha hb
theorem df_mul : DF X vol W (.BinOp a .Mult b pos) (two fa fb mulD) := df_op op_mul agr_I ha hb
theorem df_fdiv : DF X vol W (.BinOp a .FloorDiv b pos) (two fa fb fdivD) := df_op op_fdivN agr_I ha hb
theorem df_mod : DF X vol W (.BinOp a .Mod b pos) (two fa fb modD) := df_op op_modN agr_I ha hb
theorem df_pow : DF X vol W (.BinOp a .Pow b pos) (two fa fb powD) := df_op op_pow agr_I ha hb
theorem df_shl : DF X vol W (.BinOp a .LShift b pos) (two fa fb shlD) := df_op op_shl agr_I ha hb
theorem df_shr : DF X vol W (.BinOp a .RShift b pos) (two fa fb shrD) := df_op op_shr agr_I ha hb
theorem df_and : DF X vol W (.BinOp a .BitAnd b pos) (two fa fb andD) := df_op op_and agr_I0 ha hb
theorem df_or : DF X vol W (.BinOp a .BitOr b pos) (two fa fb orD) := df_op op_or agr_I0 ha hb
theorem df_xor : DF X vol W (.BinOp a .BitXor b pos) (two fa fb xorD) := df_op op_xor agr_I0 ha hb
omit ha hb

/-- + of ints, texts, lists -/
def addD : D → D → M Exn D
  | .int i, .int j => ret (.int (i + j))
  | .str x, .str y => if x.length + y.length ≤ sizeLine then ret (.str (x ++ y)) else stuck
  | .lst x, .lst y => if x.length + y.length ≤ sizeLine then ret (.lst (x ++ y)) else stuck
  | _, _ => stuck
theorem agr_add : Agr2 vol K (fun x y H Q => rI0 (fun i j => .int (i + j)) x y H Q ∨ (∃ i j, x = .str i ∧ y = .str j ∧ i.length + j.length ≤ sizeLine ∧ Q (.str (i ++ j)) H) ∨ rCat x y H Q) addD := fun F H x y v w Q e G rx ry h => by
  unfold addD at h
  split at h
  · exact .inl ⟨_, _, rx.int, ry.int, h _ F H G.ext rfl⟩
  · split at h
    · rename_i hc
      exact .inr (.inl ⟨_, _, rx.str, ry.str, hc, h _ F H G.ext rfl⟩)
    · exact h.elim
  · split at h
    · rename_i hc
      obtain ⟨z1, a, vs, rfl, ea, ra⟩ := rx.lst G
      obtain ⟨z2, b, ws, rfl, eb, rb⟩ := ry.lst G
      refine .inr (.inr ⟨a, b, vs, ws, rfl, rfl, ea, eb, by rw [ra.length, rb.length]; exact hc, fun p hp => ?_⟩)
      have x1 := G.new (o := .lst (vs ++ ws)) hp
      refine h _ _ _ x1 ⟨by rw [List.length_append]; exact hc, p, _, rfl, upd_same, RepL.up x1.sF _ _ (ra.append rb)⟩
    · exact h.elim
  · exact h.elim
include ha hb
theorem df_add : DF X vol W (.BinOp a .Add b pos) (two fa fb addD) := df_op (op_add.or (op_add_str.or op_cat)) agr_add ha hb
omit ha hb
/-- list * int -/
def repD : D → D → M Exn D
  | .lst x, .int k => if -(2 ^ 63) ≤ k ∧ k < 2 ^ 63 ∧ x.length * k.toNat ≤ sizeLine then ret (.lst (List.replicate k.toNat x).flatten) else stuck
  | _, _ => stuck
theorem RepL.rep {F : Hp} {ds : List D} {vs : List V} (r : RepL K F ds vs) : ∀ n : Nat, RepL K F (List.replicate n ds).flatten (List.replicate n vs).flatten
  | 0 => by simp; rfl
  | n + 1 => by rw [List.replicate_succ, List.replicate_succ, List.flatten_cons, List.flatten_cons]; exact r.append (RepL.rep r n)
include ha hb
theorem df_rep : DF X vol W (.BinOp a .Mult b pos) (two fa fb repD) := df_op op_rep (fun F H x y v w Q e G rx ry h => by
  unfold repD at h
  split at h
  · split at h
    · rename_i x k hc
      obtain ⟨z1, a, vs, rfl, ea, ra⟩ := rx.lst G
      refine ⟨a, k, vs, rfl, ry.int, ea, hc.1, hc.2.1, by rw [ra.length]; exact hc.2.2, fun p hp => ?_⟩
      have x1 := G.new (o := .lst (List.replicate k.toNat vs).flatten) hp
      refine h _ _ _ x1 ⟨?_, p, _, rfl, upd_same, RepL.up x1.sF _ _ (ra.rep _)⟩
      rw [List.length_flatten, List.map_replicate, List.sum_replicate_nat, Nat.mul_comm]; exact hc.2.2
    · exact h.elim
  · exact h.elim) ha hb
omit ha hb

/-! ### comparisons -/
def eqD (neg : Bool) : D → D → M Exn D := fun x y => match toP x, toP y with
  | some p, some q => if SeqAt.shaped p = true ∧ SeqAt.shaped q = true then ret (.bl (if neg then !PyData.eqv p q else PyData.eqv p q)) else stuck
  | _, _ => stuck
theorem agr_eq : Agr2 vol K (rEqD K) (eqD false) := fun F H x y v w Q e G rx ry h => by
  unfold eqD at h
  split at h
  · rename_i p q hp hq
    split at h
    · rename_i hc
      exact ⟨p, q, rx.dp G hp, ry.dp G hq, hc.1, hc.2, h _ F H G.ext rfl⟩
    · exact h.elim
  · exact h.elim
theorem agr_ne : Agr2 vol K (rNeD K) (eqD true) := fun F H x y v w Q e G rx ry h => by
  unfold eqD at h
  split at h
  · rename_i p q hp hq
    split at h
    · rename_i hc
      exact ⟨p, q, rx.dp G hp, ry.dp G hq, hc.1, hc.2, h _ F H G.ext rfl⟩
    · exact h.elim
  · exact h.elim
def isNonD (neg : Bool) : D → D → M Exn D := fun x y => match y with
  | .non => match x with
    | .non => ret (.bl !neg)
    | _ => ret (.bl neg)
  | _ => stuck
theorem RepB.ne_non {F H : Hp} {d : D} {v : V} (r : RepB vol K F H d v) (h : d ≠ .non) : v ≠ .non := by
  rintro rfl
  rcases r with r | ⟨p, e, _⟩
  · cases d with
    | non => exact h rfl
    | bl _ => cases r
    | int _ => cases r
    | str _ => cases r
    | lst _ => obtain ⟨_, _, _, e, _⟩ := r; cases e
    | tup _ => obtain ⟨_, _, _, e, _⟩ := r; cases e
    | dct _ => obtain ⟨_, _, _, e, _⟩ := r; cases e
    | obj _ _ => obtain ⟨_, _, _, e, _⟩ := r; cases e
    | fn _ => cases r
  · cases e
theorem agr_isN : Agr2 vol K (fun x y H Q => y = .non ∧ Q (.bl (decide (x = .non))) H) (isNonD false) := fun F H x y v w Q e G rx ry h => by
  unfold isNonD at h
  split at h
  · refine ⟨ry.non, ?_⟩
    split at h
    · rw [rx.non]; exact h _ F H G.ext rfl
    · rename_i hx
      rw [decide_eq_false (rx.ne_non hx)]; exact h _ F H G.ext rfl
  · exact h.elim
theorem agr_notN : Agr2 vol K (fun x y H Q => y = .non ∧ Q (.bl (!decide (x = .non))) H) (isNonD true) := fun F H x y v w Q e G rx ry h => by
  unfold isNonD at h
  split at h
  · refine ⟨ry.non, ?_⟩
    split at h
    · rw [rx.non]; exact h _ F H G.ext rfl
    · rename_i hx
      rw [decide_eq_false (rx.ne_non hx)]; exact h _ F H G.ext rfl
  · exact h.elim
/-- flat things -/
def flatD : D → Option V
  | .non => some .non
  | .bl b => some (.bl b)
  | .int i => some (.int i)
  | .str x => some (.str x)
  | _ => none
def flatsD : List D → Option (List V)
  | [] => some []
  | d :: ds => (flatD d).bind fun v => (flatsD ds).map fun vs => v :: vs
theorem Rep.flat {F : Hp} {d : D} {v w : V} (h : flatD d = some w) (r : Rep K F d v) : v = w ∧ flatV v = true := by
  cases d <;> first | (cases h; cases r; exact ⟨rfl, rfl⟩) | cases h
theorem RepB.flat {F H : Hp} {d : D} {v w : V} (h : flatD d = some w) (r : RepB vol K F H d v) : v = w ∧ flatV v = true := by
  rcases r with r | ⟨p, _, r⟩
  · exact Rep.flat h r
  · cases d <;> first | exact r.rep.elim | cases h
theorem RepL.flats {F : Hp} : ∀ {ds : List D} {vs ws : List V}, flatsD ds = some ws → RepL K F ds vs → vs = ws ∧ vs.all flatV = true
  | [], _, _, h, r => by cases h; cases r; exact ⟨rfl, rfl⟩
  | d :: ds, _, ws, h, r => by
    obtain ⟨v, r, rfl, a, b⟩ := r
    unfold flatsD at h
    cases q : flatD d with
    | none => rw [q] at h; cases h
    | some u =>
      rw [q] at h
      cases q' : flatsD ds with
      | none => rw [q'] at h; cases h
      | some us =>
        rw [q'] at h; cases h
        obtain ⟨e1, e2⟩ := Rep.flat q a
        obtain ⟨e3, e4⟩ := RepL.flats q' b
        exact ⟨by rw [e1, e3], by simp [e2, e4]⟩
/-- x in a list, a tuple of flat things -/
def inD (neg : Bool) : D → D → M Exn D := fun x y => match y with
  | .lst ds => match flatD x, flatsD ds with
    | some v, some vs => ret (.bl (if neg then !inV v vs else inV v vs))
    | _, _ => stuck
  | .tup ds => match flatD x, flatsD ds with
    | some v, some vs => ret (.bl (if neg then !inV v vs else inV v vs))
    | _, _ => stuck
  | _ => stuck
theorem agr_in (neg : Bool) : Agr2 vol K (rIn K neg) (inD neg) := fun F H x y v w Q e G rx ry h => by
  unfold inD at h
  split at h
  · rename_i ds
    split at h
    · rename_i u us h1 h2
      obtain ⟨z2, b, ws, rfl, eb, rb⟩ := ry.lst G
      obtain ⟨rfl, e1⟩ := rx.flat h1
      obtain ⟨rfl, e2⟩ := rb.flats h2
      exact ⟨b, _, rfl, .inl (SqL.of eb), e1, e2, h _ F H G.ext rfl⟩
    · exact h.elim
  · rename_i ds
    split at h
    · rename_i u us h1 h2
      obtain ⟨z2, b, ws, rfl, eb, rb⟩ := ry.tup G
      obtain ⟨rfl, e1⟩ := rx.flat h1
      obtain ⟨rfl, e2⟩ := rb.flats h2
      exact ⟨b, _, rfl, .inr eb, e1, e2, h _ F H G.ext rfl⟩
    · exact h.elim
  · exact h.elim
/-- one sign in a text -/
def inS (neg : Bool) : D → D → M Exn D := fun x y => match x, y with
  | .str x, .str y => ret (.bl (if neg then !(!(Builtin.Str.occurrences y x 0 y.length 1).isEmpty) else !(Builtin.Str.occurrences y x 0 y.length 1).isEmpty))
  | _, _ => stuck
theorem agr_inS : Agr2 vol K (fun x y H Q => ∃ i j, x = .str i ∧ y = .str j ∧ Q (.bl (!(Builtin.Str.occurrences j i 0 j.length 1).isEmpty)) H) (inS false) := fun F H x y v w Q e G rx ry h => by
  unfold inS at h
  split at h
  · exact ⟨_, _, rx.str, ry.str, h _ F H G.ext rfl⟩
  · exact h.elim
theorem agr_notInS : Agr2 vol K (fun x y H Q => ∃ i j, x = .str i ∧ y = .str j ∧ Q (.bl (!(!(Builtin.Str.occurrences j i 0 j.length 1).isEmpty))) H) (inS true) := fun F H x y v w Q e G rx ry h => by
  unfold inS at h
  split at h
  · exact ⟨_, _, rx.str, ry.str, h _ F H G.ext rfl⟩
  · exact h.elim
/-- a key in a dict -/
def keyD : D → Option Key
  | .int i => some (.inl i)
  | .str x => some (.inr x)
  | _ => none
theorem RepB.key {F H : Hp} {d : D} {v : V} {k : Key} (h : keyD d = some k) (r : RepB vol K F H d v) : v = kV k := by
  cases d <;> first | (cases h; first | exact r.int | exact r.str) | cases h
def inDct (neg : Bool) : D → D → M Exn D := fun x y => match keyD x, y with
  | some k, .dct kvs => ret (.bl (if neg then !(valD kvs k).isSome else (valD kvs k).isSome))
  | _, _ => stuck
theorem RepK.isSome_ {F : Hp} {kvs : List (Key × D)} {ws : List (Key × V)} (r : RepK K F kvs ws) (k : Key) : (valV ws k).isSome = (valD kvs k).isSome := by
  have h := r.val (k := k)
  cases e : valD kvs k with
  | none => rw [e] at h; rw [h]; rfl
  | some d => rw [e] at h; obtain ⟨v, h, _⟩ := h; rw [h]; rfl
include ha hb
theorem df_lt : DF X vol W (.Compare a [.Lt] [b] pos) (two fa fb ltD) := df_cmp op_lt agr_C ha hb (nomark _)
theorem df_le : DF X vol W (.Compare a [.LtE] [b] pos) (two fa fb leD) := df_cmp op_le agr_C ha hb (nomark _)
theorem df_gt : DF X vol W (.Compare a [.Gt] [b] pos) (two fa fb gtD) := df_cmp op_gt agr_C ha hb (nomark _)
theorem df_ge : DF X vol W (.Compare a [.GtE] [b] pos) (two fa fb geD) := df_cmp op_ge agr_C ha hb (nomark _)
theorem df_eq (hr : Room k X.A) : DF X vol W (.Compare a [.Eq] [b] pos) (two fa fb (eqD false)) := df_cmp (op_eqD hr.units) agr_eq ha hb (nomark _)
theorem df_ne (hr : Room k X.A) : DF X vol W (.Compare a [.NotEq] [b] pos) (two fa fb (eqD true)) := df_cmp (op_neD hr.units) agr_ne ha hb (nomark _)
theorem df_isN : DF X vol W (.Compare a [.Is] [b] pos) (two fa fb (isNonD false)) := df_cmp op_isN agr_isN ha hb (nomark _)
theorem df_notN : DF X vol W (.Compare a [.IsNot] [b] pos) (two fa fb (isNonD true)) := df_cmp op_notN agr_notN ha hb (nomark _)
theorem df_in (hm : behindInMarks .In b = false) : DF X vol W (.Compare a [.In] [b] pos) (two fa fb (inD false)) := df_cmp op_in_seq (agr_in false) ha hb hm
theorem df_notIn (hm : behindInMarks .NotIn b = false) : DF X vol W (.Compare a [.NotIn] [b] pos) (two fa fb (inD true)) := df_cmp op_notIn_seq (agr_in true) ha hb hm
theorem df_inS (hm : behindInMarks .In b = false) : DF X vol W (.Compare a [.In] [b] pos) (two fa fb (inS false)) := df_cmp op_in_str agr_inS ha hb hm
theorem df_notInS (hm : behindInMarks .NotIn b = false) : DF X vol W (.Compare a [.NotIn] [b] pos) (two fa fb (inS true)) := df_cmp op_notin_str agr_notInS ha hb hm
theorem dt_lt : DT X vol W (.Compare a [.Lt] [b] pos) (tst (two fa fb ltD)) := dt_cmp op_lt agr_C ha hb (nomark _)
theorem dt_le : DT X vol W (.Compare a [.LtE] [b] pos) (tst (two fa fb leD)) := dt_cmp op_le agr_C ha hb (nomark _)
theorem dt_gt : DT X vol W (.Compare a [.Gt] [b] pos) (tst (two fa fb gtD)) := dt_cmp op_gt agr_C ha hb (nomark _)
theorem dt_ge : DT X vol W (.Compare a [.GtE] [b] pos) (tst (two fa fb geD)) := dt_cmp op_ge agr_C ha hb (nomark _)
theorem dt_eq (hr : Room k X.A) : DT X vol W (.Compare a [.Eq] [b] pos) (tst (two fa fb (eqD false))) := dt_cmp (op_eqD hr.units) agr_eq ha hb (nomark _)
theorem dt_ne (hr : Room k X.A) : DT X vol W (.Compare a [.NotEq] [b] pos) (tst (two fa fb (eqD true))) := dt_cmp (op_neD hr.units) agr_ne ha hb (nomark _)
theorem dt_isN : DT X vol W (.Compare a [.Is] [b] pos) (tst (two fa fb (isNonD false))) := dt_cmp op_isN agr_isN ha hb (nomark _)
theorem dt_notN : DT X vol W (.Compare a [.IsNot] [b] pos) (tst (two fa fb (isNonD true))) := dt_cmp op_notN agr_notN ha hb (nomark _)
theorem dt_in (hm : behindInMarks .In b = false) : DT X vol W (.Compare a [.In] [b] pos) (tst (two fa fb (inD false))) := dt_cmp op_in_seq (agr_in false) ha hb hm
theorem dt_notIn (hm : behindInMarks .NotIn b = false) : DT X vol W (.Compare a [.NotIn] [b] pos) (tst (two fa fb (inD true))) := dt_cmp op_notIn_seq (agr_in true) ha hb hm
theorem dt_inS (hm : behindInMarks .In b = false) : DT X vol W (.Compare a [.In] [b] pos) (tst (two fa fb (inS false))) := dt_cmp op_in_str agr_inS ha hb hm
theorem dt_notInS (hm : behindInMarks .NotIn b = false) : DT X vol W (.Compare a [.NotIn] [b] pos) (tst (two fa fb (inS true))) := dt_cmp op_notin_str agr_notInS ha hb hm
omit ha hb
theorem dct_go {neg : Bool} {K : PySem.W.Frag} {σ : St} {H : Hp} {Q : VK} (h : tD VF vol K W (two fa fb (inDct neg)) σ H Q) : tD VB vol K W fa σ H fun y H1 => tD VB vol K W fb σ H1 fun x H2 => ∃ a o, x = .ref a ∧ DGet H2 a y o ∧ Q (.bl (if neg then !o.isSome else o.isSome)) H2 := by
  obtain ⟨F, ρ, G, E, q⟩ := h
  refine tD.goB G E q fun x q1 v F1 H1 x1 r1 => ?_
  refine tD.goB x1.g (E.ext x1) (MonoEX G x1 q1 fun _ z => z) fun y q2 w F2 H2 x2 r2 => ?_
  have x3 := x1.trans G x2
  replace q2 : (inDct neg x y).run (VF vol K F H Q) (EX vol W σ F H) := q2
  unfold inDct at q2
  split at q2
  · rename_i k kvs hk
    obtain ⟨z, a, ws, rfl, ea, ra⟩ := r2.dct x2.g
    rw [(r1.ext x2).key hk]
    refine ⟨a, _, rfl, DGet.k ea, ?_⟩
    rw [ra.isSome_]
    exact q2 _ F2 H2 x3 rfl
  · exact q2.elim
theorem df_inDct (hr : Room k X.A) (ha : DB X vol W a fa) (hb : DB X vol W b fb) (hm : behindInMarks .In b = false) : DF X vol W (.Compare a [.In] [b] pos) (two fa fb (inDct false)) :=
  ⟨(pe_cmp (pc_din (hu_of hr) ha.run hb.run) hm).conseq fun σ H Q h => dct_go h⟩
theorem df_notInDct (hr : Room k X.A) (ha : DB X vol W a fa) (hb : DB X vol W b fb) (hm : behindInMarks .NotIn b = false) : DF X vol W (.Compare a [.NotIn] [b] pos) (two fa fb (inDct true)) :=
  ⟨(pe_cmp (pc_dnotin (hu_of hr) ha.run hb.run) hm).conseq fun σ H Q h => dct_go h⟩
theorem dct_tst {neg : Bool} {K : PySem.W.Frag} {σ : St} {H : Hp} {Q : Bool → Hp → Prop} (h : tT vol K W (tst (two fa fb (inDct neg))) σ H Q) : tD VF vol K W (two fa fb (inDct neg)) σ H fun x H' => ∃ k, x = .bl k ∧ Q k H' := by
  obtain ⟨F, ρ, G, E, q⟩ := h
  exact ⟨F, ρ, G, E, (two fa fb (inDct neg) ρ).mono _ _ _ _ (fun d q1 v F1 H1 x1 r1 => by
    unfold asB at q1
    split at q1
    · cases r1; exact ⟨_, rfl, q1 F1 H1 x1⟩
    · exact q1.elim) (fun _ z => z) q⟩
theorem dt_inDct (hr : Room k X.A) (ha : DB X vol W a fa) (hb : DB X vol W b fb) (hm : behindInMarks .In b = false) : DT X vol W (.Compare a [.In] [b] pos) (tst (two fa fb (inDct false))) :=
  ⟨(pt_cmp (pc_din (hu_of hr) ha.run hb.run) hm).conseq fun σ H Q h => dct_go (dct_tst h)⟩
theorem dt_notInDct (hr : Room k X.A) (ha : DB X vol W a fa) (hb : DB X vol W b fb) (hm : behindInMarks .NotIn b = false) : DT X vol W (.Compare a [.NotIn] [b] pos) (tst (two fa fb (inDct true))) :=
  ⟨(pt_cmp (pc_dnotin (hu_of hr) ha.run hb.run) hm).conseq fun σ H Q h => dct_go (dct_tst h)⟩
/-- a chain of two comparisons -/
@[reducible] def chn (fa fb : EnvD → M Exn D) (g1 : D → D → M Exn D) (fc : EnvD → M Exn D) (g2 : D → D → M Exn D) : EnvD → M Exn D := fun ρ => bnd (fa ρ) fun x => bnd (fb ρ) fun y => bnd (bnd (g1 x y) asB) fun c => if c = true then bnd (fc ρ) fun z => g2 y z else ret (.bl false)
theorem chn_go {r r' : R2} {g1 g2 : D → D → M Exn D} (h1 : Agr2 vol K r g1) (h2 : Agr2 vol K r' g2) {σ : St} {H : Hp} {Q : VK} (h : tD VF vol K W (chn fa fb g1 fc g2) σ H Q) :
    tChain r r' (tD VB vol K W fa) (tD VB vol K W fb) (tD VB vol K W fc) σ H Q := by
  obtain ⟨F, ρ, G, E, q⟩ := h
  refine tD.goB G E q fun x q1 v F1 H1 x1 r1 => ?_
  refine tD.goB x1.g (E.ext x1) (MonoEX G x1 q1 fun _ z => z) fun y q2 w F2 H2 x2 r2 => ?_
  have x3 := x1.trans G x2
  refine h1 F2 H2 x y v w _ (EX vol W σ F H) x2.g (r1.ext x2) r2 ((g1 x y).mono _ _ _ _ (fun d q4 u F' H' x4 ru => ?_) (fun _ z => z) q2)
  cases d with
  | bl c =>
    cases ru
    refine ⟨c, rfl, ?_⟩
    cases c with
    | false => exact q4 _ F' H' (x3.trans G x4) rfl
    | true =>
      have x5 := x3.trans G x4
      refine tD.goB x5.g (E.ext x5) (MonoEX G x5 q4 fun _ z => z) fun z q6 u F6 H6 x6 r6 => ?_
      exact h2 F6 H6 y z w u Q (EX vol W σ F H) x6.g ((r2.ext x4).ext x6) r6 ((g2 y z).mono _ _ _ _ (fun d q7 u F' H' x7 ru => q7 u F' H' ((x5.trans G x6).trans G x7) ru) (fun _ z => z) q6)
  | _ => exact q4.elim
theorem df_chain {op op' : CmpOp} {r r' : R2} {g1 g2 : D → D → M Exn D} (ho : OpR X (compareOp op) r) (ho' : OpR X (compareOp op') r') (h1 : Agr2 vol X.K r g1) (h2 : Agr2 vol X.K r' g2) (ha : DB X vol W a fa) (hb : DB X vol W b fb) (hc : DB X vol W c fc) (hm : lastMarks [op, op'] [b, c] = false) :
    DF X vol W (.Compare a [op, op'] [b, c] pos) (chn fa fb g1 fc g2) := ⟨(pe_chain ho ho' ha.run hb.run hc.run hm).conseq fun σ H Q h => chn_go h1 h2 h⟩
theorem dt_chain {op op' : CmpOp} {r r' : R2} {g1 g2 : D → D → M Exn D} (ho : OpR X (compareOp op) r) (ho' : OpR X (compareOp op') r') (h1 : Agr2 vol X.K r g1) (h2 : Agr2 vol X.K r' g2) (ha : DB X vol W a fa) (hb : DB X vol W b fb) (hc : DB X vol W c fc) (hm : lastMarks [op, op'] [b, c] = false) :
    DT X vol W (.Compare a [op, op'] [b, c] pos) (tst (chn fa fb g1 fc g2)) := ⟨(pt_chain ho ho' ha.run hb.run hc.run hm).conseq fun σ H Q ⟨F, ρ, G, E, q⟩ => chn_go h1 h2 ⟨F, ρ, G, E, (chn fa fb g1 fc g2 ρ).mono _ _ _ _ (fun d q1 v F1 H1 x1 r1 => by
    unfold asB at q1
    split at q1
    · cases r1; exact ⟨_, rfl, q1 F1 H1 x1⟩
    · exact q1.elim) (fun _ z => z) q⟩⟩
theorem df_lele (ha : DB X vol W a fa) (hb : DB X vol W b fb) (hc : DB X vol W c fc) (hm : lastMarks [.LtE, .LtE] [b, c] = false := by with_unfolding_all rfl) : DF X vol W (.Compare a [.LtE, .LtE] [b, c] pos) (chn fa fb leD fc leD) := df_chain op_le op_le agr_C agr_C ha hb hc hm
theorem dt_lele (ha : DB X vol W a fa) (hb : DB X vol W b fb) (hc : DB X vol W c fc) (hm : lastMarks [.LtE, .LtE] [b, c] = false := by with_unfolding_all rfl) : DT X vol W (.Compare a [.LtE, .LtE] [b, c] pos) (tst (chn fa fb leD fc leD)) := dt_chain op_le op_le agr_C agr_C ha hb hc hm
end
end DL

namespace DL
open PySem PySem.Spec L2

section
variable {X : Cx} {vol : Vol} {W : WX} {e a b c : Expr} {es : List Expr} {f fa fb fc : EnvD → M Exn D} {fs : EnvD → M Exn (List D)} {pos : Pos} {k : Nat} {K : PySem.W.Frag}

/-! ### arguments -/
@[reducible] def consD (fa : EnvD → M Exn D) (fs : EnvD → M Exn (List D)) : EnvD → M Exn (List D) := fun ρ => bnd (fa ρ) fun x => bnd (fs ρ) fun xs => ret (x :: xs)
theorem ab_nil : AB X vol W [] (fun _ => ret []) := ⟨pa_nil.conseq fun σ H Q ⟨F, ρ, G, E, q⟩ => q [] F H G.ext rfl⟩
theorem af_nil : AF X vol W [] (fun _ => ret []) := ⟨pa_nil.conseq fun σ H Q ⟨F, ρ, G, E, q⟩ => q [] F H G.ext rfl⟩
theorem ab_cons (ha : DB X vol W a fa) (hs : AB X vol W es fs) (h : starEach (a :: es) X.env = (false, eval a X.env) :: starEach es X.env := by rfl) : AB X vol W (a :: es) (consD fa fs) :=
  ⟨(pa_cons ha.run hs.run h).conseq fun σ H Q ⟨F, ρ, G, E, q⟩ => tD.goB G E q fun x q1 v F1 H1 x1 r1 =>
    tAB.go x1.g (E.ext x1) (MonoEX G x1 q1 fun _ z => z) fun xs q2 vs F2 H2 x2 r2 => q2 _ F2 H2 (x1.trans G x2) ⟨v, vs, rfl, r1.ext x2, r2⟩⟩
theorem af_cons (ha : DF X vol W a fa) (hs : AF X vol W es fs) (h : starEach (a :: es) X.env = (false, eval a X.env) :: starEach es X.env := by rfl) : AF X vol W (a :: es) (consD fa fs) :=
  ⟨(pa_cons ha.run hs.run h).conseq fun σ H Q ⟨F, ρ, G, E, q⟩ => tD.go G E q fun x q1 v F1 H1 x1 r1 =>
    tAF.go x1.g (E.ext x1) (MonoEX G x1 q1 fun _ z => z) fun xs q2 vs F2 H2 x2 r2 => q2 _ F2 H2 (x1.trans G x2) ⟨v, vs, rfl, Rep.up x2.sF _ _ r1, r2⟩⟩
theorem AF.toB (h : AF X vol W es fs) : AB X vol W es fs := ⟨h.run.conseq fun σ H Q ⟨F, ρ, G, E, q⟩ => tAF.go G E q fun xs k vs F' H' x r => k vs F' H' x (RepBL.of r)⟩

/-! ### displays -/
theorem Ext.free {F H F' H' : Hp} {p : Addr} (x : Ext vol F H F' H') (n : H' p = none) : H p = none := by
  cases e : H p with
  | none => rfl
  | some o =>
    by_cases hz : vol.Z p
    · obtain ⟨u, h⟩ := vol.has _ x.g.vi p hz
      rw [n] at h; cases h
    · rw [x.sH p o e hz] at n; cases n
theorem Good.fF {F H : Hp} {p : Addr} (g : Good vol F H) (n : H p = none) : F p = none := by
  cases e : F p with
  | none => rfl
  | some o => rw [g.sub _ _ e] at n; cases n
theorem Good.fZ {F H : Hp} {p : Addr} (g : Good vol F H) (n : H p = none) : ¬ vol.Z p := fun hz => by
  obtain ⟨u, h⟩ := vol.has _ g.vi p hz
  rw [n] at h; cases h
def tupD (ds : List D) : M Exn D := if ds.length ≤ sizeLine then ret (.tup ds) else stuck
def lstD (ds : List D) : M Exn D := if ds.length ≤ sizeLine then ret (.lst ds) else stuck
theorem df_tup {j} (h : AF X vol W es fs) : DF X vol W (.Tuple es j pos) (fun ρ => bnd (fs ρ) tupD) :=
  ⟨(pe_tup h.run).conseq fun σ H Q ⟨F, ρ, G, E, q⟩ => tAF.go G E q fun ds q1 vs F1 H1 x1 r1 => by
    unfold tupD at q1
    split at q1
    · rename_i hz
      refine ⟨by rw [r1.length]; exact hz, fun p hp => ?_⟩
      have x2 := x1.g.new (o := .tup vs) hp
      exact q1 _ _ _ (x1.trans G x2) ⟨hz, p, vs, rfl, SqT.of upd_same, RepL.up x2.sF _ _ r1⟩
    · exact q1.elim⟩
theorem dn_lst (h : AF X vol W es fs) : DN X vol W (.List es pos) (fun ρ => bnd (fs ρ) lstD) :=
  ⟨(pe_lst h.run).conseq fun σ H Q ⟨F, ρ, G, E, q⟩ => tAF.go G E q fun ds q1 vs F1 H1 x1 r1 => by
    unfold lstD at q1
    split at q1
    · rename_i hz
      refine ⟨by rw [r1.length]; exact hz, fun p hp => ?_⟩
      have x2 := x1.g.own (o := .lst vs) hp
      exact q1 _ _ _ (x1.trans G x2) (x1.free hp) ⟨x1.g.fF hp, x1.g.fZ hp, hz, vs, upd_same, r1⟩
    · exact q1.elim⟩
theorem dn_dct : DN X vol W (.Dict [] [] pos) (fun _ => ret (.dct [])) :=
  ⟨pe_dnewK.conseq fun σ H Q ⟨F, ρ, G, E, q⟩ p hp => q p F _ (G.own (o := .dK []) hp) hp ⟨G.fF hp, G.fZ hp, Nat.zero_le _, [], upd_same, rfl⟩⟩

/-! ### built-in calls -/
def AgrL (vol : Vol) (K : PySem.W.Frag) (r : List V → Hp → VK → Prop) (g : List D → M Exn D) : Prop := ∀ (F H : Hp) (xs : List D) (vs : List V) (Q : VK) (e : Exn → Prop), Good vol F H → RepBL vol K F H xs vs → (g xs).run (VF vol K F H Q) e → r vs H Q
def AgrN (vol : Vol) (K : PySem.W.Frag) (r : List V → Hp → VK → Prop) (g : List D → M Exn D) : Prop := ∀ (F H : Hp) (xs : List D) (vs : List V) (Q : VK) (e : Exn → Prop), Good vol F H → RepBL vol K F H xs vs → (g xs).run (VN vol K F H Q) e → r vs H Q
@[reducible] def call (fs : EnvD → M Exn (List D)) (g : List D → M Exn D) : EnvD → M Exn D := fun ρ => bnd (fs ρ) g
theorem df_callB {x : Str} {p : Pos} {id : String} {r : List V → Hp → VK → Prop} {g : List D → M Exn D} (hc : CallR X (.builtin id) r) (hr : AgrL vol X.K r g) (hg : Gl X x) (hm : X.mg x = none) (hv : bootBuiltins x = some (.builtin id)) (ha : AB X vol W (e :: es) fs)
    (hn : x ≠ "__name__" := by decide) (hd : (x == ("__debug__" : Str)) = false := by decide) (hs : starEach (e :: es) X.env = (false, eval e X.env) :: starEach es X.env := by rfl) (hpl : (backTo pos (starEach es X.env)).any (·.1) = false := by rfl) : DF X vol W (.Call (.Name x p) (e :: es) [] pos) (call fs g) :=
  ⟨(pe_callB hc hg hm hv ha.run hn hd hs hpl).conseq fun σ H Q ⟨F, ρ, G, E, q⟩ => tAB.go G E q fun ds q1 vs F1 H1 x1 r1 =>
    hr F1 H1 ds vs Q (EX vol W σ F H) x1.g r1 ((g ds).mono _ _ _ _ (fun d z u F' H' x4 ru => z u F' H' (x1.trans G x4) ru) (fun _ z => z) q1)⟩
theorem df_callT {x : Str} {p : Pos} {id : String} {r : List V → Hp → VK → Prop} {g : List D → M Exn D} (hc : CallR X (.type id) r) (hr : AgrL vol X.K r g) (hg : Gl X x) (hm : X.mg x = none) (hv : bootBuiltins x = some (.type id)) (ha : AB X vol W (e :: es) fs)
    (hn : x ≠ "__name__" := by decide) (hd : (x == ("__debug__" : Str)) = false := by decide) (hs : starEach (e :: es) X.env = (false, eval e X.env) :: starEach es X.env := by rfl) (hpl : (backTo pos (starEach es X.env)).any (·.1) = false := by rfl) : DF X vol W (.Call (.Name x p) (e :: es) [] pos) (call fs g) :=
  ⟨(pe_callTy hc hg hm hv ha.run hn hd hs hpl).conseq fun σ H Q ⟨F, ρ, G, E, q⟩ => tAB.go G E q fun ds q1 vs F1 H1 x1 r1 =>
    hr F1 H1 ds vs Q (EX vol W σ F H) x1.g r1 ((g ds).mono _ _ _ _ (fun d z u F' H' x4 ru => z u F' H' (x1.trans G x4) ru) (fun _ z => z) q1)⟩
theorem dn_callT {x : Str} {p : Pos} {id : String} {r : List V → Hp → VK → Prop} {g : List D → M Exn D} (hc : CallR X (.type id) r) (hr : AgrN vol X.K r g) (hg : Gl X x) (hm : X.mg x = none) (hv : bootBuiltins x = some (.type id)) (ha : AB X vol W (e :: es) fs)
    (hn : x ≠ "__name__" := by decide) (hd : (x == ("__debug__" : Str)) = false := by decide) (hs : starEach (e :: es) X.env = (false, eval e X.env) :: starEach es X.env := by rfl) (hpl : (backTo pos (starEach es X.env)).any (·.1) = false := by rfl) : DN X vol W (.Call (.Name x p) (e :: es) [] pos) (call fs g) :=
  ⟨(pe_callTy hc hg hm hv ha.run hn hd hs hpl).conseq fun σ H Q ⟨F, ρ, G, E, q⟩ => tAB.go G E q fun ds q1 vs F1 H1 x1 r1 =>
    hr F1 H1 ds vs Q (EX vol W σ F H) x1.g r1 ((g ds).mono _ _ _ _ (fun d z p F' H' x4 n ru => z p F' H' (x1.trans G x4) (x1.free n) ru) (fun _ z => z) q1)⟩
theorem RepBL.one {F H : Hp} {d : D} {vs : List V} (r : RepBL vol K F H [d] vs) : ∃ v, vs = [v] ∧ RepB vol K F H d v := by
  obtain ⟨v, r, rfl, a, b⟩ := r
  cases b; exact ⟨v, rfl, a⟩
theorem RepBL.two {F H : Hp} {d d' : D} {vs : List V} (r : RepBL vol K F H [d, d'] vs) : ∃ v w, vs = [v, w] ∧ RepB vol K F H d v ∧ RepB vol K F H d' w := by
  obtain ⟨v, r, rfl, a, b⟩ := r
  obtain ⟨w, rfl, c⟩ := RepBL.one b
  exact ⟨v, w, rfl, a, c⟩
def lenD : List D → M Exn D
  | [.lst ds] => ret (.int ds.length)
  | [.tup ds] => ret (.int ds.length)
  | [.str x] => if x.length ≤ sizeLine then ret (.int x.length) else stuck
  | _ => stuck
theorem agr_len : AgrL vol K (fun xs H Q => (∃ p ys, xs = [.ref p] ∧ (SqL K H p ys ∨ SqT K H p ys) ∧ Q (.int ys.length) H) ∨ (∃ z, xs = [.str z] ∧ z.length ≤ sizeLine ∧ Q (.int z.length) H)) lenD := fun F H xs vs Q e G r h => by
  unfold lenD at h
  split at h
  · obtain ⟨v, rfl, r1⟩ := r.one
    obtain ⟨z, a, ws, rfl, ea, ra⟩ := r1.lst G
    refine .inl ⟨a, ws, rfl, .inl (SqL.of ea), ?_⟩
    rw [ra.length]; exact h _ F H G.ext rfl
  · obtain ⟨v, rfl, r1⟩ := r.one
    obtain ⟨z, a, ws, rfl, ea, ra⟩ := r1.tup G
    refine .inl ⟨a, ws, rfl, .inr ea, ?_⟩
    rw [ra.length]; exact h _ F H G.ext rfl
  · split at h
    · rename_i hz
      obtain ⟨v, rfl, r1⟩ := r.one
      exact .inr ⟨_, by rw [r1.str], hz, h _ F H G.ext rfl⟩
    · exact h.elim
  · exact h.elim
/-- the ints, the truths of a list -/
def intsOf : List D → Option (List Int)
  | [] => some []
  | .int i :: ds => (intsOf ds).map fun is => i :: is
  | _ => none
def blsOf : List D → Option (List Bool)
  | [] => some []
  | .bl i :: ds => (blsOf ds).map fun is => i :: is
  | _ => none
theorem intsOf_eq : ∀ {ds : List D} {is : List Int}, intsOf ds = some is → ds = is.map D.int
  | [], is, h => by cases h; rfl
  | d :: ds, is, h => by
    cases d <;> first | (simp [intsOf] at h; done) | skip
    rename_i i
    unfold intsOf at h
    cases q : intsOf ds with
    | none => rw [q] at h; cases h
    | some js => rw [q] at h; cases h; rw [intsOf_eq q]; rfl
theorem blsOf_eq : ∀ {ds : List D} {is : List Bool}, blsOf ds = some is → ds = is.map D.bl
  | [], is, h => by cases h; rfl
  | d :: ds, is, h => by
    cases d <;> first | (simp [blsOf] at h; done) | skip
    rename_i i
    unfold blsOf at h
    cases q : blsOf ds with
    | none => rw [q] at h; cases h
    | some js => rw [q] at h; cases h; rw [blsOf_eq q]; rfl
theorem intsOf_map (is : List Int) : intsOf (is.map D.int) = some is := by
  induction is with
  | nil => rfl
  | cons i is ih => simp [intsOf, ih]
theorem blsOf_map (is : List Bool) : blsOf (is.map D.bl) = some is := by
  induction is with
  | nil => rfl
  | cons i is ih => simp [blsOf, ih]
def foldBl (g : List Bool → Bool) : List D → M Exn D
  | [.lst ds] => match blsOf ds with
    | some bs => ret (.bl (g bs))
    | none => stuck
  | _ => stuck
def sumD : List D → M Exn D
  | [.lst ds] => match intsOf ds with
    | some is => ret (.int is.sum)
    | none => stuck
  | _ => stuck
theorem agr_fold {g : List Bool → Bool} : AgrL vol K (fun vs H Q => ∃ (a : Addr) (bs : List Bool), vs = [V.ref a] ∧ SqL K H a (bs.map V.bl) ∧ Q (.bl (g bs)) H) (foldBl g) := fun F H xs vs Q e G r h => by
  unfold foldBl at h
  split at h
  · split at h
    · rename_i bs q
      obtain ⟨v, rfl, r1⟩ := r.one
      obtain ⟨z, a, ws, rfl, ea, ra⟩ := r1.lst G
      rw [blsOf_eq q] at ra
      rw [ra.bls] at ea
      exact ⟨a, bs, rfl, SqL.of ea, h _ F H G.ext rfl⟩
    · exact h.elim
  · exact h.elim
theorem agr_sum : AgrL vol K (rSum K) sumD := fun F H xs vs Q e G r h => by
  unfold sumD at h
  split at h
  · split at h
    · rename_i bs q
      obtain ⟨v, rfl, r1⟩ := r.one
      obtain ⟨z, a, ws, rfl, ea, ra⟩ := r1.lst G
      rw [intsOf_eq q] at ra
      rw [ra.ints] at ea
      exact ⟨a, bs, rfl, SqL.of ea, h _ F H G.ext rfl⟩
    · exact h.elim
  · exact h.elim
@[reducible] def allD := foldBl fun bs => bs.all id
@[reducible] def anyD := foldBl fun bs => bs.any id
def listD : List D → M Exn D
  | [.lst ds] => ret (.lst ds)
  | [.tup ds] => ret (.lst ds)
  | _ => stuck
theorem agr_list : AgrN vol K (fun xs H Q => ∃ p ys, xs = [.ref p] ∧ (SqL K H p ys ∨ SqT K H p ys) ∧ ∀ l, H l = none → Q (.ref l) (upd H l (.lst ys))) listD := fun F H xs vs Q e G r h => by
  unfold listD at h
  split at h
  · obtain ⟨v, rfl, r1⟩ := r.one
    obtain ⟨z, a, ws, rfl, ea, ra⟩ := r1.lst G
    exact ⟨a, ws, rfl, .inl (SqL.of ea), fun p hp => h p F _ (G.own (o := .lst ws) hp) hp ⟨G.fF hp, G.fZ hp, z, ws, upd_same, ra⟩⟩
  · obtain ⟨v, rfl, r1⟩ := r.one
    obtain ⟨z, a, ws, rfl, ea, ra⟩ := r1.tup G
    exact ⟨a, ws, rfl, .inr ea, fun p hp => h p F _ (G.own (o := .lst ws) hp) hp ⟨G.fF hp, G.fZ hp, z, ws, upd_same, ra⟩⟩
  · exact h.elim
def tupleD : List D → M Exn D
  | [.lst ds] => ret (.tup ds)
  | [.tup ds] => ret (.tup ds)
  | _ => stuck
theorem agr_tuple : AgrL vol K (fun xs H Q => ∃ p ys, xs = [.ref p] ∧ ((SqL K H p ys ∧ ∀ l, H l = none → Q (.ref l) (upd H l (.tup ys))) ∨ (SqT K H p ys ∧ Q (.ref p) H))) tupleD := fun F H xs vs Q e G r h => by
  unfold tupleD at h
  split at h
  · obtain ⟨v, rfl, r1⟩ := r.one
    obtain ⟨z, a, ws, rfl, ea, ra⟩ := r1.lst G
    refine ⟨a, ws, rfl, .inl ⟨SqL.of ea, fun p hp => ?_⟩⟩
    have x2 := G.new (o := .tup ws) hp
    exact h _ _ _ x2 ⟨z, p, ws, rfl, SqT.of upd_same, RepL.up x2.sF _ _ ra⟩
  · rename_i ds
    obtain ⟨v, rfl, r1⟩ := r.one
    rcases r1 with r1 | ⟨p, _, r1⟩
    · obtain ⟨z, a, ws, rfl, ea, ra⟩ := id r1
      exact ⟨a, ws, rfl, .inr ⟨Same.seqT G.sub ea, h _ F H G.ext r1⟩⟩
    · exact r1.rep.elim
  · exact h.elim
section
variable (ha : AB X vol W [a] fs)
include ha
theorem df_len {p : Pos} (hg : Gl X "len") (hm : X.mg "len" = none) (hs : starEach [a] X.env = (false, eval a X.env) :: starEach [] X.env := by rfl) : DF X vol W (.Call (.Name "len" p) [a] [] pos) (call fs lenD) := df_callB (call_len_seq.or call_len_str) agr_len hg hm PySem.boot_len ha (hs := hs)
theorem df_all {p : Pos} (c : Ctx X W k) (hg : Gl X "all") (hm : X.mg "all" = none) (hs : starEach [a] X.env = (false, eval a X.env) :: starEach [] X.env := by rfl) : DF X vol W (.Call (.Name "all" p) [a] [] pos) (call fs allD) := df_callB (cr_all c.calm) agr_fold hg hm (by decide +kernel) ha (hs := hs)
theorem df_any {p : Pos} (c : Ctx X W k) (hg : Gl X "any") (hm : X.mg "any" = none) (hs : starEach [a] X.env = (false, eval a X.env) :: starEach [] X.env := by rfl) : DF X vol W (.Call (.Name "any" p) [a] [] pos) (call fs anyD) := df_callB (cr_any c.calm) agr_fold hg hm (by decide +kernel) ha (hs := hs)
theorem df_sum {p : Pos} (c : Ctx X W k) (hg : Gl X "sum") (hm : X.mg "sum" = none) (hs : starEach [a] X.env = (false, eval a X.env) :: starEach [] X.env := by rfl) : DF X vol W (.Call (.Name "sum" p) [a] [] pos) (call fs sumD) := df_callB (cr_sum c.calm) agr_sum hg hm (by decide +kernel) ha (hs := hs)
theorem dn_list {p : Pos} (hg : Gl X "list") (hm : X.mg "list" = none) (hs : starEach [a] X.env = (false, eval a X.env) :: starEach [] X.env := by rfl) : DN X vol W (.Call (.Name "list" p) [a] [] pos) (call fs listD) := dn_callT call_list_of agr_list hg hm (by decide +kernel) ha (hs := hs)
theorem df_tuple {p : Pos} (hg : Gl X "tuple") (hm : X.mg "tuple" = none) (hs : starEach [a] X.env = (false, eval a X.env) :: starEach [] X.env := by rfl) : DF X vol W (.Call (.Name "tuple" p) [a] [] pos) (call fs tupleD) := df_callT call_tuple_of agr_tuple hg hm (by decide +kernel) ha (hs := hs)
end

/-! ### items -/
def ixD : D → D → M Exn D
  | .lst ds, .int i => match atI ds i with
    | some d => ret d
    | none => stuck
  | .tup ds, .int i => match atI ds i with
    | some d => ret d
    | none => stuck
  | .str z, .int i => if z.length ≤ sizeLine then match atI z.cps.toList i with
      | some c => ret (.str ⟨#[c]⟩)
      | none => stuck
    else stuck
  | _, _ => stuck
theorem RepL.atI {F : Hp} {ds : List D} {vs : List V} {i : Int} {d : D} (r : RepL K F ds vs) (h : L2.atI ds i = some d) : ∃ v, L2.atI vs i = some v ∧ Rep K F d v := by
  unfold L2.atI at h ⊢
  rw [r.length]
  cases q : ixN ds.length i with
  | none => rw [q] at h; cases h
  | some j => rw [q] at h; exact r.get h
theorem agr_ix : Agr2 vol K (rIx K) ixD := fun F H x y v w Q e G rx ry h => by
  unfold ixD at h
  split at h
  · split at h
    · rename_i ds i d q
      obtain ⟨z1, a, vs, rfl, ea, ra⟩ := rx.lst G
      obtain ⟨v, e1, rv⟩ := ra.atI q
      exact .inl ⟨a, vs, _, v, rfl, ry.int, SqL.of ea, e1, h _ F H G.ext rv⟩
    · exact h.elim
  · split at h
    · rename_i ds i d q
      obtain ⟨z1, a, vs, rfl, ea, ra⟩ := rx.tup G
      obtain ⟨v, e1, rv⟩ := ra.atI q
      exact .inr (.inl ⟨a, vs, _, v, rfl, ry.int, ea, e1, h _ F H G.ext rv⟩)
    · exact h.elim
  · split at h
    · rename_i hz
      split at h
      · rename_i q
        exact .inr (.inr ⟨_, _, _, rx.str, ry.int, hz, q, h _ F H G.ext rfl⟩)
      · exact h.elim
    · exact h.elim
  · exact h.elim
theorem df_item (ha : DB X vol W a fa) (hb : DB X vol W b fb) (hs : PlainIx b) : DF X vol W (.Subscript a b pos) (two fa fb ixD) := df_ix ix_seq agr_ix ha hb hs
def dgetD : D → D → M Exn D := fun x y => match x, keyD y with
  | .dct kvs, some k => match valD kvs k with
    | some d => ret d
    | none => stuck
  | _, _ => stuck
theorem df_dget (hr : Room k X.A) (ha : DB X vol W a fa) (hb : DB X vol W b fb) (hs : NoSl b) : DF X vol W (.Subscript a b pos) (two fa fb dgetD) :=
  ⟨(pe_dget (hu_of hr) ha.run hb.run hs).conseq fun σ H Q ⟨F, ρ, G, E, q⟩ => tD.goB G E q fun x q1 v F1 H1 x1 r1 =>
    tD.goB x1.g (E.ext x1) (MonoEX G x1 q1 fun _ z => z) fun y q2 w F2 H2 x2 r2 => by
      have x3 := x1.trans G x2
      replace q2 : (dgetD x y).run (VF vol X.K F H Q) (EX vol W σ F H) := q2
      unfold dgetD at q2
      split at q2
      · rename_i kvs k hk
        obtain ⟨z, a, ws, rfl, ea, ra⟩ := (r1.ext x2).dct x2.g
        rw [r2.key hk]
        have hv := ra.val (k := k)
        cases e : valD kvs k with
        | none => rw [e] at q2; exact q2.elim
        | some d =>
          rw [e] at q2 hv
          obtain ⟨v, e1, rv⟩ := hv
          exact ⟨a, v, rfl, by rw [← e1]; exact DGet.k ea, q2 v F2 H2 x3 rv⟩
      · exact q2.elim⟩
end
end DL

namespace DL
open PySem PySem.Spec L2

/-! ### one volatile part within another -/
structure VLe (v v' : Vol) : Prop where
  good : ∀ F H, Good v' F H → Good v F H
  ext : ∀ F H F' H', Good v' F H → Ext v F H F' H' → Ext v' F H F' H'
theorem VLe.refl (v : Vol) : VLe v v := ⟨fun _ _ g => g, fun _ _ _ _ _ x => x⟩
theorem good0 {F H : Hp} (h : Same F H) : Good vol0 F H := ⟨h, fun _ h => h.elim, trivial⟩
theorem VLe.zero (v : Vol) : VLe vol0 v := ⟨fun F H g => good0 g.sub, fun F H F' H' g x => ⟨⟨x.g.sub, fun a hz => by
  obtain ⟨o, e⟩ := v.has H g.vi a hz
  exact x.nw a o e (g.nz a hz), v.up H H' (fun a o e => x.sH a o e fun h => h.elim) g.vi⟩, x.sF, fun a o e _ => x.sH a o e fun h => h.elim, x.nw⟩⟩

/-! ### what a def promises: m of its arguments -/
def EXd (vol : Vol) (E : XK) (F H : Hp) : Exn → Prop := fun x => ∀ dd F' H', Ext vol F H F' H' → XRep H' x dd → E (.ref x.cls) dd H'
def spD (vol : Vol) (K : PySem.W.Frag) (n : Nat) (m : List D → M Exn D) : Sp := fun vs H Q E =>
  ∃ F ds, ds.length = n ∧ Good vol F H ∧ RepL K F ds vs ∧ (m ds).run (VF vol K F H Q) (EXd vol E F H)
theorem spD.len {vol : Vol} {K : PySem.W.Frag} {n : Nat} {m : List D → M Exn D} : ∀ (vs : List V) (H : Hp) (Q : VK) (E : XK), spD vol K n m vs H Q E → vs.length = n := fun vs H Q E ⟨F, ds, hl, _, r, _⟩ => by rw [r.length, hl]

section
variable {X : Cx} {vol v : Vol} {W : WX} {e a b c o : Expr} {es : List Expr} {f fa fb fo : EnvD → M Exn D} {fs : EnvD → M Exn (List D)} {pos apos p : Pos} {k j n : Nat} {K : PySem.W.Frag}
variable {g C : Addr} {fd : FuncData} {ps : List Str} {m : List D → M Exn D} {x nm : Str}
/-- the callee's promise, from here -/
theorem call_go {E : XK} {σ : St} {F H F1 H1 : Hp} {Q : VK} {ds : List D} {vs : List V} (le : VLe v vol) (G : Good vol F H) (x1 : Ext vol F H F1 H1) (hE : ∀ c d H, W c d σ H → E c d H) (hl : ds.length = n) (r : RepL K F1 ds vs) (q : (m ds).run (VF vol K F H Q) (EX vol W σ F H)) : spD v K n m vs H1 Q E :=
  ⟨F1, ds, hl, le.good _ _ x1.g, r, (m ds).mono _ _ _ _ (fun d h u F' H' x2 ru => h u F' H' (x1.trans G (le.ext _ _ _ _ x1.g x2)) ru) (fun y h dd F' H' x2 xr => hE _ _ _ (h dd F' H' (x1.trans G (le.ext _ _ _ _ x1.g x2)) xr)) q⟩
/-- as many arguments as asked -/
@[reducible] def ofN (n : Nat) (m : List D → M Exn D) : List D → M Exn D := fun ds => if ds.length = n then m ds else stuck
theorem ofN_run {ds : List D} {kk : D → Prop} {ee : Exn → Prop} (h : (ofN n m ds).run kk ee) : ds.length = n ∧ (m ds).run kk ee := by
  by_cases hl : ds.length = n
  · rw [show ofN n m ds = m ds from if_pos hl] at h; exact ⟨hl, h⟩
  · rw [show ofN n m ds = stuck from if_neg hl] at h; exact h.elim
theorem df_call (F : FnOk X.prog X.w X.K X.mg X.base (L2N.CX X.prog X.w) k g fd ps (spD v X.K n m)) (le : VLe v vol) (cx : Ctx X W k) (hg : Gl X x) (hm : X.mg x = some (.ref g)) (hk : PySem.W.keepIn X.K (.ref g) = true) (hb : Binds X.K fd ps [])
    (ha : AF X vol W (e :: es) fs) (hd : (x == ("__debug__" : Str)) = false := by decide) (hs : starEach (e :: es) X.env = (false, eval e X.env) :: starEach es X.env := by rfl) (hpl : (backTo pos (starEach es X.env)).any (·.1) = false := by rfl) : DF X vol W (.Call (.Name x p) (e :: es) [] pos) (call fs (ofN n m)) :=
  ⟨(pe_callS F cx.room hg hm hk hb (fun σ => L2N.passAt cx.tk σ) ha.run hd hs hpl).conseq fun σ H Q ⟨F0, ρ, G, E, q⟩ => tAF.go G E q fun ds q1 vs F1 H1 x1 r1 => by
    obtain ⟨hl, q1⟩ := ofN_run q1
    exact call_go le G x1 (fun _ _ _ h => h) hl r1 q1⟩
/-- some arguments are owned here, the answer is flat -/
@[reducible] def flatM (m : M Exn D) : M Exn D := bnd m fun d => if (flatD d).isSome then ret d else stuck
theorem Rep.flat_any {F F' : Hp} {d : D} {v : V} (h : (flatD d).isSome = true) (r : Rep K F d v) : Rep K F' d v := by
  cases d <;> first | exact r | (simp [flatD] at h; done)
theorem df_callF (F : FnOk X.prog X.w X.K X.mg X.base (L2N.CX X.prog X.w) k g fd ps (spD vol0 X.K n m)) (cx : Ctx X W k) (hg : Gl X x) (hm : X.mg x = some (.ref g)) (hk : PySem.W.keepIn X.K (.ref g) = true) (hb : Binds X.K fd ps [])
    (ha : AB X vol W (e :: es) fs) (hd : (x == ("__debug__" : Str)) = false := by decide) (hs : starEach (e :: es) X.env = (false, eval e X.env) :: starEach es X.env := by rfl) (hpl : (backTo pos (starEach es X.env)).any (·.1) = false := by rfl) : DF X vol W (.Call (.Name x p) (e :: es) [] pos) (call fs fun ds => flatM (ofN n m ds)) :=
  ⟨(pe_callS F cx.room hg hm hk hb (fun σ => L2N.passAt cx.tk σ) ha.run hd hs hpl).conseq fun σ H Q ⟨F0, ρ, G, E, q⟩ => tAB.go G E q fun ds q1 vs F1 H1 x1 r1 => by
    replace q1 : (flatM (ofN n m ds)).run (VF vol X.K F0 H Q) (EX vol W σ F0 H) := q1
    by_cases hl : ds.length = n
    · have e1 : ofN n m ds = m ds := if_pos hl
      rw [e1] at q1
      have up : ∀ F' H', Ext vol0 (allF vol H1) H1 F' H' → Ext vol F1 H1 F1 H' := fun F' H' x2 =>
        have s : Same H1 H' := fun a o e => x2.sH a o e fun h => h.elim
        ⟨⟨x1.g.sub.trans s, x1.g.nz, vol.up _ _ s x1.g.vi⟩, Same.refl _, fun a o e _ => s a o e, fun _ _ _ n => n⟩
      refine ⟨allF vol H1, ds, hl, good0 allF_sub, RepBL.all x1.g r1, (m ds).mono _ _ _ _ (fun d h u F' H' x2 ru => ?_) (fun y h dd F' H' x2 xr => h dd F1 H' (x1.trans G (up _ _ x2)) xr) q1⟩
      replace h : (if (flatD d).isSome = true then ret d else stuck : M Exn D).run (VF vol X.K F0 H Q) (EX vol W σ F0 H) := h
      by_cases hf : (flatD d).isSome = true
      · rw [if_pos hf] at h
        exact h u F1 H' (x1.trans G (up _ _ x2)) (Rep.flat_any hf ru)
      · rw [if_neg hf] at h; exact h.elim
    · have e1 : ofN n m ds = stuck := if_neg hl
      rw [e1] at q1; exact q1.elim⟩
theorem df_call0 (F : FnOk X.prog X.w X.K X.mg X.base (L2N.CX X.prog X.w) k g fd ps (spD v X.K 0 m)) {E : XK} (le : VLe v vol) (cx : Ctx X (fun c d _ H => E c d H) k) (hg : Gl X x) (hm : X.mg x = some (.ref g)) (hk : PySem.W.keepIn X.K (.ref g) = true) (hb : Binds X.K fd ps [])
    (hd : (x == ("__debug__" : Str)) = false := by decide) : DF X vol (fun c d _ H => E c d H) (.Call (.Name x p) [] [] pos) (fun _ => m []) :=
  ⟨(pe_call0 F cx.room hg hm hk hb .nil (L2N.passes_call cx.tk fun _ _ _ _ h => h) hd).conseq fun σ H Q ⟨F0, ρ, G, E, q⟩ => call_go (ds := []) le G G.ext (fun _ _ _ h => h) rfl rfl q⟩

/-! ### fields, methods -/
def fldD (C : Addr) (nm : Str) : D → M Exn D
  | .obj C' fs => if C' = C then match fs.lookup nm with
      | some d => ret d
      | none => stuck
    else stuck
  | _ => stuck
theorem fld_go {F H : Hp} {d : D} {v : V} {Q : VK} {e : Exn → Prop} (cl : Cls K C) (na : NoAttr K C nm) (G : Good vol F H) (r : RepB vol K F H d v) (h : (fldD C nm d).run (VF vol K F H Q) e) : ∃ a C dx fs w, v = .ref a ∧ H a = some (.ins C dx fs) ∧ Cls K C ∧ NoAttr K C nm ∧ fs.lookup nm = some w ∧ Q w H := by
  unfold fldD at h
  split at h
  · rename_i C' fs
    split at h
    · rename_i hC
      subst hC
      obtain ⟨a, dx, ws, rfl, ea, ra⟩ := r.obj G
      split at h
      · rename_i d' q
        obtain ⟨w, ew, rw'⟩ := ra.lookup q
        exact ⟨a, _, dx, ws, w, rfl, ea, cl, na, ew, h w F H G.ext rw'⟩
      · exact h.elim
    · exact h.elim
  · exact h.elim
theorem df_fld (cl : Cls X.K C) (na : NoAttr X.K C nm) (ho : DB X vol W o fo) (hb : attributeBase o nm X.env (eval o X.env) = eval o X.env) : DF X vol W (.Attribute o nm pos) (one fo (fldD C nm)) :=
  ⟨(pe_fld ho.run hb).conseq fun σ H Q ⟨F, ρ, G, E, q⟩ => tD.goB G E q fun x q1 v F1 H1 x1 r1 =>
    fld_go (vol := vol) (e := EX vol W σ F H) cl na x1.g r1 ((fldD C nm x).mono _ _ _ _ (fun d z u F' H' x4 ru => z u F' H' (x1.trans G x4) ru) (fun _ z => z) q1)⟩
/-- o.m(..): o is an object of the class at C -/
def methD (C : Addr) (nm : Str) (fo : EnvD → M Exn D) (fs : EnvD → M Exn (List D)) (m : List D → M Exn D) : EnvD → M Exn D := fun ρ => bnd (fo ρ) fun d => match d with
  | .obj C' gs => if C' = C ∧ (gs.lookup nm).isNone = true then bnd (fs ρ) fun ds => m (.obj C' gs :: ds) else stuck
  | _ => stuck
def tMethS (C : Addr) (m : Str) (sp : Sp) (E : St → XK) (ta : TE) (t : TA) : TE := fun σ H Q => ta σ H fun x H1 => ∃ a dx fs, x = .ref a ∧ H1 a = some (.ins C dx fs) ∧ fs.lookup m = none ∧ t σ H1 fun vs H2 => sp (x :: vs) H2 Q (E σ)
theorem pe_methS {CX : CXT} {sp : Sp} {E : St → XK} {pl : Sem Bool} {ta : TE} {t : TA} (he : PE X o ta) (c : Cls X.K C) (hm : Meth X.K C nm g) (F : FnOk X.prog X.w X.K X.mg X.base CX k g fd ps sp) (hr : Room k X.A) (hb : Binds X.K fd ps []) (hx : ∀ σ, PassesAt CX X σ (E σ)) (ha : PA X (e :: es) t)
    (hst : starEach (e :: es) X.env = (false, eval e X.env) :: starEach es X.env) (hpl : (backTo pos (starEach es X.env)).any (·.1) = false)
    (ht : eval (.Call (.Attribute o nm apos) (e :: es) [] pos) X.env = (do
      let ov ← eval o X.env
      standAt apos.atName
      let (f, first) ← holding [ov] (getMethod ov nm pl)
      callWith pos f first (backTo pos (starEach (e :: es) X.env)) (backToKw pos (keywordEach [] X.env)))) :
    PE X (.Call (.Attribute o nm apos) (e :: es) [] pos) (tMethS C nm sp E ta t) := by
  refine ⟨fun pins s σ H Q I h => ?_⟩
  refine PySem.W.methodCall_KW (pl := pl) (thn (he.run pins s σ H _ I h) fun u s1 ⟨x, H1, I1, rx, a, dx, fs, ex, ea, l, q⟩ => ?_) ht
  subst ex
  obtain rfl : u = Value.ref a := rx
  refine getmeth_ok I1 ea c hm l ?_
  refine PySem.W.callWith_K (first := [.ref a]) (h₀ := X.base) I.ok.mod.kin hm.kp (thn (ha.run pos pins s1 σ H1 _ I1 q) fun us s2 ⟨vs, H2, I2, r, q2⟩ => ⟨I2.kIn, ?_⟩) hst hpl
  exact run_fnS (us := .ref a :: us) (vs := .ref a :: vs) F hr hb (hx σ) I2 (.cons rfl r) q2
theorem pe_meth0S {CX : CXT} {sp : Sp} {E : St → XK} {pl : Sem Bool} {ta : TE} (he : PE X o ta) (c : Cls X.K C) (hm : Meth X.K C nm g) (F : FnOk X.prog X.w X.K X.mg X.base CX k g fd ps sp) (hr : Room k X.A) (hb : Binds X.K fd ps []) (hx : ∀ σ, PassesAt CX X σ (E σ))
    (ht : eval (.Call (.Attribute o nm apos) [] [] pos) X.env = (do
      let ov ← eval o X.env
      standAt apos.atName
      let (f, first) ← holding [ov] (getMethod ov nm pl)
      callWith pos f first (backTo pos (starEach [] X.env)) (backToKw pos (keywordEach [] X.env)))) :
    PE X (.Call (.Attribute o nm apos) [] [] pos) (tMethS C nm sp E ta tNil) := by
  refine ⟨fun pins s σ H Q I h => ?_⟩
  refine PySem.W.methodCall_KW (pl := pl) (thn (he.run pins s σ H _ I h) fun u s1 ⟨x, H1, I1, rx, a, dx, fs, ex, ea, l, q⟩ => ?_) ht
  subst ex
  obtain rfl : u = Value.ref a := rx
  refine getmeth_ok I1 ea c hm l ?_
  exact PySem.W.callWith_K0 (first := [.ref a]) I1.kIn hm.kp (run_fnS (us := [.ref a]) (vs := [.ref a]) F hr hb (hx σ) I1 (.cons rfl .nil) q)
theorem df_meth {pl : Sem Bool} (F : FnOk X.prog X.w X.K X.mg X.base (L2N.CX X.prog X.w) k g fd ps (spD v X.K n m)) (le : VLe v vol) (cx : Ctx X W k) (cl : Cls X.K C) (hm : Meth X.K C nm g) (hb : Binds X.K fd ps []) (ho : DF X vol W o fo) (ha : AF X vol W (e :: es) fs)
    (hst : starEach (e :: es) X.env = (false, eval e X.env) :: starEach es X.env := by rfl) (hpl : (backTo pos (starEach es X.env)).any (·.1) = false := by rfl)
    (ht : eval (.Call (.Attribute o nm apos) (e :: es) [] pos) X.env = (do
      let ov ← eval o X.env
      standAt apos.atName
      let (f, first) ← holding [ov] (getMethod ov nm pl)
      callWith pos f first (backTo pos (starEach (e :: es) X.env)) (backToKw pos (keywordEach [] X.env))) := by rfl) :
    DF X vol W (.Call (.Attribute o nm apos) (e :: es) [] pos) (methD C nm fo fs (ofN n m)) :=
  ⟨(pe_methS ho.run cl hm F cx.room hb (fun σ => L2N.passAt cx.tk σ) ha.run hst hpl ht).conseq fun σ H Q ⟨F0, ρ, G, E, q⟩ => tD.go G E q fun d q1 v F1 H1 x1 r1 => by
    cases d with
    | obj C' gs =>
      simp only at q1
      split at q1
      · rename_i hC
        obtain ⟨rfl, hN⟩ := hC
        have rr := id r1
        obtain ⟨a, dx, ws, rfl, ea, ra⟩ := r1
        refine ⟨a, dx, ws, rfl, x1.g.sub _ _ ea, ra.none (Option.isNone_iff_eq_none.mp hN), ?_⟩
        refine tAF.go x1.g (E.ext x1) (MonoEX G x1 q1 fun _ z => z) fun ds q2 vs F2 H2 x2 r2 => ?_
        obtain ⟨hl, q2⟩ := ofN_run q2
        exact call_go le G (x1.trans G x2) (fun _ _ _ h => h) hl ⟨_, _, rfl, Rep.up x2.sF _ _ rr, r2⟩ q2
      · exact q1.elim
    | _ => exact q1.elim⟩
theorem df_meth0 {pl : Sem Bool} (F : FnOk X.prog X.w X.K X.mg X.base (L2N.CX X.prog X.w) k g fd ps (spD v X.K 1 m)) (le : VLe v vol) (cx : Ctx X W k) (cl : Cls X.K C) (hm : Meth X.K C nm g) (hb : Binds X.K fd ps []) (ho : DF X vol W o fo)
    (ht : eval (.Call (.Attribute o nm apos) [] [] pos) X.env = (do
      let ov ← eval o X.env
      standAt apos.atName
      let (f, first) ← holding [ov] (getMethod ov nm pl)
      callWith pos f first (backTo pos (starEach [] X.env)) (backToKw pos (keywordEach [] X.env))) := by rfl) :
    DF X vol W (.Call (.Attribute o nm apos) [] [] pos) (methD C nm fo (fun _ => ret []) m) :=
  ⟨(pe_meth0S ho.run cl hm F cx.room hb (fun σ => L2N.passAt cx.tk σ) ht).conseq fun σ H Q ⟨F0, ρ, G, E, q⟩ => tD.go G E q fun d q1 v F1 H1 x1 r1 => by
    cases d with
    | obj C' gs =>
      simp only at q1
      split at q1
      · rename_i hC
        obtain ⟨rfl, hN⟩ := hC
        have rr := id r1
        obtain ⟨a, dx, ws, rfl, ea, ra⟩ := r1
        refine ⟨a, dx, ws, rfl, x1.g.sub _ _ ea, ra.none (Option.isNone_iff_eq_none.mp hN), ?_⟩
        exact call_go (ds := [D.obj _ gs]) le G x1 (fun _ _ _ h => h) rfl ⟨_, _, rfl, rr, rfl⟩ q1
      · exact q1.elim
    | _ => exact q1.elim⟩

/-! ### a new object -/
/-- what an __init__ promises: it makes of the bare object at the first argument what m tells -/
def spI (K : PySem.W.Frag) (C : Addr) (n : Nat) (m : List D → M Exn D) : Sp := fun vs H Q E =>
  ∃ a dx F H₀ ds ws, vs = .ref a :: ws ∧ H a = some (.ins C dx []) ∧ H₀ a = none ∧ Same H₀ H ∧ ds.length = n ∧ Same F H₀ ∧ RepL K F ds ws ∧
    (m ds).run (fun d => ∀ F' H', Ext vol0 F H₀ F' H' → Rep K F' d (.ref a) → Q .non H') (EXd vol0 E F H₀)
theorem make_go {E : XK} {σ : St} {F H F1 H1 : Hp} {Q : VK} {ds : List D} {vs : List V} (G : Good vol F H) (x1 : Ext vol F H F1 H1) (hE : ∀ c d H, W c d σ H → E c d H) (hl : ds.length = n) (r : RepL K F1 ds vs) (q : (m ds).run (VF vol K F H Q) (EX vol W σ F H)) :
    ∀ a dx, H1 a = none → H1 dx = none → dx ≠ a → spI K C n m (.ref a :: vs) (upd (upd H1 dx (.own a)) a (.ins C dx [])) (fun v H2 => v = .non ∧ Q (.ref a) H2) E := fun a dx ha hdx hne =>
  ⟨a, dx, F1, H1, ds, vs, rfl, upd_same, ha, fun b o e => by rw [upd_ne (ne_of_none e ha), upd_ne (ne_of_none e hdx)]; exact e, hl, x1.g.sub, r,
    (m ds).mono _ _ _ _ (fun d h F' H' x2 ru => ⟨rfl, h _ F' H' (x1.trans G ((VLe.zero vol).ext _ _ _ _ x1.g x2)) ru⟩) (fun y h dd F' H' x2 xr => hE _ _ _ (h dd F' H' (x1.trans G ((VLe.zero vol).ext _ _ _ _ x1.g x2)) xr)) q⟩
theorem df_make {E : XK} (Mk' : Mk X.K C g) (F : FnOk X.prog X.w X.K X.mg X.base (L2N.CX X.prog X.w) j g fd ps (spI X.K C n m)) (cx : Ctx X (fun c d _ H => E c d H) k) (hj : j + 1 ≤ k) (hg : Gl X x) (hm : X.mg x = some (.ref C)) (hb : Binds X.K fd ps [])
    (ha : AF X vol (fun c d _ H => E c d H) (e :: es) fs) (hd : (x == ("__debug__" : Str)) = false := by decide) (hs : starEach (e :: es) X.env = (false, eval e X.env) :: starEach es X.env := by rfl) (hpl : (backTo pos (starEach es X.env)).any (·.1) = false := by rfl) : DF X vol (fun c d _ H => E c d H) (.Call (.Name x p) (e :: es) [] pos) (call fs (ofN n m)) :=
  ⟨(pe_make Mk' F (cx.room.mono hj) hg hm hb .nil (L2N.passes_call cx.tk fun _ _ _ _ h => h) ha.run hd hs hpl).conseq fun σ H Q ⟨F0, ρ, G, E, q⟩ => tAF.go G E q fun ds q1 vs F1 H1 x1 r1 => by
    obtain ⟨hl, q1⟩ := ofN_run q1
    rw [List.append_nil]
    exact make_go G x1 (fun _ _ _ h => h) hl r1 q1⟩
end
end DL

namespace DL
open PySem PySem.Spec L2

/-! ### what is walked -/
def Gives (vol : Vol) (K : PySem.W.Frag) (F H : Hp) (J : It) (i : Nat) (d : D) : Prop := J.go i H ∧ ∀ x H3, J.yld i H x H3 → ∃ F3, Ext vol F H F3 H3 ∧ Rep K F3 d x
def ItemsE (vol : Vol) (K : PySem.W.Frag) (F1 H1 : Hp) (J : It) (ds : List D) : Prop := ds.length ≤ sizeLine ∧ ∀ F2 H2, Ext vol F1 H1 F2 H2 → (∀ (i : Nat) (d : D), ds[i]? = some d → Gives vol K F2 H2 J i d) ∧ J.stop ds.length H2
def ItemsS (vol : Vol) (K : PySem.W.Frag) (F1 H1 : Hp) (J : It) (ds : List D) : Prop := ds.length ≤ sizeLine ∧ ∀ F2 H2, Same F1 F2 → Good vol F2 H2 → (∀ (i : Nat) (d : D), ds[i]? = some d → Gives vol K F2 H2 J i d) ∧ J.stop ds.length H2
theorem ItemsS.e {vol : Vol} {K : PySem.W.Frag} {F1 H1 : Hp} {J : It} {ds : List D} (h : ItemsS vol K F1 H1 J ds) : ItemsE vol K F1 H1 J ds := ⟨h.1, fun F2 H2 x => h.2 F2 H2 x.sF x.g⟩
def tI (P : Vol → PySem.W.Frag → Hp → Hp → It → List D → Prop) (vol : Vol) (K : PySem.W.Frag) (W : WX) (f : EnvD → M Exn (List D)) : TI := fun σ H R =>
  ∃ F ρ, Good vol F H ∧ ERep vol K F H σ ρ ∧ (f ρ).run (fun ds => ∀ J F' H', Ext vol F H F' H' → P vol K F' H' J ds → R J H') (EX vol W σ F H)
theorem _root_.L2.PI.conseq {X : Cx} {tg e : Expr} {t t' : TI} (h : PI X tg e t) (i : ∀ σ H R, t' σ H R → t σ H R) : PI X tg e t' := ⟨fun pins s σ H R I hw => h.run pins s σ H R I (i _ _ _ hw)⟩
theorem _root_.L2.PG.conseq {X : Cx} {tg : Expr} {t t' : TG} (h : PG X tg t) (i : ∀ v σ H Q, t' v σ H Q → t v σ H Q) : PG X tg t' := ⟨fun pins s σ H v u Q I r hw => h.run pins s σ H v u Q I r (i _ _ _ _ hw)⟩
theorem _root_.L2.PGs.conseq {X : Cx} {ts : List Expr} {t t' : TGs} (h : PGs X ts t) (i : ∀ v σ H Q, t' v σ H Q → t v σ H Q) : PGs X ts t' := ⟨fun pins s σ H v u Q I r hw => h.run pins s σ H v u Q I r (i _ _ _ _ hw)⟩
structure IE (X : Cx) (vol : Vol) (W : WX) (tg iter : Expr) (f : EnvD → M Exn (List D)) : Prop where
  run : PI X tg iter (tI ItemsE vol X.K W f)
structure IS (X : Cx) (vol : Vol) (W : WX) (tg iter : Expr) (f : EnvD → M Exn (List D)) : Prop where
  run : PI X tg iter (tI ItemsS vol X.K W f)
section
variable {X : Cx} {vol : Vol} {W : WX} {tg e a b c o : Expr} {es : List Expr} {f fa fb fo : EnvD → M Exn D} {fs : EnvD → M Exn (List D)} {pos apos p : Pos} {k n : Nat} {K : PySem.W.Frag}
theorem IS.toE (h : IS X vol W tg e fs) : IE X vol W tg e fs := ⟨h.run.conseq fun σ H R ⟨F, ρ, G, E, q⟩ => ⟨F, ρ, G, E, (fs ρ).mono _ _ _ _ (fun ds k J F' H' x i => k J F' H' x i.e) (fun _ x => x) q⟩⟩
def itemsL : D → M Exn (List D)
  | .lst ds => ret ds
  | .tup ds => ret ds
  | _ => stuck
theorem gives_list {F H : Hp} {a : Addr} {vs : List V} {ds : List D} (g : Good vol F H) (h : H a = some (.lst vs)) (r : RepL K F ds vs) : (∀ (i : Nat) (d : D), ds[i]? = some d → Gives vol K F H (Itl K a) i d) ∧ (Itl K a).stop ds.length H :=
  ⟨fun i d e => by
    obtain ⟨v, ev, rv⟩ := r.get e
    exact ⟨⟨vs, v, SqL.of h, ev⟩, fun x H3 ⟨e3, y⟩ => by
      subst e3
      have := y vs (SqL.of h)
      rw [ev] at this; cases this
      exact ⟨F, g.ext, rv⟩⟩, ⟨vs, SqL.of h, Nat.le_of_eq r.length⟩⟩
theorem gives_tup {F H : Hp} {a : Addr} {vs : List V} {ds : List D} (g : Good vol F H) (h : SqT K H a vs) (r : RepL K F ds vs) : (∀ (i : Nat) (d : D), ds[i]? = some d → Gives vol K F H (Itt K a) i d) ∧ (Itt K a).stop ds.length H :=
  ⟨fun i d e => by
    obtain ⟨v, ev, rv⟩ := r.get e
    exact ⟨⟨vs, v, h, ev⟩, fun x H3 ⟨e3, y⟩ => by
      subst e3
      have := y vs h
      rw [ev] at this; cases this
      exact ⟨F, g.ext, rv⟩⟩, ⟨vs, h, Nat.le_of_eq r.length⟩⟩
/-- a list or a tuple, walked -/
theorem pi_seq {l : Expr} {tl : TE} (hl : PE X l tl) : PI X tg l (fun σ H R => tl σ H fun x H1 => ∃ a, x = .ref a ∧ (((∃ xs, SqL X.K H1 a xs) ∧ R (Itl X.K a) H1) ∨ ((∃ xs, SqT X.K H1 a xs) ∧ R (Itt X.K a) H1))) := by
  refine ⟨fun pins s σ H R I h => ?_⟩
  refine thn (hl.run pins s σ H _ I h) fun v s1 ⟨x, H1, I1, r1, q1⟩ => ?_
  obtain ⟨a, e, q⟩ := q1
  subst e
  cases r1
  rcases q with ⟨⟨xs, hq⟩, q⟩ | ⟨⟨xs, hq⟩, q⟩
  · obtain ⟨its, rv, p, hz⟩ := I1.list hq
    refine wpAny_pyIter_list p.isList ?_
    refine ⟨s1.heap.objs.size, [s1.heap.objs.size], _, _, H1, rfl, I1.kept (t' := s1.toks) fun b o e => Heap.get?_push_of_some _ e, turn_list a _, ⟨_, Heap.get?_push_size _ rfl, rfl, rfl⟩, fun b hb => ?_, q⟩
    have e : b = s1.heap.objs.size := by simpa using hb
    subst e
    exact I1.fpOk (Nat.le_refl _) (I1.hok.fresh (Nat.le_refl _))
  · obtain ⟨its, rv, p, hz⟩ := I1.tuple hq
    refine wpAny_pyIter_tuple (show s1.heap.IsTuple a its.toArray from p) ?_
    refine ⟨s1.heap.objs.size, [s1.heap.objs.size], _, _, H1, rfl, I1.kept (t' := s1.toks) fun b o e => Heap.get?_push_of_some _ e, turn_tuple a _, ⟨_, Heap.get?_push_size _ rfl, rfl, rfl⟩, fun b hb => ?_, q⟩
    have e : b = s1.heap.objs.size := by simpa using hb
    subst e
    exact I1.fpOk (Nat.le_refl _) (I1.hok.fresh (Nat.le_refl _))
theorem is_seq (h : DF X vol W e f) : IS X vol W tg e (fun ρ => bnd (f ρ) itemsL) := ⟨(pi_seq h.run).conseq fun σ H R ⟨F, ρ, G, E, q⟩ => tD.go G E q fun d q1 v F1 H1 x1 r1 => by
  unfold itemsL at q1
  split at q1
  · obtain ⟨z, a, vs, rfl, ea, ra⟩ := r1
    refine ⟨a, rfl, .inl ⟨⟨vs, SqL.of (x1.g.sub _ _ ea)⟩, q1 _ F1 H1 x1 ⟨z, fun F2 H2 s g => ?_⟩⟩⟩
    exact gives_list g (g.sub _ _ (s _ _ ea)) (RepL.up s _ _ ra)
  · obtain ⟨z, a, vs, rfl, ea, ra⟩ := r1
    refine ⟨a, rfl, .inr ⟨⟨vs, Same.seqT x1.g.sub ea⟩, q1 _ F1 H1 x1 ⟨z, fun F2 H2 s g => ?_⟩⟩⟩
    exact gives_tup g (Same.seqT g.sub (Same.seqT s ea)) (RepL.up s _ _ ra)
  · exact q1.elim⟩
theorem ie_seq (h : DB X vol W e f) : IE X vol W tg e (fun ρ => bnd (f ρ) itemsL) := ⟨(pi_seq h.run).conseq fun σ H R ⟨F, ρ, G, E, q⟩ => tD.goB G E q fun d q1 v F1 H1 x1 r1 => by
  unfold itemsL at q1
  split at q1
  · rename_i ds
    have r0 := id r1
    obtain ⟨z, a, vs, rfl, ea, ra⟩ := r1.lst x1.g
    refine ⟨a, rfl, .inl ⟨⟨vs, SqL.of ea⟩, q1 _ F1 H1 x1 ⟨z, fun F2 H2 x2 => ?_⟩⟩⟩
    obtain ⟨z', a', vs', e', ea', ra'⟩ := (r0.ext x2).lst x2.g
    cases e'
    exact gives_list x2.g ea' ra'
  · obtain ⟨z, a, vs, rfl, ea, ra⟩ := r1.tup x1.g
    refine ⟨a, rfl, .inr ⟨⟨vs, ea⟩, q1 _ F1 H1 x1 ⟨z, fun F2 H2 x2 => ?_⟩⟩⟩
    rcases r1 with r1 | ⟨p, _, r1⟩
    · obtain ⟨_, a', vs', e', ea', ra'⟩ := r1
      cases e'
      exact gives_tup x2.g (Same.seqT x2.g.sub (Same.seqT x2.sF ea')) (RepL.up x2.sF _ _ ra')
    · exact r1.rep.elim
  · exact q1.elim⟩
def rangeD (lo : Int) (n : Nat) : M Exn (List D) := if n ≤ sizeLine then ret ((List.range n).map fun i => .int (lo + (i : Nat))) else stuck
theorem gives_range {F H : Hp} {lo : Int} {n : Nat} (g : Good vol F H) : (∀ (i : Nat) (d : D), ((List.range n).map fun i => D.int (lo + (i : Nat)))[i]? = some d → Gives vol K F H (Itr lo n) i d) ∧ (Itr lo n).stop ((List.range n).map fun i => D.int (lo + (i : Nat))).length H := by
  refine ⟨fun i d e => ?_, ?_⟩
  · rw [List.getElem?_map] at e
    by_cases hi : i < n
    · rw [List.getElem?_range hi] at e
      cases e
      exact ⟨hi, fun x H3 ⟨e3, ex⟩ => by subst e3; exact ⟨F, g.ext, ex⟩⟩
    · rw [List.getElem?_eq_none (by simpa using hi)] at e
      simp at e
  · show n ≤ _
    simp
def range1D : List D → M Exn (List D)
  | [.int j] => if -(2 ^ 62) ≤ j ∧ j < 2 ^ 62 then rangeD 0 j.toNat else stuck
  | _ => stuck
def range2D : List D → M Exn (List D)
  | [.int i, .int j] => if -(2 ^ 62) ≤ i ∧ i < 2 ^ 62 ∧ -(2 ^ 62) ≤ j ∧ j < 2 ^ 62 then rangeD i (j - i).toNat else stuck
  | _ => stuck
theorem is_range1 (hg : Gl X "range") (hm : X.mg "range" = none) (ha : AB X vol W [a] fs) (hs : starEach [a] X.env = [(false, eval a X.env)] := by rfl) : IS X vol W tg (.Call (.Name "range" p) [a] [] pos) (fun ρ => bnd (fs ρ) range1D) :=
  ⟨(pi_range1 hg hm ha.run hs).conseq fun σ H R ⟨F, ρ, G, E, q⟩ => tAB.go G E q fun ds q1 vs F1 H1 x1 r1 => by
    unfold range1D at q1
    split at q1
    · split at q1
      · rename_i hb
        unfold rangeD at q1
        split at q1
        · rename_i hz
          obtain ⟨v, rfl, r2⟩ := r1.one
          exact ⟨_, by rw [r2.int], hb.1, hb.2, q1 _ F1 H1 x1 ⟨by simpa using hz, fun F2 H2 s g => gives_range g⟩⟩
        · exact q1.elim
      · exact q1.elim
    · exact q1.elim⟩
theorem is_range2 (hg : Gl X "range") (hm : X.mg "range" = none) (ha : AB X vol W [a, b] fs) (hs : starEach [a, b] X.env = [(false, eval a X.env), (false, eval b X.env)] := by rfl) (hs2 : starEach [b] X.env = [(false, eval b X.env)] := by rfl) : IS X vol W tg (.Call (.Name "range" p) [a, b] [] pos) (fun ρ => bnd (fs ρ) range2D) :=
  ⟨(pi_range2 hg hm ha.run hs hs2).conseq fun σ H R ⟨F, ρ, G, E, q⟩ => tAB.go G E q fun ds q1 vs F1 H1 x1 r1 => by
    unfold range2D at q1
    split at q1
    · split at q1
      · rename_i hb
        unfold rangeD at q1
        split at q1
        · rename_i hz
          obtain ⟨v, w, rfl, r2, r3⟩ := r1.two
          exact ⟨_, _, by rw [r2.int, r3.int], hb, q1 _ F1 H1 x1 ⟨by simpa using hz, fun F2 H2 s g => gives_range g⟩⟩
        · exact q1.elim
      · exact q1.elim
    · exact q1.elim⟩
/-- enumerate of a list -/
def enumFrom (i : Nat) : List D → List D
  | [] => []
  | d :: ds => .tup [.int (i : Nat), d] :: enumFrom (i + 1) ds
theorem enumFrom_get : ∀ {ds : List D} {i j : Nat} {d : D}, (enumFrom j ds)[i]? = some d → ∃ d', ds[i]? = some d' ∧ d = .tup [.int ((j + i : Nat) : Int), d']
  | [], i, j, d, e => by simp [enumFrom] at e
  | d' :: ds, 0, j, d, e => by simp [enumFrom] at e; exact ⟨d', rfl, by simp [← e]⟩
  | d' :: ds, i + 1, j, d, e => by
    obtain ⟨d2, e1, e2⟩ := enumFrom_get (ds := ds) (i := i) (j := j + 1) (by simpa [enumFrom] using e)
    exact ⟨d2, by simpa using e1, by rw [e2, show j + 1 + i = j + (i + 1) by omega]⟩
theorem enumFrom_len : ∀ (ds : List D) (j : Nat), (enumFrom j ds).length = ds.length
  | [], _ => rfl
  | d :: ds, j => by simp [enumFrom, enumFrom_len ds]
def enumD : List D → M Exn (List D)
  | [.lst ds] => ret (enumFrom 0 ds)
  | _ => stuck
theorem gives_enum {F H : Hp} {a : Addr} {vs : List V} {ds : List D} (g : Good vol F H) (h : H a = some (.lst vs)) (r : RepL K F ds vs) : (∀ (i : Nat) (d : D), (enumFrom 0 ds)[i]? = some d → Gives vol K F H (Ite K a) i d) ∧ (Ite K a).stop (enumFrom 0 ds).length H :=
  ⟨fun i d e => by
    obtain ⟨d', e', rfl⟩ := enumFrom_get e
    obtain ⟨v, ev, rv⟩ := r.get e'
    refine ⟨⟨vs, v, SqL.of h, ev⟩, fun x H3 ⟨T, y, e1, hT, e3, hy⟩ => ?_⟩
    have := hy vs (SqL.of h)
    rw [ev] at this; cases this
    subst e1 e3
    have x2 := g.new (o := .tup [.int (i : Nat), v]) hT
    refine ⟨_, x2, by show 2 ≤ sizeLine; decide, T, _, rfl, SqT.of upd_same, _, _, rfl, ?_, _, _, rfl, Rep.up x2.sF _ _ rv, rfl⟩
    show V.int _ = V.int _
    rw [Nat.zero_add], by
    rw [enumFrom_len]
    exact ⟨vs, SqL.of h, Nat.le_of_eq r.length⟩⟩
theorem ie_enum {tpos : Pos} {elts : List Expr} {kk : Nat} (hg : Gl X "enumerate") (hm : X.mg "enumerate" = none) (ha : AB X vol W [e] fs) (hs : starEach [e] X.env = [(false, eval e X.env)] := by rfl) : IE X vol W (.Tuple elts kk tpos) (.Call (.Name "enumerate" p) [e] [] pos) (fun ρ => bnd (fs ρ) enumD) :=
  ⟨(pi_enum hg hm ha.run hs).conseq fun σ H R ⟨F, ρ, G, E, q⟩ => tAB.go G E q fun ds q1 vs F1 H1 x1 r1 => by
    unfold enumD at q1
    split at q1
    · obtain ⟨v, rfl, r2⟩ := r1.one
      have r0 := id r2
      obtain ⟨z, a, ws, rfl, ea, ra⟩ := r2.lst x1.g
      refine ⟨a, ws, rfl, SqL.of ea, q1 _ F1 H1 x1 ⟨by rw [enumFrom_len]; exact z, fun F2 H2 x2 => ?_⟩⟩
      obtain ⟨z', a', vs', e', ea', ra'⟩ := (r0.ext x2).lst x2.g
      cases e'
      exact gives_enum x2.g ea' ra'
    · exact q1.elim⟩
theorem is_enum {tpos : Pos} {elts : List Expr} {kk : Nat} (hg : Gl X "enumerate") (hm : X.mg "enumerate" = none) (ha : AF X vol W [e] fs) (hs : starEach [e] X.env = [(false, eval e X.env)] := by rfl) : IS X vol W (.Tuple elts kk tpos) (.Call (.Name "enumerate" p) [e] [] pos) (fun ρ => bnd (fs ρ) enumD) :=
  ⟨(pi_enum hg hm ha.run hs).conseq fun σ H R ⟨F, ρ, G, E, q⟩ => tAF.go G E q fun ds q1 vs F1 H1 x1 r1 => by
    unfold enumD at q1
    split at q1
    · obtain ⟨v, r, rfl, r2, r3⟩ := r1
      cases r3
      obtain ⟨z, a, ws, rfl, ea, ra⟩ := r2
      refine ⟨a, ws, rfl, SqL.of (x1.g.sub _ _ ea), q1 _ F1 H1 x1 ⟨by rw [enumFrom_len]; exact z, fun F2 H2 s g => ?_⟩⟩
      exact gives_enum g (g.sub _ _ (s _ _ ea)) (RepL.up s _ _ ra)
    · exact q1.elim⟩

/-! ### targets -/
def tG (vol : Vol) (K : PySem.W.Frag) (b : D → EnvD → Option EnvD) (sl : List Nat) : TG := fun v σ H Q =>
  ∃ F ρ d ρ', Good vol F H ∧ ERep vol K F H σ ρ ∧ Rep K F d v ∧ b d ρ = some ρ' ∧ ∀ σ', ERep vol K F H σ' ρ' → wipe σ' sl = wipe σ sl → Q σ' H
def tGs (vol : Vol) (K : PySem.W.Frag) (b : List D → EnvD → Option EnvD) (sl : List Nat) : TGs := fun vs σ H Q =>
  ∃ F ρ ds ρ', Good vol F H ∧ ERep vol K F H σ ρ ∧ RepL K F ds vs ∧ b ds ρ = some ρ' ∧ ∀ σ', ERep vol K F H σ' ρ' → wipe σ' sl = wipe σ sl → Q σ' H
structure DG (X : Cx) (vol : Vol) (tg : Expr) (b : D → EnvD → Option EnvD) (sl : List Nat) : Prop where
  run : PG X tg (tG vol X.K b sl)
structure DGs (X : Cx) (vol : Vol) (ts : List Expr) (b : List D → EnvD → Option EnvD) (sl : List Nat) : Prop where
  run : PGs X ts (tGs vol X.K b sl)
theorem wipe_get {σ : St} {j : Nat} : ∀ {sl : List Nat}, (wipe σ sl)[j]? = if j ∈ sl ∧ j < σ.length then some none else σ[j]?
  | [] => by simp [wipe]
  | i :: sl => by
    unfold wipe
    by_cases e : i = j
    · subst e
      by_cases h : i < σ.length
      · rw [List.getElem?_set_self (by rw [wipe_length]; exact h), if_pos ⟨List.mem_cons_self, h⟩]
      · rw [List.getElem?_eq_none (by rw [List.length_set, wipe_length]; omega), if_neg (fun z => h z.2), List.getElem?_eq_none (by omega)]
    · rw [List.getElem?_set_ne e, wipe_get (sl := sl)]
      have : (j ∈ i :: sl ∧ j < σ.length) ↔ (j ∈ sl ∧ j < σ.length) := by simp [List.mem_cons, Ne.symm e]
      simp only [this]
theorem wipe_set {σ : St} {i : Nat} {x : Option V} {sl : List Nat} (h : i ∈ sl) : wipe (σ.set i x) sl = wipe σ sl := by
  apply List.ext_getElem?
  intro j
  rw [wipe_get, wipe_get, List.length_set]
  by_cases e : i = j
  · subst e
    by_cases hl : i < σ.length
    · rw [if_pos ⟨h, hl⟩, if_pos ⟨h, hl⟩]
    · rw [if_neg (fun z => hl z.2), if_neg (fun z => hl z.2), List.getElem?_eq_none (by rw [List.length_set]; omega), List.getElem?_eq_none (by omega)]
  · rw [List.getElem?_set_ne e]
def setS (i : Nat) : D → EnvD → Option EnvD := fun d ρ => some (ρ.set i (some (.im d)))
theorem dg_name {x : Str} {i : Nat} {sl : List Nat} (h : PG X (.Name x pos) (gName i)) (hi : i ∈ sl) : DG X vol (.Name x pos) (setS i) sl :=
  ⟨h.conseq fun v σ H Q ⟨F, ρ, d, ρ', G, E, r, e, q⟩ => by
    cases e
    exact q _ (E.set i r) (wipe_set hi)⟩
def setNil : List D → EnvD → Option EnvD
  | [], ρ => some ρ
  | _, _ => none
def setCons (b : D → EnvD → Option EnvD) (bs : List D → EnvD → Option EnvD) : List D → EnvD → Option EnvD
  | d :: ds, ρ => (b d ρ).bind (bs ds)
  | [], _ => none
theorem dgs_nil {sl : List Nat} : DGs X vol [] setNil sl := ⟨pgs_nil.conseq fun vs σ H Q ⟨F, ρ, ds, ρ', G, E, r, e, q⟩ => by
  unfold setNil at e
  split at e
  · cases e; cases r; exact ⟨rfl, q _ E rfl⟩
  · cases e⟩
theorem dgs_cons {ts : List Expr} {b : D → EnvD → Option EnvD} {bs : List D → EnvD → Option EnvD} {sl : List Nat} (h : DG X vol tg b sl) (hs : DGs X vol ts bs sl) (hq : (assignEach (tg :: ts) X.env).map (·.2) = assign tg X.env :: (assignEach ts X.env).map (·.2) := by rfl) : DGs X vol (tg :: ts) (setCons b bs) sl :=
  ⟨(pgs_cons h.run hs.run hq).conseq fun vs σ H Q ⟨F, ρ, ds, ρ', G, E, r, e, q⟩ => by
    cases ds with
    | nil => cases e
    | cons d ds =>
      obtain ⟨v, r, rfl, a, b2⟩ := r
      replace e : (b d ρ).bind (bs ds) = some ρ' := e
      cases eb : b d ρ with
      | none => rw [eb] at e; cases e
      | some ρ1 =>
        rw [eb] at e
        exact ⟨v, r, rfl, F, ρ, d, ρ1, G, E, a, eb, fun σ1 E1 w1 => ⟨F, ρ1, ds, ρ', G, E1, b2, e, fun σ2 E2 w2 => q σ2 E2 (w2.trans w1)⟩⟩⟩
def setTup (bs : List D → EnvD → Option EnvD) : D → EnvD → Option EnvD
  | .tup ds, ρ => bs ds ρ
  | _, _ => none
theorem dgs_len : ∀ {ts : List Expr}, True := fun {_} => trivial
def setTupN (n : Nat) (bs : List D → EnvD → Option EnvD) : D → EnvD → Option EnvD
  | .tup ds, ρ => if ds.length = n then bs ds ρ else none
  | _, _ => none
theorem dg_tup {ts : List Expr} {j : Nat} {bs : List D → EnvD → Option EnvD} {sl : List Nat} {n : Nat} (hc : X.calm = true) (h : DGs X vol ts bs sl) (hn : (assignEach ts X.env).length = n := by rfl) (hst : (assignEach ts X.env).findIdx? (·.1) = none := by rfl) : DG X vol (.Tuple ts j pos) (setTupN n bs) sl :=
  ⟨(pg_tup hc h.run hn hst).conseq fun v σ H Q ⟨F, ρ, d, ρ', G, E, r, e, q⟩ => by
    unfold setTupN at e
    split at e
    · split at e
      · rename_i hl
        obtain ⟨z, a, vs, rfl, ea, ra⟩ := r
        exact ⟨a, vs, rfl, Same.seqT G.sub ea, by rw [ra.length]; exact hl, F, ρ, _, ρ', G, E, ra, e, q⟩
      · cases e
    · cases e⟩

/-! ### list comprehensions -/
@[reducible] def noX {α : Type} (m : M Exn α) : M Exn α := ⟨fun k _ => m.run k (fun _ => False), fun k k' e e' h _ x => m.mono _ _ _ _ h (fun _ z => z) x⟩
theorem noX_ret {α : Type} (a : α) : noX (ret a) = ret a := rfl
theorem noX_bnd {α β : Type} (m : M Exn α) (g : α → M Exn β) : noX (bnd m g) = bnd (noX m) fun a => noX (g a) := rfl
theorem noX_stuck {α : Type} : noX (stuck : M Exn α) = stuck := rfl
abbrev W0 : WX := fun _ _ _ _ => False
def lcGo (b : D → EnvD → Option EnvD) (ft : EnvD → M Exn Bool) (fe : EnvD → M Exn D) (ρ : EnvD) : List D → List D → M Exn (List D)
  | [], acc => ret acc
  | d :: ds, acc => match b d ρ with
    | none => stuck
    | some ρ' => bnd (noX (ft ρ')) fun c => if c = true then bnd (noX (fe ρ')) fun y => lcGo b ft fe ρ ds (acc ++ [y]) else lcGo b ft fe ρ ds acc
def wipeD (ρ : EnvD) : List Nat → EnvD
  | [] => ρ
  | v :: vs => (wipeD ρ vs).set v none
theorem ERep.wipe {F H : Hp} {σ : St} {ρ : EnvD} (r : ERep vol K F H σ ρ) : ∀ vs : List Nat, ERep vol K F H (L2.wipe σ vs) (wipeD ρ vs)
  | [] => r
  | v :: vs => (ERep.wipe r vs).unset v none
theorem wipe_wipe {σ : St} {vs : List Nat} : wipe (wipe σ vs) vs = wipe σ vs := by
  apply List.ext_getElem?
  intro j
  rw [wipe_get, wipe_get, wipe_length]
  split <;> rfl
structure DTs (X : Cx) (vol : Vol) (W : WX) (ifs : List Expr) (f : EnvD → M Exn Bool) : Prop where
  run : PTs X ifs (tT vol X.K W f)
theorem dts_nil : DTs X vol W [] (fun _ => ret true) := ⟨⟨fun pins s σ H Q I h => pts_nil.run pins s σ H Q I (by
  obtain ⟨F, ρ, G, E, q⟩ := h
  exact q F H G.ext)⟩⟩
theorem dts_one {f : EnvD → M Exn Bool} (h : DT X vol W c f) : DTs X vol W [c] f := ⟨pts_one h.run⟩
theorem lc_go {K : PySem.W.Frag} {F H F1 H1 : Hp} {σ : St} {ρ : EnvD} {J : It} {ds : List D} {b : D → EnvD → Option EnvD} {sl : List Nat} {ft : EnvD → M Exn Bool} {fe : EnvD → M Exn D} {Q : VK} (G : Good vol F H) (E : ERep vol K F H σ ρ) (x1 : Ext vol F H F1 H1) (I : ItemsE vol K F1 H1 J ds)
    (q : (bnd (lcGo b ft fe (wipeD ρ sl) ds []) fun ys => ret (.lst ys)).run (VN vol K F H Q) (EX vol W σ F H)) :
    ∀ Dn, H1 Dn = none → ∃ Wi : Nat → Nat → Hp → Prop, (∃ m, Wi 0 m (upd H1 Dn (.lst []))) ∧ ∀ i m H, Wi i m H →
      (J.stop i H ∧ Q (.ref Dn) H) ∨ (J.go i H ∧ ∃ Nx : Hp → Prop, (∀ H', Nx H' → ∃ m', m' < m ∧ Wi (i + 1) m' H') ∧ ∀ x H', J.yld i H x H' → tG vol K b sl x (wipe σ sl) H' fun σ2 H2 => wipe σ2 sl = wipe σ sl ∧ tT vol K W0 ft σ2 H2 fun b H3 =>
        if b = true then tD VF vol K W0 fe σ2 H3 fun y H4 => ∃ acc, H4 Dn = some (.lst acc) ∧ acc.length < sizeLine ∧ Nx (upd H4 Dn (.lst (acc ++ [y]))) else Nx H3) := by
  intro Dn hD
  refine ⟨fun i m H2 => m = ds.length - i ∧ i ≤ ds.length ∧ ∃ F2 acc, Ext vol F1 H1 F2 H2 ∧ OwnAt vol K F2 H2 Dn (.lst acc) ∧ acc.length ≤ i ∧ (bnd (lcGo b ft fe (wipeD ρ sl) (ds.drop i) acc) fun ys => ret (.lst ys)).run (VN vol K F H Q) (EX vol W σ F H), ?_, ?_⟩
  · exact ⟨ds.length, by simp, Nat.zero_le _, F1, [], x1.g.own hD, ⟨x1.g.fF hD, x1.g.fZ hD, Nat.zero_le _, [], upd_same, rfl⟩, Nat.zero_le _, q⟩
  · rintro i m H2 ⟨rfl, hi, F2, acc, x2, ow, hacc, q2⟩
    have it := I.2 F2 H2 x2
    by_cases hlt : i < ds.length
    · right
      have ed : ds[i]? = some ds[i] := List.getElem?_eq_getElem hlt
      obtain ⟨go, yl⟩ := it.1 i _ ed
      rw [List.drop_eq_getElem_cons hlt] at q2
      refine ⟨go, fun H' => i + 1 ≤ ds.length ∧ ∃ F2 acc, Ext vol F1 H1 F2 H' ∧ OwnAt vol K F2 H' Dn (.lst acc) ∧ acc.length ≤ i + 1 ∧ (bnd (lcGo b ft fe (wipeD ρ sl) (ds.drop (i + 1)) acc) fun ys => ret (.lst ys)).run (VN vol K F H Q) (EX vol W σ F H), fun H' h => ⟨ds.length - (i + 1), by omega, rfl, h.1, h.2⟩, fun x H3 y => ?_⟩
      obtain ⟨F3, x3, rx⟩ := yl x H3 y
      cases eb : b ds[i] (wipeD ρ sl) with
      | none =>
        have q3 : (bnd (match b ds[i] (wipeD ρ sl) with | none => stuck | some ρ' => bnd (noX (ft ρ')) fun c => if c = true then bnd (noX (fe ρ')) fun y => lcGo b ft fe (wipeD ρ sl) (ds.drop (i + 1)) (acc ++ [y]) else lcGo b ft fe (wipeD ρ sl) (ds.drop (i + 1)) acc) fun ys => ret (.lst ys) : M Exn D).run (VN vol K F H Q) (EX vol W σ F H) := q2
        rw [eb] at q3; exact q3.elim
      | some ρ' =>
        have q3 : (bnd (match b ds[i] (wipeD ρ sl) with | none => stuck | some ρ' => bnd (noX (ft ρ')) fun c => if c = true then bnd (noX (fe ρ')) fun y => lcGo b ft fe (wipeD ρ sl) (ds.drop (i + 1)) (acc ++ [y]) else lcGo b ft fe (wipeD ρ sl) (ds.drop (i + 1)) acc) fun ys => ret (.lst ys) : M Exn D).run (VN vol K F H Q) (EX vol W σ F H) := q2
        rw [eb] at q3
        have x13 := x2.trans x1.g x3
        have E3 : ERep vol K F3 H3 (wipe σ sl) (wipeD ρ sl) := ((E.ext x1).ext x13).wipe sl
        refine ⟨F3, _, _, ρ', x3.g, E3, rx, eb, fun σ' E' w' => ⟨w'.trans wipe_wipe, F3, ρ', x3.g, E', (ft ρ').mono _ _ _ _ (fun cnd q4 F4 H4 x4 => ?_) (fun _ z => z.elim) q3⟩⟩
        have x14 := x13.trans x1.g x4
        have ow4 : OwnAt vol K F4 H4 Dn (.lst acc) := (ow.ext x3).ext x4
        cases cnd with
        | false => exact ⟨by omega, F4, acc, x14, ow4, by omega, q4⟩
        | true =>
          refine ⟨F4, ρ', x4.g, E'.ext x4, (fe ρ').mono _ _ _ _ (fun d q5 v F5 H5 x5 r5 => ?_) (fun _ z => z.elim) q4⟩
          have x15 := x14.trans x1.g x5
          have ow5 := ow4.ext x5
          obtain ⟨zl, vs, hv, rv⟩ := ow5.rep
          have hlen : vs.length = acc.length := rv.length
          have hz := I.1
          refine ⟨vs, hv, by omega, by omega, F5, acc ++ [d], ?_, ?_, ?_, q5⟩
          · have nD : ∀ a o, H1 a = some o → a ≠ Dn := fun a o e => ne_of_none e hD
            exact ⟨⟨fun a o e => by
                have : a ≠ Dn := fun z => by rw [z, ow5.nF] at e; cases e
                rw [upd_ne this]; exact x15.g.sub _ _ e, x15.g.nz, vol.wr _ _ _ x15.g.vi ow5.nZ (by rw [hv]; trivial)⟩, x15.sF, fun a o e n => by rw [upd_ne (nD a o e)]; exact x15.sH a o e n, x15.nw⟩
          · exact ⟨ow5.nF, ow5.nZ, by rw [List.length_append, List.length_singleton]; omega, vs ++ [v], upd_same, rv.append ⟨v, [], rfl, r5, rfl⟩⟩
          · rw [List.length_append, List.length_singleton]; omega
    · have ei : i = ds.length := by omega
      subst ei
      rw [List.drop_length] at q2
      left
      exact ⟨it.2, q2 Dn F2 H2 (x1.trans G x2) (x1.free hD) ow⟩
@[reducible] def lcD (fs : EnvD → M Exn (List D)) (b : D → EnvD → Option EnvD) (sl : List Nat) (ft : EnvD → M Exn Bool) (fe : EnvD → M Exn D) : EnvD → M Exn D := fun ρ => bnd (fs ρ) fun ds => bnd (lcGo b ft fe (wipeD ρ sl) ds []) fun ys => ret (.lst ys)
theorem dn_lc {elt iter : Expr} {ifs : List Expr} {scope : Scope} {own : List (Str × Nat)} {b : D → EnvD → Option EnvD} {ft : EnvD → M Exn Bool} (cx : Ctx X W k) (hi : IE X vol W tg iter fs) (ok : blkC X.N X.env.scope scope own = true)
    (hg : ∀ (s : Shared) (H : Hp) (C : Addr) (cl : List (Str × Addr)) (fp : List Addr), Ctx (X.blk s H scope (compEnvC scope cl C X.env) fp) W0 k → DG (X.blk s H scope (compEnvC scope cl C X.env) fp) vol tg b (own.map (·.2)))
    (ht : ∀ (s : Shared) (H : Hp) (C : Addr) (cl : List (Str × Addr)) (fp : List Addr), Ctx (X.blk s H scope (compEnvC scope cl C X.env) fp) W0 k → DTs (X.blk s H scope (compEnvC scope cl C X.env) fp) vol W0 ifs ft)
    (he : ∀ (s : Shared) (H : Hp) (C : Addr) (cl : List (Str × Addr)) (fp : List Addr), Ctx (X.blk s H scope (compEnvC scope cl C X.env) fp) W0 k → DF (X.blk s H scope (compEnvC scope cl C X.env) fp) vol W0 elt f) (hs : ∀ x, foldedSetIterable iter X.env x = pure x := by intro _; rfl) :
    DN X vol W (.ListComp elt [⟨tg, iter, ifs, 0⟩] scope pos) (lcD fs b (own.map (·.2)) ft f) := by
  have cb : ∀ (s : Shared) (H : Hp) (C : Addr) (cl : List (Str × Addr)) (fp : List Addr), Ctx (X.blk s H scope (compEnvC scope cl C X.env) fp) W0 k := fun s H C cl fp => ⟨takes0N, PassesOwn.never, cx.calm, cx.nd, cx.room⟩
  refine ⟨(pe_lc (g := tG vol X.K b (own.map (·.2))) (tt := tT vol X.K W0 ft) (te := tD VF vol X.K W0 f) cx.calm cx.nd hi.run (blkOk_by ok) (fun s H C cl fp => (hg s H C cl fp (cb ..)).run) (fun s H C cl fp => (ht s H C cl fp (cb ..)).run) (fun s H C cl fp => (he s H C cl fp (cb ..)).run) hs).conseq fun σ H Q ⟨F, ρ, G, E, q⟩ => ?_⟩
  refine ⟨F, ρ, G, E, (fs ρ).mono _ _ _ _ (fun ds q1 J F1 H1 x1 I => ?_) (fun _ z => z) q⟩
  exact lc_go G E x1 I q1
end
end DL

namespace DL
open PySem PySem.Spec L2

/-! ### statements -/
structure SRep (vol : Vol) (K : PySem.W.Frag) (F0 H0 F H : Hp) (σ : St) (ρ : EnvD) : Prop where
  x : Ext vol F0 H0 F H
  r : ERep vol K F H σ ρ
  new : ∀ (i : Nat) (d : D), ρ[i]? = some (some (.own d)) → ∃ p, σ[i]? = some (some (.ref p)) ∧ H0 p = none
  inj : ∀ (i j : Nat) (d d' : D) (p : Addr), ρ[i]? = some (some (.own d)) → ρ[j]? = some (some (.own d')) → σ[i]? = some (some (.ref p)) → σ[j]? = some (some (.ref p)) → i = j
inductive Out where
  | nx (ρ : EnvD) | rt (d : D) | bk (ρ : EnvD) | ct (ρ : EnvD)
abbrev MS := M (Exn × EnvD) Out
/-- what is wanted of each way out -/
def OutP (vol : Vol) (K : PySem.W.Frag) (F0 H0 : Hp) (Dn : Ends) : Out → Prop
  | .nx ρ => ∀ σ F H, SRep vol K F0 H0 F H σ ρ → Dn.nx σ H
  | .rt d => ∀ v F H, Ext vol F0 H0 F H → Rep K F d v → Dn.rt v H
  | .bk ρ => ∀ σ F H, SRep vol K F0 H0 F H σ ρ → Dn.bk σ H
  | .ct ρ => ∀ σ F H, SRep vol K F0 H0 F H σ ρ → Dn.ct σ H
def XS (vol : Vol) (K : PySem.W.Frag) (W : WX) (F0 H0 : Hp) : Exn × EnvD → Prop := fun x => ∀ dd σ F H, SRep vol K F0 H0 F H σ x.2 → XRep H x.1 dd → W (.ref x.1.cls) dd σ H
def tS (vol : Vol) (K : PySem.W.Frag) (W : WX) (F0 H0 : Hp) (g : EnvD → MS) : TS := fun Dn σ H =>
  ∃ F ρ, SRep vol K F0 H0 F H σ ρ ∧ (g ρ).run (OutP vol K F0 H0 Dn) (XS vol K W F0 H0)
structure DS (X : Cx) (vol : Vol) (W : WX) (F0 H0 : Hp) (st : Stmt) (g : EnvD → MS) : Prop where
  run : PS X st (tS vol X.K W F0 H0 g)
structure DSs (X : Cx) (vol : Vol) (W : WX) (F0 H0 : Hp) (st : List Stmt) (g : EnvD → MS) : Prop where
  run : PSs X st (tS vol X.K W F0 H0 g)
@[reducible] def lft {α : Type} (ρ : EnvD) (m : M Exn α) : M (Exn × EnvD) α := mapE (fun x => (x, ρ)) m

section
variable {X : Cx} {vol : Vol} {W : WX} {F0 H0 : Hp} {tg e a b c o : Expr} {es : List Expr} {f fa fb fo fk fv : EnvD → M Exn D} {fs : EnvD → M Exn (List D)} {pos apos p : Pos} {k n : Nat} {K : PySem.W.Frag} {st : Stmt} {sts rest : List Stmt} {g h : EnvD → MS} {x : Str}
theorem SRep.good {F H : Hp} {σ : St} {ρ : EnvD} (s : SRep vol K F0 H0 F H σ ρ) : Good vol F H := s.x.g
theorem SRep.ext {F H F' H' : Hp} {σ : St} {ρ : EnvD} (g0 : Good vol F0 H0) (s : SRep vol K F0 H0 F H σ ρ) (y : Ext vol F H F' H') : SRep vol K F0 H0 F' H' σ ρ := ⟨s.x.trans g0 y, s.r.ext y, s.new, s.inj⟩
theorem SRep.set {F H : Hp} {σ : St} {ρ : EnvD} {d : D} {v : V} (s : SRep vol K F0 H0 F H σ ρ) (i : Nat) (h : Rep K F d v) : SRep vol K F0 H0 F H (σ.set i (some v)) (ρ.set i (some (.im d))) := by
  have old : ∀ (j : Nat) (d' : D), (ρ.set i (some (.im d)))[j]? = some (some (.own d')) → j ≠ i ∧ ρ[j]? = some (some (.own d')) := fun j d' e => by
    by_cases q : i = j
    · subst q
      by_cases hi : i < ρ.length
      · rw [List.getElem?_set_self hi] at e; cases e
      · rw [List.getElem?_eq_none (by simpa using hi)] at e; cases e
    · rw [List.getElem?_set_ne q] at e
      exact ⟨Ne.symm q, e⟩
  refine ⟨s.x, s.r.set i h, fun j d' e => ?_, fun j l d1 d2 p e1 e2 h1 h2 => ?_⟩
  · obtain ⟨q, e⟩ := old j d' e
    rw [List.getElem?_set_ne (Ne.symm q)]
    exact s.new j d' e
  · obtain ⟨q1, e1⟩ := old j d1 e1
    obtain ⟨q2, e2⟩ := old l d2 e2
    rw [List.getElem?_set_ne (Ne.symm q1)] at h1
    rw [List.getElem?_set_ne (Ne.symm q2)] at h2
    exact s.inj j l d1 d2 p e1 e2 h1 h2
theorem SRep.addr {F H : Hp} {σ : St} {ρ : EnvD} {i : Nat} {d : D} (s : SRep vol K F0 H0 F H σ ρ) (e : ρ[i]? = some (some (.own d))) : ∃ p, σ[i]? = some (some (.ref p)) ∧ OwnAt vol K F H p d ∧ H0 p = none := by
  obtain ⟨p, h1, h2⟩ := s.r.own i d e
  obtain ⟨p', h3, h4⟩ := s.new i d e
  rw [h1] at h3; cases h3
  exact ⟨p, h1, h2, h4⟩
/-- a new object of one's own, in slot i -/
theorem SRep.setOwn {F H F' H' : Hp} {σ : St} {ρ : EnvD} {d : D} {p : Addr} (g0 : Good vol F0 H0) (s : SRep vol K F0 H0 F H σ ρ) (i : Nat) (y : Ext vol F H F' H') (n : H p = none) (h : OwnAt vol K F' H' p d) : SRep vol K F0 H0 F' H' (σ.set i (some (.ref p))) (ρ.set i (some (.own d))) := by
  have s' := s.ext g0 y
  have n0 : H0 p = none := s.x.free n
  have ne : ∀ (j : Nat) (d' : D), ρ[j]? = some (some (.own d')) → σ[j]? ≠ some (some (.ref p)) := fun j d' e q => by
    obtain ⟨p', h1, h2, _⟩ := s.addr e
    rw [q] at h1; cases h1
    obtain ⟨o, ho⟩ := h2.rep.there
    rw [n] at ho; cases ho
  have get : ∀ (j : Nat) (c : Option SlotD), (ρ.set i (some (.own d)))[j]? = some c → (i = j ∧ i < ρ.length ∧ c = some (.own d)) ∨ (i ≠ j ∧ ρ[j]? = some c) := fun j c e => by
    by_cases q : i = j
    · subst q
      by_cases hi : i < ρ.length
      · rw [List.getElem?_set_self hi] at e; cases e; exact .inl ⟨rfl, hi, rfl⟩
      · rw [List.getElem?_eq_none (by simpa using hi)] at e; cases e
    · rw [List.getElem?_set_ne q] at e
      exact .inr ⟨q, e⟩
  have at_ : i < ρ.length → (σ.set i (some (V.ref p)))[i]? = some (some (.ref p)) := fun hi => List.getElem?_set_self (by rw [s.r.len]; exact hi)
  refine ⟨s'.x, ⟨by simp [s.r.len], fun j d' e => ?_, fun j d' e => ?_, fun j n e => ?_⟩, fun j d' e => ?_, fun j l d1 d2 q e1 e2 h1 h2 => ?_⟩
  · rcases get j _ e with ⟨_, _, q⟩ | ⟨q, e⟩
    · cases q
    · rw [List.getElem?_set_ne q]; exact s'.r.im j d' e
  · rcases get j _ e with ⟨rfl, hi, q⟩ | ⟨q, e⟩
    · cases q; exact ⟨p, at_ hi, h⟩
    · rw [List.getElem?_set_ne q]; exact s'.r.own j d' e
  · rcases get j _ e with ⟨_, _, q⟩ | ⟨q, e⟩
    · cases q
    · rw [List.getElem?_set_ne q]; exact s'.r.vz j _ e
  · rcases get j _ e with ⟨rfl, hi, q⟩ | ⟨q, e⟩
    · exact ⟨p, at_ hi, n0⟩
    · rw [List.getElem?_set_ne q]; exact s'.new j d' e
  · rcases get j _ e1 with ⟨rfl, hi, _⟩ | ⟨q1, e1⟩
    · rcases get l _ e2 with ⟨rfl, _, _⟩ | ⟨q2, e2⟩
      · rfl
      · rw [at_ hi] at h1; cases h1
        rw [List.getElem?_set_ne q2] at h2
        exact (ne l d2 e2 h2).elim
    · rcases get l _ e2 with ⟨rfl, hi, _⟩ | ⟨q2, e2⟩
      · rw [at_ hi] at h2; cases h2
        rw [List.getElem?_set_ne q1] at h1
        exact (ne j d1 e1 h1).elim
      · rw [List.getElem?_set_ne q1] at h1
        rw [List.getElem?_set_ne q2] at h2
        exact s.inj j l d1 d2 q e1 e2 h1 h2
/-- an object of one's own is written -/
theorem SRep.write {F H : Hp} {σ : St} {ρ : EnvD} {i : Nat} {d d' : D} {p : Addr} {o : HO} (s : SRep vol K F0 H0 F H σ ρ) (e : ρ[i]? = some (some (.own d))) (hp : σ[i]? = some (some (.ref p))) (h : OwnRep K F (upd H p o) p d') : SRep vol K F0 H0 F (upd H p o) σ (ρ.set i (some (.own d'))) := by
  obtain ⟨p', h1, h2, n0⟩ := s.addr e
  rw [hp] at h1; cases h1
  obtain ⟨ho', hho⟩ := h2.rep.there
  have own : OwnO (H p) := by
    have r := h2.rep
    cases d with
    | lst ds => obtain ⟨_, vs, q, _⟩ := r; rw [q]; trivial
    | dct ds => obtain ⟨_, vs, q, _⟩ := r; rw [q]; trivial
    | obj C fs => obtain ⟨_, _, vs, q, _⟩ := r; rw [q]; trivial
    | _ => exact r.elim
  have hi : i < ρ.length := (List.getElem?_eq_some_iff.mp e).1
  have get : ∀ (j : Nat) (c : Option SlotD), (ρ.set i (some (.own d')))[j]? = some c → (i = j ∧ c = some (.own d')) ∨ (i ≠ j ∧ ρ[j]? = some c) := fun j c e => by
    by_cases q : i = j
    · subst q
      rw [List.getElem?_set_self hi] at e; cases e; exact .inl ⟨rfl, rfl⟩
    · rw [List.getElem?_set_ne q] at e
      exact .inr ⟨q, e⟩
  have x : Ext vol F0 H0 F (upd H p o) := ⟨⟨fun a u q => by rw [upd_ne (fun z => by rw [z, h2.nF] at q; cases q)]; exact s.x.g.sub _ _ q, s.x.g.nz, vol.wr _ _ _ s.x.g.vi h2.nZ own⟩, s.x.sF, fun a u q z => by rw [upd_ne (fun y => by rw [y, n0] at q; cases q)]; exact s.x.sH a u q z, s.x.nw⟩
  refine ⟨x, ⟨by simp [s.r.len], fun j dj ej => ?_, fun j dj ej => ?_, fun j n ej => ?_⟩, fun j dj ej => ?_, fun j l d1 d2 q e1 e2 z1 z2 => ?_⟩
  · rcases get j _ ej with ⟨_, q⟩ | ⟨q, ej⟩
    · cases q
    · exact s.r.im j dj ej
  · rcases get j _ ej with ⟨rfl, q⟩ | ⟨q, ej⟩
    · cases q; exact ⟨p, hp, h2.nF, h2.nZ, h⟩
    · obtain ⟨pj, z1, z2⟩ := s.r.own j dj ej
      have npj : pj ≠ p := fun z => by
        subst z
        exact q (s.inj i j d dj pj e ej hp z1)
      exact ⟨pj, z1, z2.nF, z2.nZ, z2.rep.up (Same.refl _) fun o' q' => by rw [upd_ne npj]; exact q'⟩
  · rcases get j _ ej with ⟨_, q⟩ | ⟨q, ej⟩
    · cases q
    · exact s.r.vz j _ ej
  · rcases get j _ ej with ⟨rfl, q⟩ | ⟨q, ej⟩
    · exact ⟨p, hp, n0⟩
    · exact s.new j dj ej
  · rcases get j _ e1 with ⟨rfl, _⟩ | ⟨q1, e1⟩
    · rcases get l _ e2 with ⟨rfl, _⟩ | ⟨q2, e2⟩
      · rfl
      · exact s.inj i l d d2 q e e2 z1 z2
    · rcases get l _ e2 with ⟨rfl, _⟩ | ⟨q2, e2⟩
      · exact s.inj j i d1 d q e1 e z1 z2
      · exact s.inj j l d1 d2 q e1 e2 z1 z2
/-- .. is frozen -/
def frz (i : Nat) (ρ : EnvD) : EnvD := match ρ[i]? with
  | some (some (.own d)) => ρ.set i (some (.im d))
  | _ => ρ
theorem SRep.frz {F H : Hp} {σ : St} {ρ : EnvD} (s : SRep vol K F0 H0 F H σ ρ) (i : Nat) : ∃ F', SRep vol K F0 H0 F' H σ (DL.frz i ρ) := by
  unfold DL.frz
  split
  · rename_i d e
    obtain ⟨p, hp, h2, n0⟩ := s.addr e
    obtain ⟨o, ho⟩ := h2.rep.there
    have hi : i < ρ.length := (List.getElem?_eq_some_iff.mp e).1
    have sF : Same F (upd F p o) := fun a u q => by rw [upd_ne (ne_of_none q h2.nF)]; exact q
    have g' : Good vol (upd F p o) H := ⟨fun a u q => by
        by_cases z : a = p
        · subst z; rw [upd_same] at q; cases q; exact ho
        · rw [upd_ne z] at q; exact s.x.g.sub _ _ q, fun a hz => by rw [upd_ne (fun z => h2.nZ (by rw [← z]; exact hz))]; exact s.x.g.nz a hz, s.x.g.vi⟩
    have rp : Rep K (upd F p o) d (.ref p) := by
      have h := h2.rep
      cases d with
      | lst ds => obtain ⟨z, vs, q, r⟩ := h; rw [ho] at q; cases q; exact ⟨z, p, vs, rfl, upd_same, RepL.up sF _ _ r⟩
      | dct kvs => obtain ⟨z, vs, q, r⟩ := h; rw [ho] at q; cases q; exact ⟨z, p, vs, rfl, upd_same, RepK.up sF _ _ r⟩
      | obj C fs => obtain ⟨z, dx, vs, q, r⟩ := h; rw [ho] at q; cases q; exact ⟨p, dx, vs, rfl, upd_same, RepF.up sF _ _ r⟩
      | _ => exact h.elim
    have get : ∀ (j : Nat) (c : Option SlotD), (ρ.set i (some (.im d)))[j]? = some c → (i = j ∧ c = some (.im d)) ∨ (i ≠ j ∧ ρ[j]? = some c) := fun j c e => by
      by_cases q : i = j
      · subst q
        rw [List.getElem?_set_self hi] at e; cases e; exact .inl ⟨rfl, rfl⟩
      · rw [List.getElem?_set_ne q] at e
        exact .inr ⟨q, e⟩
    refine ⟨upd F p o, ⟨g', s.x.sF.trans sF, s.x.sH, fun q u e1 e2 => by rw [upd_ne (ne_of_none e1 n0)]; exact s.x.nw q u e1 e2⟩, ⟨by simp [s.r.len], fun j dj ej => ?_, fun j dj ej => ?_, fun j n ej => ?_⟩, fun j dj ej => ?_, fun j l d1 d2 q e1 e2 z1 z2 => ?_⟩
    · rcases get j _ ej with ⟨rfl, q⟩ | ⟨q, ej⟩
      · cases q; exact ⟨_, hp, rp⟩
      · obtain ⟨v, z1, z2⟩ := s.r.im j dj ej
        exact ⟨v, z1, Rep.up sF _ _ z2⟩
    · rcases get j _ ej with ⟨rfl, q⟩ | ⟨q, ej⟩
      · cases q
      · obtain ⟨pj, z1, z2⟩ := s.r.own j dj ej
        have npj : pj ≠ p := fun z => by
          subst z
          exact q (s.inj i j d dj pj e ej hp z1)
        exact ⟨pj, z1, by rw [upd_ne npj]; exact z2.nF, z2.nZ, z2.rep.up sF fun o q => q⟩
    · rcases get j _ ej with ⟨_, q⟩ | ⟨q, ej⟩
      · cases q
      · exact s.r.vz j _ ej
    · rcases get j _ ej with ⟨rfl, q⟩ | ⟨q, ej⟩
      · cases q
      · exact s.new j dj ej
    · rcases get j _ e1 with ⟨rfl, q'⟩ | ⟨q1, e1⟩
      · cases q'
      · rcases get l _ e2 with ⟨rfl, q'⟩ | ⟨q2, e2⟩
        · cases q'
        · exact s.inj j l d1 d2 q e1 e2 z1 z2
  · exact ⟨F, s⟩

/-! ### from an expression to a statement -/
theorem XS.of {F H : Hp} {σ : St} {ρ : EnvD} (g0 : Good vol F0 H0) (s : SRep vol K F0 H0 F H σ ρ) {y : Exn} (h : XS vol K W F0 H0 (y, ρ)) : EX vol W σ F H y := fun dd F' H' x r => h dd σ F' H' (s.ext g0 x) r
theorem go_f {F H : Hp} {σ : St} {ρ : EnvD} {Q : VK} {kk : D → Prop} (g0 : Good vol F0 H0) (s : SRep vol K F0 H0 F H σ ρ) (h : (lft ρ (f ρ)).run kk (XS vol K W F0 H0)) (hk : ∀ d, kk d → ∀ v F' H', Ext vol F H F' H' → SRep vol K F0 H0 F' H' σ ρ → Rep K F' d v → Q v H') : tD VF vol K W f σ H Q :=
  ⟨F, ρ, s.good, s.r, (f ρ).mono _ _ _ _ (fun d q v F' H' x r => hk d q v F' H' x (s.ext g0 x) r) (fun y q => XS.of g0 s q) h⟩
theorem go_b {F H : Hp} {σ : St} {ρ : EnvD} {Q : VK} {kk : D → Prop} (g0 : Good vol F0 H0) (s : SRep vol K F0 H0 F H σ ρ) (h : (lft ρ (f ρ)).run kk (XS vol K W F0 H0)) (hk : ∀ d, kk d → ∀ v F' H', Ext vol F H F' H' → SRep vol K F0 H0 F' H' σ ρ → RepB vol K F' H' d v → Q v H') : tD VB vol K W f σ H Q :=
  ⟨F, ρ, s.good, s.r, (f ρ).mono _ _ _ _ (fun d q v F' H' x r => hk d q v F' H' x (s.ext g0 x) r) (fun y q => XS.of g0 s q) h⟩
theorem go_n {F H : Hp} {σ : St} {ρ : EnvD} {Q : VK} {kk : D → Prop} (g0 : Good vol F0 H0) (s : SRep vol K F0 H0 F H σ ρ) (h : (lft ρ (f ρ)).run kk (XS vol K W F0 H0)) (hk : ∀ d, kk d → ∀ p F' H', Ext vol F H F' H' → H p = none → OwnAt vol K F' H' p d → Q (.ref p) H') : tD VN vol K W f σ H Q :=
  ⟨F, ρ, s.good, s.r, (f ρ).mono _ _ _ _ (fun d q p F' H' x n r => hk d q p F' H' x n r) (fun y q => XS.of g0 s q) h⟩
theorem go_t {F H : Hp} {σ : St} {ρ : EnvD} {f : EnvD → M Exn Bool} {Q : Bool → Hp → Prop} {kk : Bool → Prop} (g0 : Good vol F0 H0) (s : SRep vol K F0 H0 F H σ ρ) (h : (lft ρ (f ρ)).run kk (XS vol K W F0 H0)) (hk : ∀ d, kk d → ∀ F' H', Ext vol F H F' H' → SRep vol K F0 H0 F' H' σ ρ → Q d H') : tT vol K W f σ H Q :=
  ⟨F, ρ, s.good, s.r, (f ρ).mono _ _ _ _ (fun d q F' H' x => hk d q F' H' x (s.ext g0 x)) (fun y q => XS.of g0 s q) h⟩

/-! ### the statements -/
@[reducible] def seqS (g h : EnvD → MS) : EnvD → MS := fun ρ => bnd (g ρ) fun o => match o with
  | .nx ρ' => h ρ'
  | o => ret o
theorem dss_nil : DSs X vol W F0 H0 [] (fun ρ => ret (.nx ρ)) := ⟨pss_nil.conseq fun Dn σ H ⟨F, ρ, s, q⟩ => q σ F H s⟩
theorem dss_cons (h1 : DS X vol W F0 H0 st g) (h2 : DSs X vol W F0 H0 rest h) : DSs X vol W F0 H0 (st :: rest) (seqS g h) :=
  ⟨(pss_cons h1.run h2.run).conseq fun Dn σ H ⟨F, ρ, s, q⟩ => ⟨F, ρ, s, (g ρ).mono _ _ _ _ (fun o q1 => by
    cases o with
    | nx ρ' => exact fun σ' F' H' s' => ⟨F', ρ', s', q1⟩
    | rt d => exact q1
    | bk ρ' => exact q1
    | ct ρ' => exact q1) (fun _ z => z) q⟩⟩
theorem dss_one (h1 : DS X vol W F0 H0 st g) : DSs X vol W F0 H0 [st] g := ⟨pss_one h1.run⟩
theorem dss_frz (i : Nat) (h1 : DSs X vol W F0 H0 sts g) : DSs X vol W F0 H0 sts (fun ρ => g (frz i ρ)) := ⟨h1.run.conseq fun Dn σ H ⟨F, ρ, s, q⟩ => by
  obtain ⟨F', s'⟩ := s.frz i
  exact ⟨F', _, s', q⟩⟩
theorem ds_doc {x : Str} {j} {pos' : Pos} : DS X vol W F0 H0 (.Expr (.Constant (.str x) j pos) pos') (fun ρ => ret (.nx ρ)) := ⟨ps_doc.conseq fun Dn σ H ⟨F, ρ, s, q⟩ => q σ F H s⟩
theorem ds_pass : DS X vol W F0 H0 (.Pass pos) (fun ρ => ret (.nx ρ)) := ⟨ps_pass.conseq fun Dn σ H ⟨F, ρ, s, q⟩ => q σ F H s⟩
theorem ds_break : DS X vol W F0 H0 (.Break pos) (fun ρ => ret (.bk ρ)) := ⟨ps_break.conseq fun Dn σ H ⟨F, ρ, s, q⟩ => q σ F H s⟩
theorem ds_cont : DS X vol W F0 H0 (.Continue pos) (fun ρ => ret (.ct ρ)) := ⟨ps_continue.conseq fun Dn σ H ⟨F, ρ, s, q⟩ => q σ F H s⟩
theorem ds_expr (g0 : Good vol F0 H0) (he : DB X vol W e f) (hs : swapsWith e none pos.line X.env = pure false := by rfl) : DS X vol W F0 H0 (.Expr e pos) (fun ρ => bnd (lft ρ (f ρ)) fun _ => ret (.nx ρ)) :=
  ⟨(ps_expr he.run hs).conseq fun Dn σ H ⟨F, ρ, s, q⟩ => go_b g0 s q fun d q1 v F' H' x s' r => q1 σ F' H' s'⟩
theorem ds_ret (g0 : Good vol F0 H0) (he : DF X vol W e f) : DS X vol W F0 H0 (.Return (some e) pos) (fun ρ => bnd (lft ρ (f ρ)) fun d => ret (.rt d)) :=
  ⟨(ps_ret he.run).conseq fun Dn σ H ⟨F, ρ, s, q⟩ => go_f g0 s q fun d q1 v F' H' x s' r => q1 v F' H' s'.x r⟩
theorem ds_retN : DS X vol W F0 H0 (.Return none pos) (fun ρ => ret (.rt .non)) :=
  ⟨ps_retN.conseq fun Dn σ H ⟨F, ρ, s, q⟩ => q .non F H s.x rfl⟩
/-- name = e -/
theorem ds_set {pos' : Pos} (i : Nat) (g0 : Good vol F0 H0) (cx : Ctx X W k) (hi : X.N[i]? = some x) (hx : Loc X.env.scope x) (he : DF X vol W e f) (hs : swapsWith e (some (.Name x pos')) pos.line X.env = pure false := by rfl) (hf : X.fn x = true ∨ X.env.scope.names.lookup x = some .local := by first | exact .inl rfl | exact .inr rfl) :
    DS X vol W F0 H0 (.Assign [.Name x pos'] e pos) (fun ρ => bnd (lft ρ (f ρ)) fun d => ret (.nx (ρ.set i (some (.im d))))) :=
  ⟨(ps_set cx.nd hi hx he.run hs hf).conseq fun Dn σ H ⟨F, ρ, s, q⟩ => go_f g0 s q fun d q1 v F' H' x s' r => q1 _ F' H' (s'.set i r)⟩
theorem ds_own {pos' : Pos} (i : Nat) (g0 : Good vol F0 H0) (cx : Ctx X W k) (hi : X.N[i]? = some x) (hx : Loc X.env.scope x) (he : DN X vol W e f) (hs : swapsWith e (some (.Name x pos')) pos.line X.env = pure false := by rfl) (hf : X.fn x = true ∨ X.env.scope.names.lookup x = some .local := by first | exact .inl rfl | exact .inr rfl) :
    DS X vol W F0 H0 (.Assign [.Name x pos'] e pos) (fun ρ => bnd (lft ρ (f ρ)) fun d => ret (.nx (ρ.set i (some (.own d))))) :=
  ⟨(ps_set cx.nd hi hx he.run hs hf).conseq fun Dn σ H ⟨F, ρ, s, q⟩ => go_n g0 s q fun d q1 p F' H' x n r => q1 _ F' H' (s.setOwn g0 i x n r)⟩
theorem ds_if {tc : EnvD → M Exn Bool} (g0 : Good vol F0 H0) (hc : DT X vol W c tc) (ha : DSs X vol W F0 H0 sts g) (hb : DSs X vol W F0 H0 rest h) : DS X vol W F0 H0 (.If c sts rest pos) (fun ρ => bnd (lft ρ (tc ρ)) fun q => if q = true then g ρ else h ρ) :=
  ⟨(ps_if hc.run ha.run hb.run).conseq fun Dn σ H ⟨F, ρ, s, q⟩ => go_t g0 s q fun d q1 F' H' x s' => by
    cases d with
    | true => exact ⟨F', ρ, s', q1⟩
    | false => exact ⟨F', ρ, s', q1⟩⟩
/-- name.append(e), the list is one's own -/
def appS (i : Nat) (f : EnvD → M Exn D) : EnvD → MS := fun ρ => match ρ[i]? with
  | some (some (.own (.lst ds))) => bnd (lft ρ (f ρ)) fun d => if ds.length < sizeLine then ret (.nx (ρ.set i (some (.own (.lst (ds ++ [d])))))) else stuck
  | _ => stuck
theorem ds_append {apos cpos npos : Pos} (i : Nat) (g0 : Good vol F0 H0) (hn : PE X (.Name x npos) (tVar i)) (he : DF X vol W e f)
    (h : ∀ to te, PE X (.Name x npos) to → PE X e te → PS X st (tDrop (tBM X.K "list" rAppend to (tCons te tNil)))) : DS X vol W F0 H0 st (appS i f) :=
  ⟨(h _ _ hn he.run).conseq fun Dn σ H ⟨F, ρ, s, q⟩ => by
    unfold appS at q
    split at q
    · rename_i ds e0
      obtain ⟨p, hp, ow, n0⟩ := s.addr e0
      obtain ⟨zl, vs, hv, rv⟩ := id ow.rep
      refine ⟨_, hp, .inl ⟨rfl, _, .inl (.inl hv)⟩, go_f g0 s q fun d q1 v F' H' x s' r => ?_⟩
      split at q1
      · rename_i hz
        obtain ⟨p', hp', ow', _⟩ := s'.addr e0
        rw [hp] at hp'; cases hp'
        obtain ⟨zl', vs', hv', rv'⟩ := id ow'.rep
        refine ⟨p, vs', v, rfl, rfl, hv', by rw [rv'.length]; exact hz, q1 σ F' _ (s'.write e0 hp ⟨by rw [List.length_append, List.length_singleton]; omega, _, upd_same, rv'.append ⟨v, [], rfl, r, rfl⟩⟩)⟩
      · exact q1.elim
    · exact q.elim⟩
/-- name[k] = e, the dict is one's own -/
def putS (i : Nat) (fk fv : EnvD → M Exn D) : EnvD → MS := fun ρ => match ρ[i]? with
  | some (some (.own (.dct kvs))) => bnd (lft ρ (fv ρ)) fun d => bnd (lft ρ (fk ρ)) fun kd => match keyD kd with
    | some key => if kvs.length < sizeLine then ret (.nx (ρ.set i (some (.own (.dct (putD kvs key d)))))) else stuck
    | none => stuck
  | _ => stuck
theorem ds_put {npos tpos : Pos} (i : Nat) (g0 : Good vol F0 H0) (cx : Ctx X W k) (hn : PE X (.Name x npos) (tVar i)) (hk : DF X vol W a fk) (hv : DF X vol W e fv) (hs : swapsWith e (some (.Subscript (.Name x npos) a tpos)) pos.line X.env = pure false := by rfl) :
    DS X vol W F0 H0 (.Assign [.Subscript (.Name x npos) a tpos] e pos) (putS i fk fv) :=
  ⟨(ps_dput (hu_of cx.room) hn hk.run hv.run hs).conseq fun Dn σ H ⟨F, ρ, s, q⟩ => by
    unfold putS at q
    split at q
    · rename_i kvs e0
      refine go_f g0 s q fun d q1 v F1 H1 x1 s1 r1 => ?_
      obtain ⟨p, hp, ow, n0⟩ := s1.addr e0
      refine ⟨_, hp, go_f g0 s1 q1 fun kd q2 kv F2 H2 x2 s2 r2 => ?_⟩
      obtain ⟨p', hp', ow', _⟩ := s2.addr e0
      rw [hp] at hp'; cases hp'
      obtain ⟨zl', vs', hv', rv'⟩ := id ow'.rep
      replace q2 : (match keyD kd with
        | some key => if kvs.length < sizeLine then ret (.nx (ρ.set i (some (.own (.dct (putD kvs key d)))))) else stuck
        | none => stuck : MS).run (OutP vol X.K F0 H0 Dn) (XS vol X.K W F0 H0) := q2
      split at q2
      · rename_i key hkey
        split at q2
        · rename_i hz
          have r2' : RepB vol X.K F2 H2 kd kv := .inl r2
          rw [r2'.key hkey]
          refine ⟨p, _, rfl, DPut.k hv' (by rw [rv'.length]; exact hz), q2 σ F2 _ (s2.write e0 hp ⟨?_, _, upd_same, rv'.put (Rep.up x2.sF _ _ r1)⟩)⟩
          have := length_putD kvs key d
          omega
        · exact q2.elim
      · exact q2.elim
    · exact q.elim⟩
/-- while -/
def whileM (ft : EnvD → M Exn Bool) (g : EnvD → MS) : Nat → EnvD → MS
  | 0, _ => stuck
  | n + 1, ρ => bnd (lft ρ (ft ρ)) fun c => if c = true then bnd (g ρ) fun o => match o with
      | .nx ρ' => whileM ft g n ρ'
      | .ct ρ' => whileM ft g n ρ'
      | .bk ρ' => ret (.nx ρ')
      | .rt d => ret (.rt d)
    else ret (.nx ρ)
def whileS (ft : EnvD → M Exn Bool) (g : EnvD → MS) : EnvD → MS := fun ρ => ⟨fun k e => ∃ n, (whileM ft g n ρ).run k e, fun k k' e e' h h' ⟨n, x⟩ => ⟨n, (whileM ft g n ρ).mono _ _ _ _ h h' x⟩⟩
theorem ds_while {ft : EnvD → M Exn Bool} (g0 : Good vol F0 H0) (cx : Ctx X W k) (hc : DT X vol W c ft) (hb : DSs X vol W F0 H0 sts g) : DS X vol W F0 H0 (.While c sts [] pos) (whileS ft g) :=
  ⟨(ps_while cx.ps hc.run hb.run).conseq fun Dn σ H ⟨F, ρ, s, n, q⟩ => by
    refine ⟨fun m σ H => ∃ F ρ, SRep vol X.K F0 H0 F H σ ρ ∧ (whileM ft g m ρ).run (OutP vol X.K F0 H0 Dn) (XS vol X.K W F0 H0), ⟨n, F, ρ, s, q⟩, ?_⟩
    rintro m σ H ⟨F, ρ, s, q⟩
    cases m with
    | zero => exact q.elim
    | succ m =>
      refine go_t g0 s q fun d q1 F' H' x s' => ?_
      cases d with
      | false => exact q1 σ F' H' s'
      | true =>
        refine ⟨fun σ' H' => ∃ F ρ, SRep vol X.K F0 H0 F H' σ' ρ ∧ (whileM ft g m ρ).run (OutP vol X.K F0 H0 Dn) (XS vol X.K W F0 H0), fun σ' H' h => ⟨m, Nat.lt_succ_self m, h⟩, F', ρ, s', (g ρ).mono _ _ _ _ (fun o q2 => ?_) (fun _ z => z) q1⟩
        cases o with
        | nx ρ' => exact fun σ'' F'' H'' s'' => ⟨F'', ρ', s'', q2⟩
        | ct ρ' => exact fun σ'' F'' H'' s'' => ⟨F'', ρ', s'', q2⟩
        | bk ρ' => exact q2
        | rt d => exact q2⟩
/-- for -/
def forM (b : D → EnvD → Option EnvD) (g : EnvD → MS) : List D → EnvD → MS
  | [], ρ => ret (.nx ρ)
  | d :: ds, ρ => match b d ρ with
    | none => stuck
    | some ρ' => bnd (g ρ') fun o => match o with
      | .nx ρ' => forM b g ds ρ'
      | .ct ρ' => forM b g ds ρ'
      | .bk ρ' => ret (.nx ρ')
      | .rt d => ret (.rt d)
@[reducible] def forS (fs : EnvD → M Exn (List D)) (b : D → EnvD → Option EnvD) (g : EnvD → MS) : EnvD → MS := fun ρ => bnd (lft ρ (fs ρ)) fun ds => forM b g ds ρ
/-- what a target stores keeps what is one's own -/
structure BOk (b : D → EnvD → Option EnvD) : Prop where
  own : ∀ d ρ ρ', b d ρ = some ρ' → ∀ (i : Nat) (d' : D), ρ'[i]? = some (some (.own d')) → ρ[i]? = some (some (.own d'))
/-- as tG, over a statement's state -/
def tGS (vol : Vol) (K : PySem.W.Frag) (F0 H0 : Hp) (b : D → EnvD → Option EnvD) : TG := fun v σ H Q =>
  ∃ F ρ d ρ', SRep vol K F0 H0 F H σ ρ ∧ Rep K F d v ∧ b d ρ = some ρ' ∧ ∀ σ', SRep vol K F0 H0 F H σ' ρ' → Q σ' H
def tGSs (vol : Vol) (K : PySem.W.Frag) (F0 H0 : Hp) (b : List D → EnvD → Option EnvD) : TGs := fun vs σ H Q =>
  ∃ F ρ ds ρ', SRep vol K F0 H0 F H σ ρ ∧ RepL K F ds vs ∧ b ds ρ = some ρ' ∧ ∀ σ', SRep vol K F0 H0 F H σ' ρ' → Q σ' H
structure TGt (X : Cx) (vol : Vol) (F0 H0 : Hp) (tg : Expr) (b : D → EnvD → Option EnvD) : Prop where
  run : PG X tg (tGS vol X.K F0 H0 b)
structure TGts (X : Cx) (vol : Vol) (F0 H0 : Hp) (ts : List Expr) (b : List D → EnvD → Option EnvD) : Prop where
  run : PGs X ts (tGSs vol X.K F0 H0 b)
theorem tg_name {i : Nat} (h : PG X (.Name x pos) (gName i)) : TGt X vol F0 H0 (.Name x pos) (setS i) :=
  ⟨h.conseq fun v σ H Q ⟨F, ρ, d, ρ', s, r, e, q⟩ => by
    cases e
    exact q _ (s.set i r)⟩
theorem tgs_nil : TGts X vol F0 H0 [] setNil := ⟨pgs_nil.conseq fun vs σ H Q ⟨F, ρ, ds, ρ', s, r, e, q⟩ => by
  unfold setNil at e
  split at e
  · cases e; cases r; exact ⟨rfl, q _ s⟩
  · cases e⟩
theorem tgs_cons {ts : List Expr} {b : D → EnvD → Option EnvD} {bs : List D → EnvD → Option EnvD} (h : TGt X vol F0 H0 tg b) (hs : TGts X vol F0 H0 ts bs) (hq : (assignEach (tg :: ts) X.env).map (·.2) = assign tg X.env :: (assignEach ts X.env).map (·.2) := by rfl) : TGts X vol F0 H0 (tg :: ts) (setCons b bs) :=
  ⟨(pgs_cons h.run hs.run hq).conseq fun vs σ H Q ⟨F, ρ, ds, ρ', s, r, e, q⟩ => by
    cases ds with
    | nil => cases e
    | cons d ds =>
      obtain ⟨v, r, rfl, a, b2⟩ := r
      replace e : (b d ρ).bind (bs ds) = some ρ' := e
      cases eb : b d ρ with
      | none => rw [eb] at e; cases e
      | some ρ1 =>
        rw [eb] at e
        exact ⟨v, r, rfl, F, ρ, d, ρ1, s, a, eb, fun σ1 s1 => ⟨F, ρ1, ds, ρ', s1, b2, e, fun σ2 s2 => q σ2 s2⟩⟩⟩
theorem tg_tup {ts : List Expr} {j : Nat} {bs : List D → EnvD → Option EnvD} {n : Nat} (hc : X.calm = true) (h : TGts X vol F0 H0 ts bs) (hn : (assignEach ts X.env).length = n := by rfl) (hst : (assignEach ts X.env).findIdx? (·.1) = none := by rfl) : TGt X vol F0 H0 (.Tuple ts j pos) (setTupN n bs) :=
  ⟨(pg_tup hc h.run hn hst).conseq fun v σ H Q ⟨F, ρ, d, ρ', s, r, e, q⟩ => by
    unfold setTupN at e
    split at e
    · split at e
      · rename_i hl
        obtain ⟨z, a, vs, rfl, ea, ra⟩ := r
        exact ⟨a, vs, rfl, Same.seqT s.x.g.sub ea, by rw [ra.length]; exact hl, F, ρ, _, ρ', s, ra, e, q⟩
      · cases e
    · cases e⟩
/-- the entry, with all that is frozen by now -/
def joinH (F H0 : Hp) : Hp := fun a => match F a with
  | some o => some o
  | none => H0 a
theorem joinH_none {F H0 : Hp} {a : Addr} : joinH F H0 a = none ↔ F a = none ∧ H0 a = none := by
  unfold joinH
  cases F a <;> simp
theorem SRep.deep {F H : Hp} {σ : St} {ρ : EnvD} (g0 : Good vol F0 H0) (s : SRep vol K F0 H0 F H σ ρ) :
    Good vol F (joinH F H0) ∧ SRep vol K F (joinH F H0) F H σ ρ ∧ (∀ F' H', Ext vol F (joinH F H0) F' H' → Ext vol F0 H0 F' H') ∧ ∀ F' H' σ' ρ', SRep vol K F (joinH F H0) F' H' σ' ρ' → SRep vol K F0 H0 F' H' σ' ρ' := by
  have up : Same H0 (joinH F H0) := fun a o e => by
    unfold joinH
    cases q : F a with
    | none => exact e
    | some o' =>
      have nz : ¬ vol.Z a := fun z => by rw [s.x.g.nz a z] at q; cases q
      have e1 := s.x.sH a o e nz
      rw [s.x.g.sub _ _ q] at e1
      exact e1
  have get : ∀ a o, joinH F H0 a = some o → F a = some o ∨ (F a = none ∧ H0 a = some o) := fun a o e => by
    unfold joinH at e
    cases q : F a with
    | none => rw [q] at e; exact .inr ⟨rfl, e⟩
    | some o' => rw [q] at e; exact .inl e
  have sub : Same F (joinH F H0) := fun a o e => by unfold joinH; rw [e]
  have xs : ∀ F' H', Ext vol F (joinH F H0) F' H' → Ext vol F0 H0 F' H' := fun F' H' x => ⟨x.g, s.x.sF.trans x.sF, fun a o e z => x.sH a o (up a o e) z, fun p o e n => x.nw p o (up p o e) (s.x.nw p o e n)⟩
  refine ⟨⟨sub, s.x.g.nz, vol.up _ _ up g0.vi⟩, ⟨⟨s.x.g, Same.refl _, fun a o e z => ?_, fun p o e n => n⟩, s.r, fun i d e => ?_, s.inj⟩, xs, fun F' H' σ' ρ' s' => ⟨xs F' H' s'.x, s'.r, fun i d e => ?_, s'.inj⟩⟩
  · rcases get a o e with q | ⟨_, q⟩
    · exact s.x.g.sub _ _ q
    · exact s.x.sH a o q z
  · obtain ⟨p, h1, h2, h3⟩ := s.addr e
    exact ⟨p, h1, joinH_none.mpr ⟨h2.nF, h3⟩⟩
  · obtain ⟨p, h1, h3⟩ := s'.new i d e
    exact ⟨p, h1, (joinH_none.mp h3).2⟩
theorem ds_for {iter : Expr} {b : D → EnvD → Option EnvD} (g0 : Good vol F0 H0) (cx : Ctx X W k) (hi : IS X vol W tg iter fs) (hg : ∀ F0 H0, TGt X vol F0 H0 tg b) (hb : ∀ F0 H0, Good vol F0 H0 → DSs X vol W F0 H0 sts g) (hs : ∀ x, foldedSetIterable iter X.env x = pure x := by intro _; rfl) : DS X vol W F0 H0 (.For tg iter sts [] pos) (forS fs b g) := by
  have PB : PSs X sts (fun Dn σ H => ∃ F0 H0, Good vol F0 H0 ∧ tS vol X.K W F0 H0 g Dn σ H) := ⟨fun pins s σ H Dn I ⟨F0, H0, g', h⟩ => (hb F0 H0 g').run.run pins s σ H Dn I h⟩
  have PT : PG X tg (fun v σ H Q => ∃ F0 H0, tGS vol X.K F0 H0 b v σ H Q) := ⟨fun pins s σ H v u Q I r ⟨F0, H0, h⟩ => (hg F0 H0).run.run pins s σ H v u Q I r h⟩
  refine ⟨(ps_for cx.ps cx.calm hi.run PT PB hs).conseq fun Dn σ H ⟨F, ρ, s, q⟩ => ?_⟩
  refine ⟨F, ρ, s.good, s.r, (fs ρ).mono _ _ _ _ (fun ds q1 J F1 H1 x1 I => ?_) (fun y q => XS.of g0 s q) q⟩
  have s1 := s.ext g0 x1
  refine ⟨fun i m σ H => m = ds.length - i ∧ i ≤ ds.length ∧ ∃ F ρ, SRep vol X.K F0 H0 F H σ ρ ∧ Same F1 F ∧ (forM b g (ds.drop i) ρ).run (OutP vol X.K F0 H0 Dn) (XS vol X.K W F0 H0), ⟨ds.length, by simp, Nat.zero_le _, F1, ρ, s1, Same.refl _, q1⟩, ?_⟩
  rintro i m σ H ⟨rfl, hil, F, ρ, s, sF, q⟩
  have it := I.2 F H sF s.good
  by_cases hlt : i < ds.length
  · right
    have ed : ds[i]? = some ds[i] := List.getElem?_eq_getElem hlt
    obtain ⟨go, yl⟩ := it.1 i _ ed
    rw [List.drop_eq_getElem_cons hlt] at q
    refine ⟨go, fun σ H => i + 1 ≤ ds.length ∧ ∃ F ρ, SRep vol X.K F0 H0 F H σ ρ ∧ Same F1 F ∧ (forM b g (ds.drop (i + 1)) ρ).run (OutP vol X.K F0 H0 Dn) (XS vol X.K W F0 H0), fun σ' H' h => ⟨ds.length - (i + 1), by omega, rfl, h.1, h.2⟩, fun v H3 y => ?_⟩
    obtain ⟨F3, x3, rx⟩ := yl v H3 y
    replace q : (match b ds[i] ρ with | none => stuck | some ρ' => bnd (g ρ') fun o => match o with | .nx ρ' => forM b g (ds.drop (i + 1)) ρ' | .ct ρ' => forM b g (ds.drop (i + 1)) ρ' | .bk ρ' => ret (.nx ρ') | .rt d => ret (.rt d) : MS).run (OutP vol X.K F0 H0 Dn) (XS vol X.K W F0 H0) := q
    cases eb : b ds[i] ρ with
    | none => rw [eb] at q; exact q.elim
    | some ρ' =>
      rw [eb] at q
      have s3 := s.ext g0 x3
      obtain ⟨g3, s4, xs, ss⟩ := s3.deep g0
      refine ⟨F3, joinH F3 H0, F3, ρ, _, ρ', s4, rx, eb, fun σ' s' => ⟨F3, joinH F3 H0, g3, F3, ρ', s', (g ρ').mono _ _ _ _ (fun o q4 => ?_) (fun y z dd σ F H s r => z dd σ F H (ss _ _ _ _ s) r) q⟩⟩
      cases o with
      | nx ρ4 => exact fun σ4 F4 H4 s4 => ⟨by omega, F4, ρ4, ss _ _ _ _ s4, sF.trans (x3.sF.trans s4.x.sF), q4⟩
      | ct ρ4 => exact fun σ4 F4 H4 s4 => ⟨by omega, F4, ρ4, ss _ _ _ _ s4, sF.trans (x3.sF.trans s4.x.sF), q4⟩
      | bk ρ4 => exact fun σ4 F4 H4 s4 => q4 σ4 F4 H4 (ss _ _ _ _ s4)
      | rt d => exact fun v F4 H4 x r => q4 v F4 H4 (xs _ _ x) r
  · have ei : i = ds.length := by omega
    subst ei
    rw [List.drop_length] at q
    exact .inl ⟨it.2, q σ F H s⟩
/-- a, b = e -/
theorem ds_tup {b : D → EnvD → Option EnvD} (g0 : Good vol F0 H0) (he : DF X vol W e f) (hg : TGt X vol F0 H0 tg b) (hs : swapsWithSole [tg] e pos.line X.env = pure false := by rfl) (hw : swappedStores [tg] e X.env = pure none := by rfl) (h1 : (assignEach [tg] X.env).map (·.2) = [assign tg X.env] := by rfl) :
    DS X vol W F0 H0 (.Assign [tg] e pos) (fun ρ => bnd (lft ρ (f ρ)) fun d => match b d ρ with
      | some ρ' => ret (.nx ρ')
      | none => stuck) :=
  ⟨(ps_asg he.run hg.run hs hw h1).conseq fun Dn σ H ⟨F, ρ, s, q⟩ => go_f g0 s q fun d q1 v F' H' x s' r => by
    replace q1 : (match b d ρ with | some ρ' => ret (.nx ρ') | none => stuck : MS).run (OutP vol X.K F0 H0 Dn) (XS vol X.K W F0 H0) := q1
    cases eb : b d ρ with
    | none => rw [eb] at q1; exact q1.elim
    | some ρ' =>
      rw [eb] at q1
      exact ⟨F', ρ, d, ρ', s', r, eb, fun σ' s'' => q1 σ' F' H' s''⟩⟩
end

/-! ### a def -/
def begin_ (n : Nat) (ds : List D) : EnvD := ds.map (fun d => some (.im d)) ++ List.replicate (n - ds.length) none
def runD (n : Nat) (g : EnvD → MS) : List D → M Exn D := fun ds => bnd (mapE Prod.fst (g (begin_ n ds))) fun o => match o with
  | .nx _ => ret .non
  | .rt d => ret d
  | _ => stuck
theorem ERep.begin {vol : Vol} {K : PySem.W.Frag} {F H : Hp} {N : List Str} {ds : List D} {vs : List V} (r : RepL K F ds vs) : ERep vol K F H (L2.start N vs) (begin_ N.length ds) := by
  have hl := r.length
  have get : ∀ (i : Nat) (c : SlotD), (begin_ N.length ds)[i]? = some (some c) → ∃ d, c = .im d ∧ ds[i]? = some d := fun i c e => by
    unfold begin_ at e
    by_cases hi : i < ds.length
    · rw [List.getElem?_append_left (by simpa using hi), List.getElem?_map] at e
      cases q : ds[i]? with
      | none => rw [q] at e; cases e
      | some d' => rw [q] at e; cases e; exact ⟨d', rfl, rfl⟩
    · rw [List.getElem?_append_right (by simpa using hi), List.getElem?_replicate] at e
      split at e <;> cases e
  refine ⟨by simp [L2.start, begin_, hl], fun i d e => ?_, fun i d e => ?_, fun i n e => ?_⟩
  · obtain ⟨d', e1, e2⟩ := get i _ e
    cases e1
    obtain ⟨v, ev, rv⟩ := r.get e2
    refine ⟨v, ?_, rv⟩
    unfold L2.start
    have hi : i < vs.length := (List.getElem?_eq_some_iff.mp ev).1
    rw [List.getElem?_append_left (by simpa using hi), List.getElem?_map, ev]
    rfl
  · obtain ⟨d', e1, e2⟩ := get i _ e
    cases e1
  · obtain ⟨d', e1, e2⟩ := get i _ e
    cases e1
theorem SRep.begin {vol : Vol} {K : PySem.W.Frag} {F H : Hp} {N : List Str} {ds : List D} {vs : List V} (g : Good vol F H) (r : RepL K F ds vs) : SRep vol K F H F H (L2.start N vs) (begin_ N.length ds) := by
  have no : ∀ (i : Nat) (d : D), (begin_ N.length ds)[i]? ≠ some (some (.own d)) := fun i d e => by
    unfold begin_ at e
    by_cases hi : i < ds.length
    · rw [List.getElem?_append_left (by simpa using hi), List.getElem?_map] at e
      cases q : ds[i]? with
      | none => rw [q] at e; cases e
      | some d' => rw [q] at e; cases e
    · rw [List.getElem?_append_right (by simpa using hi), List.getElem?_replicate] at e
      split at e <;> cases e
  exact ⟨g.ext, ERep.begin r, fun i d e => (no i d e).elim, fun i j d d' p e => (no i d e).elim⟩
section
variable {P : Program} {w : World} {K : PySem.W.Frag} {mg : Str → Option Value} {base : Heap}
theorem fn_ok {x qual : Str} {st : Stmt} {f : Addr} {fd : FuncData} {N ps : List Str} {k : Nat} {g : EnvD → MS} (F : Fun K x qual st f fd) (S : FnScope N ps (defScope st))
    (hbody : ∀ (cdv : Value) (A : Around) (outer : List Env) (s : Shared) (H : Hp) (E : XK) (F0 : Hp), Good vol0 F0 H → Ctx (cxOf (L2N.CX P w) P w K mg base N qual (defScope st) f cdv A outer s H E) (fun c d _ H => E c d H) k →
      DSs (cxOf (L2N.CX P w) P w K mg base N qual (defScope st) f cdv A outer s H E) vol0 (fun c d _ H => E c d H) F0 H (defBody st) g) :
    FnOk P w K mg base (L2N.CX P w) (k + 1) f fd ps (spD vol0 K ps.length (runD N.length g)) := by
  refine fun_okN F S (fun vs H Q E h => spD.len vs H Q E h) (fun cdv A outer s H vs Q E hr h => ?_)
  obtain ⟨F0, ds, hl, g0, r, q⟩ := h
  refine ⟨_, (hbody cdv A outer s H E F0 g0 ⟨L2N.takes_of rfl rfl rfl rfl, passes_of rfl, rfl, S.nd, hr⟩).run, F0, _, SRep.begin g0 r, ?_⟩
  refine (g (begin_ N.length ds)).mono _ _ _ _ (fun o q1 => ?_) (fun y z dd σ F H s r => z dd F H s.x r) q
  cases o with
  | nx ρ => exact fun σ F' H' s' => q1 .non F' H' s'.x rfl
  | rt d => exact q1
  | bk ρ => exact q1.elim
  | ct ρ => exact q1.elim
end
end DL

namespace DL
open PySem PySem.Spec L2

theorem Ctx.mono {X : Cx} {W : WX} {j k : Nat} (c : Ctx X W k) (h : j ≤ k) : Ctx X W j := ⟨c.tk, c.ps, c.calm, c.nd, c.room.mono h⟩

/-! ### constants of the module -/
def GConst (K : PySem.W.Frag) (mg : Str → Option Value) (x : Str) (d : D) : Prop := ∃ u v, mg x = some u ∧ RelV v u ∧ ∀ F : Hp, Rep K F d v
theorem gconst_str {K : PySem.W.Frag} {mg : Str → Option Value} {x s : Str} {t : Tok} (h : mg x = some (.str s t)) : GConst K mg x (.str s) := ⟨_, .str s, h, ⟨t, rfl⟩, fun _ => rfl⟩
theorem gconst_int {K : PySem.W.Frag} {mg : Str → Option Value} {x : Str} {i : Int} {t : Tok} (h : mg x = some (.int i t)) : GConst K mg x (.int i) := ⟨_, .int i, h, ⟨t, rfl⟩, fun _ => rfl⟩
section
variable {X : Cx} {vol : Vol} {W : WX} {F0 H0 : Hp} {tg e a b c o : Expr} {es : List Expr} {f fa fb fo fk fv : EnvD → M Exn D} {fs : EnvD → M Exn (List D)} {pos apos p : Pos} {k n : Nat} {K : PySem.W.Frag} {x : Str} {d : D}
theorem df_glob (h : GConst X.K X.mg x d) (hg : Gl X x) (hd : (x == ("__debug__" : Str)) = false := by decide) : DF X vol W (.Name x pos) (fun _ => ret d) := by
  obtain ⟨u, v, h1, h2, h3⟩ := h
  exact df_const (pe_glob hg h1 h2 hd) h3

/-! ### isinstance -/
def tyN : D → String
  | .non => "NoneType" | .bl _ => "bool" | .int _ => "int" | .str _ => "str" | .lst _ => "list" | .tup _ => "tuple" | .dct _ => "dict" | .obj _ _ => "object" | .fn _ => "function"
def isObjD : D → Bool
  | .obj _ _ => true
  | .fn _ => true
  | _ => false
def isiD (T : String) (d : D) : M Exn D := if isObjD d = true then stuck else match kitB (tyN d) T with
  | some b => ret (.bl b)
  | none => stuck
theorem tyX_of {F H : Hp} {v : V} (g : Good vol F H) (r : RepB vol K F H d v) (h : isObjD d = false) : TyX K H v (.type (tyN d)) := by
  cases d with
  | non => rw [r.non]; exact .base .non
  | bl b => rw [r.bl]; exact .base (.bl b)
  | int i => rw [r.int]; exact .base (.int i)
  | str s => rw [r.str]; exact .base (.str s)
  | lst ds => obtain ⟨_, a, vs, rfl, e, _⟩ := r.lst g; exact .base (.lst e)
  | tup ds =>
    obtain ⟨_, a, vs, rfl, e, _⟩ := r.tup g
    rcases e with (e | ⟨ob, e⟩) | ⟨ob, its, n, e, ec, _⟩
    · exact .base (.tup e)
    · exact .fTuple e
    · exact .kTuple e ec
  | dct ds => obtain ⟨_, a, vs, rfl, e, _⟩ := r.dct g; exact .base (.dK e)
  | obj C fs => cases h
  | fn _ => cases h
theorem isi_go {T : String} {F H : Hp} {v : V} {Q : VK} {ee : Exn → Prop} (g : Good vol F H) (r : RepB vol K F H d v) (q : (isiD T d).run (VF vol K F H Q) ee) : rIsi K [v, .ty T] H Q := by
  unfold isiD at q
  split at q
  · exact q.elim
  · rename_i ho
    cases e : kitB (tyN d) T with
    | none => rw [e] at q; exact q.elim
    | some b =>
      rw [e] at q
      exact ⟨v, .ty T, _, _, b, rfl, .ty T, tyX_of g r (by simpa using ho), kit_ty e, q _ F H g.ext rfl⟩
theorem df_isi {T : String} {p1 p2 : Pos} (ha : DB X vol W a fa) (hT : bootBuiltins x = some (.type T)) (hg : Gl X "isinstance") (hm : X.mg "isinstance" = none) (hg2 : Gl X x) (hm2 : X.mg x = none) (hn : x ≠ "__name__" := by decide) (hd : (x == ("__debug__" : Str)) = false := by decide)
    (hs : starEach [a, .Name x p2] X.env = (false, eval a X.env) :: starEach [.Name x p2] X.env := by rfl) (hs2 : starEach [.Name x p2] X.env = (false, eval (.Name x p2) X.env) :: starEach [] X.env := by rfl) (hpl : (backTo pos (starEach [.Name x p2] X.env)).any (·.1) = false := by rfl) :
    DF X vol W (.Call (.Name "isinstance" p1) [a, .Name x p2] [] pos) (one fa (isiD T)) :=
  ⟨(pe_callB call_isi hg hm (by decide +kernel) (pa_cons ha.run (pa_cons (pe_bltn hg2 hm2 hT (v := .ty T) rfl hn hd) pa_nil hs2) hs) (by decide) (by decide) hs hpl).conseq fun σ H Q ⟨F, ρ, G, E, q⟩ =>
    tD.goB G E q fun d q1 v F1 H1 x1 r1 => isi_go x1.g r1 ((isiD T d).mono _ _ _ _ (fun d z u F' H' x4 ru => z u F' H' (x1.trans G x4) ru) (fun _ z => z) q1)⟩
/-- isinstance(x, (T, U)) of built-in types -/
def isi2D (T U : String) (d : D) : M Exn D := if isObjD d = true then stuck else match kitB (tyN d) T, kitB (tyN d) U with
  | some b, some c => ret (.bl (b || c))
  | _, _ => stuck
theorem df_isi2 {T U : String} {y : Str} {p1 p2 p3 pt : Pos} {j} (ha : DB X vol W a fa) (hT : bootBuiltins x = some (.type T)) (hU : bootBuiltins y = some (.type U)) (hg : Gl X "isinstance") (hm : X.mg "isinstance" = none) (hg2 : Gl X x) (hm2 : X.mg x = none) (hg3 : Gl X y) (hm3 : X.mg y = none)
    (hn : x ≠ "__name__" := by decide) (hd : (x == ("__debug__" : Str)) = false := by decide) (hn3 : y ≠ "__name__" := by decide) (hd3 : (y == ("__debug__" : Str)) = false := by decide)
    (hs : starEach [a, .Tuple [.Name x p2, .Name y p3] j pt] X.env = (false, eval a X.env) :: starEach [.Tuple [.Name x p2, .Name y p3] j pt] X.env := by rfl) (hs2 : starEach [.Tuple [.Name x p2, .Name y p3] j pt] X.env = (false, eval (.Tuple [.Name x p2, .Name y p3] j pt) X.env) :: starEach [] X.env := by rfl)
    (hs3 : starEach [.Name x p2, .Name y p3] X.env = (false, eval (.Name x p2) X.env) :: starEach [.Name y p3] X.env := by rfl) (hs4 : starEach [.Name y p3] X.env = (false, eval (.Name y p3) X.env) :: starEach [] X.env := by rfl)
    (hpl : (backTo pos (starEach [.Tuple [.Name x p2, .Name y p3] j pt] X.env)).any (·.1) = false := by rfl) :
    DF X vol W (.Call (.Name "isinstance" p1) [a, .Tuple [.Name x p2, .Name y p3] j pt] [] pos) (one fa (isi2D T U)) :=
  ⟨(pe_callB call_isiT hg hm (by decide +kernel) (pa_cons ha.run (pa_cons (pe_tup (pa_cons (pe_bltn hg2 hm2 hT (v := .ty T) rfl hn hd) (pa_cons (pe_bltn hg3 hm3 hU (v := .ty U) rfl hn3 hd3) pa_nil hs4) hs3)) pa_nil hs2) hs) (by decide) (by decide) hs hpl).conseq fun σ H Q ⟨F, ρ, G, E, q⟩ =>
    tD.goB G E q fun d q1 v F1 H1 x1 r1 => by
      refine ⟨by show 2 ≤ sizeLine; decide, fun tp htp => ?_⟩
      have x2 := x1.g.new (o := .tup [.ty T, .ty U]) htp
      unfold isi2D at q1
      split at q1
      · exact q1.elim
      · rename_i ho
        cases e1 : kitB (tyN d) T with
        | none => rw [e1] at q1; exact q1.elim
        | some b =>
          cases e2 : kitB (tyN d) U with
          | none => rw [e1, e2] at q1; exact q1.elim
          | some c =>
            rw [e1, e2] at q1
            refine ⟨v, tp, _, _, _, _, rfl, upd_same, .cons (.ty T) (.cons (.ty U) .nil), tyX_of x2.g (r1.ext x2) (by simpa using ho), kitAny_cons (kit_ty e1) (fun hb => kitAny_cons (kit_ty e2) (r := b || c) (fun hc => by subst hb hc; rfl) (fun hc => by rw [hc, Bool.or_true])) (fun hb => by rw [hb, Bool.true_or]), q1 _ _ _ (x1.trans G x2) rfl⟩⟩

/-- isinstance(x, C), a class of one's own -/
structure IsC (K : PySem.W.Frag) (C : Addr) : Prop where
  no : ∀ T ∈ ["NoneType", "bool", "int", "str", "list", "tuple", "dict"], PySem.W.kitOne K (.type T) (.ref C) = some false
  cl : Cls K C
  ha : PySem.W.findIn K (.ref C) "__class__" = some (some (.builtin "object.__class__"))
  hn : PySem.W.specialIn K (.builtin "object.__class__") "__get__" = some (some (.builtin "getset_descriptor.__get__"))
  ht : PySem.W.takesIn K (.builtin "object.__class__") = some true
  hm : PySem.W.mroIn K C (.type "object") = some true
def isiC (C : Addr) : D → M Exn D
  | .obj C' _ => if C' = C then ret (.bl true) else stuck
  | .fn _ => stuck
  | _ => ret (.bl false)
theorem tyN_mem (h : isObjD d = false) : tyN d ∈ ["NoneType", "bool", "int", "str", "list", "tuple", "dict"] := by
  cases d <;> first | (cases h; done) | simp [tyN]
theorem kitOne_same {K : PySem.W.Frag} {C : Addr} : PySem.W.kitOne K (.ref C) (.ref C) = some true := by
  unfold PySem.W.kitOne
  simp
theorem df_isC {C : Addr} {p1 p2 : Pos} (I : IsC X.K C) (ha : DB X vol W a fa) (hg : Gl X "isinstance") (hm : X.mg "isinstance" = none) (hg2 : Gl X x) (hm2 : X.mg x = some (.ref C)) (hd : (x == ("__debug__" : Str)) = false := by decide)
    (hs : starEach [a, .Name x p2] X.env = (false, eval a X.env) :: starEach [.Name x p2] X.env := by rfl) (hs2 : starEach [.Name x p2] X.env = (false, eval (.Name x p2) X.env) :: starEach [] X.env := by rfl) (hpl : (backTo pos (starEach [.Name x p2] X.env)).any (·.1) = false := by rfl) :
    DF X vol W (.Call (.Name "isinstance" p1) [a, .Name x p2] [] pos) (one fa (isiC C)) :=
  ⟨(pe_callB call_isi hg hm (by decide +kernel) (pa_cons ha.run (pa_cons (pe_glob hg2 hm2 (v := .ref C) rfl hd) pa_nil hs2) hs) (by decide) (by decide) hs hpl).conseq fun σ H Q ⟨F, ρ, G, E, q⟩ =>
    tD.goB G E q fun d q1 v F1 H1 x1 r1 => by
      by_cases ho : isObjD d = true
      · cases d with
        | obj C' gs =>
          replace q1 : (if C' = C then ret (.bl true) else stuck : M Exn D).run (VF vol X.K F H Q) (EX vol W σ F H) := q1
          by_cases hC : C' = C
          · rw [if_pos hC] at q1
            subst hC
            obtain ⟨a, dx, ws, rfl, ea, _⟩ := r1.obj x1.g
            exact ⟨_, .ref _, _, _, true, rfl, .own _, .base (.ins ea I.cl I.ha I.hn I.ht I.hm), kitOne_same, q1 _ F1 H1 x1 rfl⟩
          · rw [if_neg hC] at q1; exact q1.elim
        | fn _ => exact q1.elim
        | _ => cases ho
      · have ho' : isObjD d = false := by simpa using ho
        have e : isiC C d = ret (.bl false) := by cases d <;> first | rfl | (cases ho'; done)
        replace q1 : (isiC C d).run (VF vol X.K F H Q) (EX vol W σ F H) := q1
        rw [e] at q1
        exact ⟨v, .ref C, _, _, false, rfl, .own C, tyX_of x1.g r1 ho', I.no _ (tyN_mem ho'), q1 _ F1 H1 x1 rfl⟩⟩

/-! ### dict(..), sorted(..) -/
def pairOf : D → Option (Key × D)
  | .tup [k, d] => (keyD k).map fun k => (k, d)
  | _ => none
def pairsOf : List D → Option (List (Key × D))
  | [] => some []
  | d :: ds => (pairOf d).bind fun p => (pairsOf ds).map fun ps => p :: ps
def mergeD (kvs more : List (Key × D)) : List (Key × D) := more.foldl (fun acc kv => putD acc kv.1 kv.2) kvs
def dictD : List D → M Exn D
  | [.lst ds] => match pairsOf ds with
    | some kvs => ret (.dct (mergeD [] kvs))
    | none => stuck
  | [.dct kvs] => ret (.dct kvs)
  | _ => stuck
theorem keyD_rep {F : Hp} {d : D} {v : V} {k : Key} (h : keyD d = some k) (r : Rep K F d v) : v = kV k := by
  cases d <;> first | (cases h; exact r) | cases h
theorem pairs_rep {F H : Hp} (s : Same F H) : ∀ {ds : List D} {kvs : List (Key × D)} {vs : List V}, pairsOf ds = some kvs → RepL K F ds vs → ∃ (ps : List Addr) (ws : List (Key × V)), vs = ps.map V.ref ∧ Paired (fun p kv => SqT K H p [kV kv.1, kv.2]) ps ws ∧ RepK K F kvs ws
  | [], _, _, h, r => by cases h; cases r; exact ⟨[], [], rfl, .nil, rfl⟩
  | d :: ds, kvs, _, h, r => by
    obtain ⟨v, r, rfl, ra, rb⟩ := r
    unfold pairsOf at h
    cases q : pairOf d with
    | none => rw [q] at h; cases h
    | some p =>
      rw [q] at h
      cases q' : pairsOf ds with
      | none => rw [q'] at h; cases h
      | some ps' =>
        rw [q'] at h; cases h
        obtain ⟨ps, ws, rfl, h1, h2⟩ := pairs_rep s q' rb
        unfold pairOf at q
        split at q
        · rename_i kd d'
          cases qk : keyD kd with
          | none => rw [qk] at q; cases q
          | some key =>
            rw [qk] at q; cases q
            obtain ⟨_, a, us, rfl, ea, ru⟩ := ra
            obtain ⟨u1, r1, rfl, ru1, ru2⟩ := ru
            obtain ⟨u2, r2, rfl, ru3, ru4⟩ := ru2
            cases ru4
            rw [keyD_rep qk ru1] at ea
            exact ⟨a :: ps, (key, u2) :: ws, rfl, .cons (Same.seqT s ea) h1, u2, ws, rfl, ru3, h2⟩
        · cases q
theorem mergeD_rep {F : Hp} : ∀ {more : List (Key × D)} {ms : List (Key × V)} {kvs : List (Key × D)} {ws : List (Key × V)}, RepK K F more ms → RepK K F kvs ws → RepK K F (mergeD kvs more) (mergeK ws ms)
  | [], _, _, _, r, q => by cases r; exact q
  | (k, d) :: more, _, _, _, r, q => by
    obtain ⟨v, r, rfl, ra, rb⟩ := r
    have h := mergeD_rep (more := more) (ms := r) rb (RepK.put (k := k) ra q)
    exact h
theorem mergeD_len : ∀ (more kvs : List (Key × D)), (mergeD kvs more).length ≤ kvs.length + more.length
  | [], kvs => by simp [mergeD]
  | (k, d) :: more, kvs => by
    have h1 := mergeD_len more (putD kvs k d)
    have h2 := length_putD kvs k d
    show (mergeD (putD kvs k d) more).length ≤ _
    simp only [List.length_cons]
    omega
theorem pairsOf_len : ∀ {ds : List D} {kvs : List (Key × D)}, pairsOf ds = some kvs → kvs.length = ds.length
  | [], _, h => by cases h; rfl
  | d :: ds, _, h => by
    unfold pairsOf at h
    cases q : pairOf d with
    | none => rw [q] at h; cases h
    | some p =>
      rw [q] at h
      cases q' : pairsOf ds with
      | none => rw [q'] at h; cases h
      | some ps' => rw [q'] at h; cases h; simp [pairsOf_len q']
theorem call_dictD : CallR X (.type "dict") (fun xs H Q => ∃ a kvs, xs = [.ref a] ∧ Rd H a (.dK kvs) ∧ ∀ p, H p = none → Q (.ref p) (upd H p (.dK kvs))) := by
  intro pins s σ H xs us Q I r ⟨a, kvs, ex, h, q⟩
  subst ex
  obtain ⟨u, eu, rx⟩ := vals1 r
  subst eu
  cases rx
  exact d_copyOf I h fun p s' hp I' => ⟨.ref p, _, I', rfl, q p hp⟩
theorem agr_dict : AgrN vol K (fun xs H Q => (∃ (a : Addr) (ps : List Addr) (kvs : List (Key × V)), xs = [.ref a] ∧ SqL K H a (ps.map V.ref) ∧ Paired (fun p kv => SqT K H p [kV kv.1, kv.2]) ps kvs ∧ ∀ p, H p = none → Q (.ref p) (upd H p (.dK (mergeK [] kvs)))) ∨ (∃ a kvs, xs = [.ref a] ∧ Rd H a (.dK kvs) ∧ ∀ p, H p = none → Q (.ref p) (upd H p (.dK kvs)))) dictD := fun F H xs vs Q e G r h => by
  unfold dictD at h
  split at h
  · split at h
    · rename_i kvs hp
      obtain ⟨v, rfl, r1⟩ := r.one
      obtain ⟨z, a, ws, rfl, ea, ra⟩ := r1.lst G
      obtain ⟨ps, ms, rfl, h1, h2⟩ := pairs_rep G.sub hp ra
      refine .inl ⟨a, ps, ms, rfl, SqL.of ea, h1, fun p hp' => ?_⟩
      refine h p F _ (G.own (o := .dK (mergeK [] ms)) hp') hp' ⟨G.fF hp', G.fZ hp', ?_, _, upd_same, mergeD_rep h2 rfl⟩
      have := mergeD_len kvs []
      rw [pairsOf_len hp] at this
      simp only [List.length_nil] at this
      omega
    · exact h.elim
  · obtain ⟨v, rfl, r1⟩ := r.one
    obtain ⟨z, a, ws, rfl, ea, ra⟩ := r1.dct G
    exact .inr ⟨a, ws, rfl, .inl ea, fun p hp' => h p F _ (G.own (o := .dK ws) hp') hp' ⟨G.fF hp', G.fZ hp', z, _, upd_same, ra⟩⟩
  · exact h.elim
theorem dn_dict {p : Pos} (c : Ctx X W k) (hg : Gl X "dict") (hm : X.mg "dict" = none) (ha : AB X vol W [a] fs) (hs : starEach [a] X.env = (false, eval a X.env) :: starEach [] X.env := by rfl) : DN X vol W (.Call (.Name "dict" p) [a] [] pos) (call fs dictD) := dn_callT ((call_dictP c.calm).or call_dictD) agr_dict hg hm (by decide +kernel) ha (hs := hs)
/-- the int keys of a dict; sorted -/
def ikeys : List (Key × D) → Option (List Int)
  | [] => some []
  | (.inl i, _) :: r => (ikeys r).map fun is => i :: is
  | _ => none
def insI (i : Int) : List Int → List Int
  | [] => [i]
  | j :: r => if i ≤ j then i :: j :: r else j :: insI i r
def srt : List Int → List Int
  | [] => []
  | i :: r => insI i (srt r)
def sortedD : List D → M Exn D
  | [.dct kvs] => match ikeys kvs with
    | some is => if is.length < 64 then ret (.lst ((srt is).map .int)) else stuck
    | none => stuck
  | [.lst ds] => match intsOf ds with
    | some is => ret (.lst ((srt is).map .int))
    | none => stuck
  | _ => stuck
theorem insI_perm (i : Int) : ∀ l : List Int, (insI i l).Perm (i :: l)
  | [] => .refl _
  | j :: r => by
    unfold insI
    split
    · exact .refl _
    · exact ((insI_perm i r).cons j).trans (.swap i j r)
theorem srt_perm : ∀ l : List Int, (srt l).Perm l
  | [] => .refl _
  | i :: r => (insI_perm i (srt r)).trans ((srt_perm r).cons i)
theorem insI_sorted (i : Int) : ∀ {l : List Int}, l.Pairwise (· ≤ ·) → (insI i l).Pairwise (· ≤ ·)
  | [], _ => by simp [insI]
  | j :: r, h => by
    unfold insI
    have h' := List.pairwise_cons.mp h
    split
    · rename_i hij
      refine List.pairwise_cons.mpr ⟨fun x hx => ?_, h⟩
      rcases List.mem_cons.mp hx with rfl | hx
      · exact hij
      · exact Int.le_trans hij (h'.1 x hx)
    · rename_i hij
      refine List.pairwise_cons.mpr ⟨fun x hx => ?_, insI_sorted i h'.2⟩
      rcases List.mem_cons.mp ((insI_perm i r).mem_iff.mp hx) with rfl | hx
      · omega
      · exact h'.1 x hx
theorem srt_sorted : ∀ l : List Int, (srt l).Pairwise (· ≤ ·)
  | [] => .nil
  | i :: r => insI_sorted i (srt_sorted r)
theorem sorted_one {a b : List Int} (p : a.Perm b) (ha : a.Pairwise (· ≤ ·)) (hb : b.Pairwise (· ≤ ·)) : a = b := p.eq_of_pairwise (le := (· ≤ ·)) (fun x y _ _ h1 h2 => Int.le_antisymm h1 h2) ha hb
theorem RepK.ikeys {F : Hp} : ∀ {kvs : List (Key × D)} {ws : List (Key × V)} {is : List Int}, DL.ikeys kvs = some is → RepK K F kvs ws → ws.map (·.1) = is.map Sum.inl
  | [], _, _, h, r => by cases h; cases r; rfl
  | (.inr _, _) :: _, _, _, h, _ => by cases h
  | (.inl i, d) :: kvs, _, is, h, r => by
    obtain ⟨v, r, rfl, ra, rb⟩ := r
    unfold DL.ikeys at h
    cases q : DL.ikeys kvs with
    | none => rw [q] at h; cases h
    | some js => rw [q] at h; cases h; simp [RepK.ikeys q rb]
theorem RepL.of_ints {F : Hp} : ∀ (is : List Int), RepL K F (is.map D.int) (is.map V.int)
  | [] => rfl
  | i :: is => ⟨.int i, _, rfl, rfl, RepL.of_ints is⟩
theorem srt_len (l : List Int) : (srt l).length = l.length := (srt_perm l).length_eq
theorem agr_sorted : AgrL vol K (fun xs H Q => (∃ (a : Addr) (kvs : List (Key × V)) (ks : List Int), xs = [.ref a] ∧ Rd H a (.dK kvs) ∧ kvs.map (·.1) = ks.map Sum.inl ∧ ks.length < 64 ∧
    ∀ (ys : List Int) (p : Addr), ys.Perm ks → ys.Pairwise (· ≤ ·) → H p = none → Q (.ref p) (upd H p (.lst (ys.map V.int)))) ∨ rSortedI K xs H Q) sortedD := fun F H xs vs Q e G r h => by
  unfold sortedD at h
  split at h
  · split at h
    · rename_i is hk
      split at h
      · rename_i h64
        obtain ⟨v, rfl, r1⟩ := r.one
        obtain ⟨z, a, ws, rfl, ea, ra⟩ := r1.dct G
        refine .inl ⟨a, ws, is, rfl, .inl ea, ra.ikeys hk, h64, fun ys p hp hs hn => ?_⟩
        rw [sorted_one (hp.trans (srt_perm is).symm) hs (srt_sorted is)]
        have x2 := G.new (o := .lst ((srt is).map V.int)) hn
        exact h _ _ _ x2 ⟨by rw [List.length_map, srt_len]; exact Nat.le_trans (Nat.le_of_lt h64) (by decide), p, _, rfl, upd_same, RepL.of_ints _⟩
      · exact h.elim
    · exact h.elim
  · split at h
    · rename_i is hk
      obtain ⟨v, rfl, r1⟩ := r.one
      obtain ⟨z, a, ws, rfl, ea, ra⟩ := r1.lst G
      rw [intsOf_eq hk] at ra z
      rw [ra.ints] at ea
      refine .inr ⟨a, is, rfl, SqL.of ea, fun ys p hp hs hn => ?_⟩
      rw [sorted_one (hp.trans (srt_perm is).symm) hs (srt_sorted is)]
      have x2 := G.new (o := .lst ((srt is).map V.int)) hn
      exact h _ _ _ x2 ⟨by rw [List.length_map, srt_len]; simpa using z, p, _, rfl, upd_same, RepL.of_ints _⟩
    · exact h.elim
  · exact h.elim
theorem df_sorted {p : Pos} (c : Ctx X W k) (hg : Gl X "sorted") (hm : X.mg "sorted" = none) (ha : AB X vol W [a] fs) (hs : starEach [a] X.env = (false, eval a X.env) :: starEach [] X.env := by rfl) : DF X vol W (.Call (.Name "sorted" p) [a] [] pos) (call fs sortedD) := df_callB ((call_sortedDI c.calm).or cr_sortedI) agr_sorted hg hm (by decide +kernel) ha (hs := hs)

/-! ### d.get(k) -/
def getD (fa fb : EnvD → M Exn D) : EnvD → M Exn D := fun ρ => bnd (fa ρ) fun x => match x with
  | .dct kvs => bnd (fb ρ) fun y => match keyD y with
    | some k => ret ((valD kvs k).getD .non)
    | none => stuck
  | _ => stuck
theorem df_get (cx : Ctx X W k) (ha : DB X vol W a fa) (hb : DB X vol W b fb) (m : M1 X a "get" apos b pos) : DF X vol W (.Call (.Attribute a "get" apos) [b] [] pos) (getD fa fb) :=
  ⟨(pe_dget1 (hu_of cx.room) ha.run hb.run m).conseq fun σ H Q ⟨F, ρ, G, E, q⟩ => tD.goB G E q fun x q1 v F1 H1 x1 r1 => by
    cases x with
    | dct kvs =>
      obtain ⟨z, a', ws, rfl, ea, ra⟩ := r1.dct x1.g
      refine ⟨a', rfl, .inl ⟨ws, .inl ea⟩, tD.goB x1.g (E.ext x1) (MonoEX G x1 q1 fun _ z => z) fun y q2 w F2 H2 x2 r2 => ?_⟩
      have x3 := x1.trans G x2
      obtain ⟨z, a2, ws2, e2, ea2, ra2⟩ := (r1.ext x2).dct x2.g
      cases e2
      replace q2 : (match keyD y with | some k => ret ((valD kvs k).getD .non) | none => stuck : M Exn D).run (VF vol X.K F H Q) (EX vol W σ F H) := q2
      cases hk : keyD y with
      | none => rw [hk] at q2; exact q2.elim
      | some key =>
        rw [hk] at q2
        rw [r2.key hk]
        refine ⟨_, DGet.k ea2, ?_⟩
        replace q2 : (ret ((valD kvs key).getD .non) : M Exn D).run (VF vol X.K F H Q) (EX vol W σ F H) := q2
        have hv := ra2.val (k := key)
        cases e : valD kvs key with
        | none => rw [e] at hv q2; rw [hv]; exact q2 _ F2 H2 x3 rfl
        | some d => rw [e] at hv q2; obtain ⟨v, e1, rv⟩ := hv; rw [e1]; exact q2 _ F2 H2 x3 rv
    | _ => exact q1.elim⟩
end
end DL

namespace DL
open PySem PySem.Spec L2

/-! ### raise -/
structure ExcP (K : PySem.W.Frag) (mg : Str → Option Value) (x : Str) (C : Addr) : Prop where
  g : mg x = some (.ref C)
  x : PySem.W.excIn K C [.type "ValueError", .type "Exception", .type "BaseException", .type "object"] "ValueError.__new__" = true
  k : PySem.W.keepIn K (.ref C) = true
  b : PySem.W.subIn K (.ref C) (.type "BaseException") = some true
  t : PySem.W.typeIn K (.ref C) = some (.type "type")
/-- what the __init__ of an exception with one field does -/
def spX (C : Addr) (fld : Str) : Sp := fun vs H Q _ => ∃ a v, vs = [.ref a, v] ∧ H a = some (exo a C none) ∧ ∀ d, H d = none → d ≠ a → Q .non (upd (upd H d (exd d [(fld, v)])) a (exo a C (some d)))
/-- reading an attribute of one's own class -/
structure BaseInit (K : PySem.W.Frag) (mg : Str → Option Value) (x : Str) (C : Addr) : Prop where
  g : mg x = some (.ref C)
  ga : PySem.W.specialIn K (.ref C) "__getattribute__" = some (some (.builtin "type.__getattribute__"))
  rd : PySem.W.readsIn K C (.type "type") = true
  at_ : PySem.W.findCls K (.ref C) (.type "type") "__init__" = some (.val (.builtin "ValueError.__init__"))

section
variable {X : Cx} {vol : Vol} {W : WX} {F0 H0 : Hp} {tg e a b c o : Expr} {es : List Expr} {f fa fb fc fo fk fv : EnvD → M Exn D} {fs : EnvD → M Exn (List D)} {pos apos p p1 p2 : Pos} {k n : Nat} {K : PySem.W.Frag} {x : Str} {d : D} {C fI : Addr} {fd : FuncData} {ps : List Str} {fld : Str}
/-- Base.__init__(self, ..), Base an own class over ValueError -/
theorem pe_baseinit {pl : Sem Bool} {ta : TA} (hg : Gl X x) (B : BaseInit X.K X.mg x C) (ha : PA X (e :: es) ta)
    (hc : eval (.Call (.Attribute (.Name x p1) "__init__" p2) (e :: es) [] pos) X.env = (do
      let ov ← eval (.Name x p1) X.env
      standAt p2.atName
      let (f, first) ← holding [ov] (getMethod ov "__init__" pl)
      callWith pos f first (backTo pos (starEach (e :: es) X.env)) (backToKw pos (keywordEach [] X.env))) := by rfl)
    (hd : (x == ("__debug__" : Str)) = false := by decide) (he : starEach (e :: es) X.env = (false, eval e X.env) :: starEach es X.env := by rfl) (hpl : (backTo pos (starEach es X.env)).any (·.1) = false := by rfl) :
    PE X (.Call (.Attribute (.Name x p1) "__init__" p2) (e :: es) [] pos) (tVeI X.K ta) := by
  refine ⟨fun pins s σ H Q I h => ?_⟩
  refine PySem.W.methodCall_KW (ld_glob I hg B.g ?_ hd) hc
  refine PySem.W.method_cls I.kIn B.ga (PySem.W.cls_value I.kIn B.rd B.at_ (by decide +kernel) ?_)
  show wpAny _ _ (callWith pos (Value.builtin "ValueError.__init__") [] (backTo pos (starEach (e :: es) X.env)) []) _ _ _
  refine PyProof.Rows.callWith_method1 (thn (ha.run pos pins _ σ H _ (I.tok _) h) fun us s1 ⟨vs, H1, I1, r1, a, C, ws, ev, hl, T, ea, q⟩ => ?_) he hpl
  subst ev
  cases r1 with
  | @cons _ u0 _ ur ra rw' =>
    obtain rfl : u0 = Value.ref a := ra
    have hlen : ur.length ≤ sizeLine := by
      rw [← Paired.length rw', sizeLine_eq]
      omega
    exact oinit_ok T I1 ea hlen fun s' J => ⟨.non, H1, J, rfl, q⟩
/-- raise X(e) of a class with one field -/
@[reducible] def raiseF (C : Addr) (fld : Str) (f : EnvD → M Exn D) : EnvD → MS := fun ρ => bnd (lft ρ (f ρ)) fun d => match flatD d with
  | some v => raise (⟨C, some (fld, v)⟩, ρ)
  | none => stuck
theorem ds_raiseF {W : WX} (g0 : Good vol F0 H0) (cx : Ctx X W k) (h2 : 2 ≤ k) (T : OexC X.K C) (iC : PySem.W.findIn X.K (.ref C) "__init__" = some (some (.ref fI))) (tI : PySem.W.typeIn X.K (.ref fI) = some (.type "function"))
    (F1 : FnOk X.prog X.w X.K X.mg X.base CX0 1 fI fd ps (spX C fld)) (hb : Binds X.K fd ps []) (hg : Gl X x) (hm : X.mg x = some (.ref C)) (he : DF X vol W e f)
    (hd : (x == ("__debug__" : Str)) = false := by decide) (hs : starEach [e] X.env = (false, eval e X.env) :: starEach [] X.env := by rfl) : DS X vol W F0 H0 (.Raise (some (.Call (.Name x p1) [e] [] p2)) none pos) (raiseF C fld f) :=
  ⟨(L2N.ps_raise cx.calm cx.tk (pmk_oexN T iC tI F1 (cx.room.mono h2) hb pass0 hg hm (pa_cons he.run pa_nil hs) hd hs rfl)).conseq fun Dn σ H ⟨F, ρ, s, q⟩ => go_f g0 s q fun d q1 v F1 H1 x1 s1 r1 => by
    replace q1 : (match flatD d with | some v => raise (⟨C, some (fld, v)⟩, ρ) | none => stuck : MS).run (OutP vol X.K F0 H0 Dn) (XS vol X.K W F0 H0) := q1
    cases hf : flatD d with
    | none => rw [hf] at q1; exact q1.elim
    | some w =>
      rw [hf] at q1
      obtain ⟨rfl, _⟩ := Rep.flat hf r1
      refine ⟨by show 1 ≤ 1000; decide, fun a ha => ?_⟩
      have e1 : ([v] ++ [] : List V) = [v] := rfl
      refine ⟨a, v, rfl, upd_same, fun dd hdd hne => ⟨rfl, dd, [(fld, v)], upd_same, by rw [upd_ne hne, upd_same], ?_, ?_⟩⟩
      · rw [upd_ne hne] at hdd; exact hdd
      · have hd1 : H1 dd = none := by rw [upd_ne hne] at hdd; exact hdd
        have eH : upd (L2.del (upd (upd (upd H1 a (exo a C none)) dd (exd dd [(fld, v)])) a (exo a C (some dd))) a) dd (.xd [(fld, v)]) = upd H1 dd (.xd [(fld, v)]) := by
          funext b
          by_cases hb : b = dd
          · rw [hb, upd_same, upd_same]
          · rw [upd_ne hb, upd_ne hb]
            by_cases hba : b = a
            · rw [hba, L2.del_same, ha]
            · rw [L2.del_ne hba, upd_ne hba, upd_ne hb, upd_ne hba]
        rw [eH]
        exact q1 (some dd) σ F1 _ (s1.ext g0 (s1.x.g.own hd1)) ⟨dd, rfl, upd_same⟩⟩
/-- raise X('..') -/
theorem ds_raiseP {m : Str} {j : Nat} {p3 : Pos} (g0 : Good vol F0 H0) (cx : Ctx X W k) (E : ExcP X.K X.mg x C) (hg : Gl X x) (hd : (x == ("__debug__" : Str)) = false := by decide) :
    DS X vol W F0 H0 (.Raise (some (.Call (.Name x p1) [.Constant (.str m) j p3] [] p2)) none pos) (fun ρ => raise (⟨C, none⟩, ρ)) :=
  ⟨(L2N.ps_raise cx.calm cx.tk (L2N.pmk_own PySem.F.excBase_ValueError E.x E.g E.k (raises_own E.b E.t) hg hd)).conseq fun Dn σ H ⟨F, ρ, s, q⟩ => q none σ F H s rfl⟩

/-! ### a, b = x, y -/
/-- how a value goes to a slot: frozen, or one's own -/
inductive Way where
  | im | own
@[reducible] def Way.slot : Way → D → SlotD
  | .im, d => .im d
  | .own, d => .own d
def Way.J (X : Cx) (vol : Vol) (W : WX) (e : Expr) (f : EnvD → M Exn D) : Way → Prop
  | .im => DF X vol W e f
  | .own => DN X vol W e f
def tPar3 (i j l : Nat) (ta : TA) : TS := fun D σ H => ta σ H fun vs H1 => ∃ u v w, vs = [u, v, w] ∧ D.nx (((σ.set i (some u)).set j (some v)).set l (some w)) H1
/-- a value of the way w, stored at once into the slots to be -/
theorem way_go {w : Way} (hw : w.J X vol W e f) : ∃ t : TE, PE X e t ∧ ∀ (F H F1 H1 : Hp) (σ σ1 : St) (ρ ρ1 : EnvD) (i : Nat) (Q : VK) (kk : D → Prop), Good vol F0 H0 → SRep vol X.K F0 H0 F1 H1 σ ρ → SRep vol X.K F0 H0 F1 H1 σ1 ρ1 → (lft ρ (f ρ)).run kk (XS vol X.K W F0 H0) →
    (∀ d, kk d → ∀ v F2 H2, Ext vol F1 H1 F2 H2 → SRep vol X.K F0 H0 F2 H2 σ ρ → SRep vol X.K F0 H0 F2 H2 (σ1.set i (some v)) (ρ1.set i (some (w.slot d))) → Q v H2) → t σ H1 Q := by
  cases w with
  | im => exact ⟨_, DF.run hw, fun F H F1 H1 σ σ1 ρ ρ1 i Q kk g0 s s1 q hk => go_f g0 s q fun d q1 v F2 H2 x2 s2 r2 => hk d q1 v F2 H2 x2 s2 ((s1.ext g0 x2).set i r2)⟩
  | own => exact ⟨_, DN.run hw, fun F H F1 H1 σ σ1 ρ ρ1 i Q kk g0 s s1 q hk => go_n g0 s q fun d q1 p F2 H2 x2 n r2 => hk d q1 (.ref p) F2 H2 x2 (s.ext g0 x2) (s1.setOwn g0 i x2 n r2)⟩
theorem ds_par {i j : Nat} {x y : Str} {px py pt : Pos} {kt k2 pt2} {w1 w2 : Way} (g0 : Good vol F0 H0) (cx : Ctx X W k) (hi : X.N[i]? = some x) (hj : X.N[j]? = some y) (hij : i ≠ j)
    (hx : X.env.scope.names.lookup x = some .local) (hy : X.env.scope.names.lookup y = some .local) (ha : w1.J X vol W a fa) (hb : w2.J X vol W b fb)
    (hw : swappedStores [.Tuple [.Name x px, .Name y py] kt pt] (.Tuple [a, b] k2 pt2) X.env = pure (some [x, y]))
    (hs : swapsWithSole [.Tuple [.Name x px, .Name y py] kt pt] (.Tuple [a, b] k2 pt2) pos.line X.env = pure false := by rfl)
    (s1 : starEach [a, b] X.env = (false, eval a X.env) :: starEach [b] X.env := by rfl) (s2 : starEach [b] X.env = (false, eval b X.env) :: starEach [] X.env := by rfl) :
    DS X vol W F0 H0 (.Assign [.Tuple [.Name x px, .Name y py] kt pt] (.Tuple [a, b] k2 pt2) pos) (fun ρ => bnd (lft ρ (fa ρ)) fun d => bnd (lft ρ (fb ρ)) fun d' => ret (.nx ((ρ.set i (some (w1.slot d))).set j (some (w2.slot d'))))) := by
  obtain ⟨ta, pa, ga⟩ := way_go (F0 := F0) (H0 := H0) ha
  obtain ⟨tb, pb, gb⟩ := way_go (F0 := F0) (H0 := H0) hb
  exact ⟨(ps_par cx.calm cx.nd hi hj hij hx hy (pa_cons pa (pa_cons pb pa_nil s2) s1) hw hs).conseq fun Dn σ H ⟨F, ρ, s, q⟩ =>
    ga F H F H σ σ ρ ρ i _ _ g0 s s q fun d q1 v F1 H1 x1 sA sB => gb F H F1 H1 σ _ ρ _ j _ _ g0 sA sB q1 fun d' q2 v' F2 H2 x2 sC sD => ⟨v, v', rfl, q2 _ F2 H2 sD⟩⟩
end

/-! ### the __init__ of an exception with one field -/
section
variable {P : Program} {w : World} {K : PySem.W.Frag} {mg : Str → Option Value} {base : Heap}
theorem excinit_ok {xb C f : Addr} {fd : FuncData} {qual fld par bn : Str} {m : Str} {st : Stmt} {args : Arguments} {sc : Scope} {p1 p2 p3 p4 p5 p6 p7 p8 p9 p10 : Pos} {j : Nat} {name : Str} (F : Fun K name qual st f fd) (S : FnScope ["self", par] ["self", par] (defScope st)) (T : OexC K C) (na : PySem.W.findIn K (.ref C) fld = some none) (B : BaseInit K mg bn xb)
    (hbody : ∀ (cdv : Value) (A : Around) (outer : List Env) (s : Shared) (H : Hp) (E : XK),
      ∃ t, PSs (cxOf CX0 P w K mg base ["self", par] qual (defScope st) f cdv A outer s H E).nox (defBody st) t ∧ t = tSeq (tDrop (tVeI K (tCons (tVar 0) (tCons (tC (.str m)) tNil)))) (tOst K fld (tVar 0) (tVar 1))) :
    FnOk P w K mg base CX0 1 f fd ["self", par] (spX C fld) := by
  refine F.ok S (fun vs H Q E h => ?_) (fun cdv A outer s H vs Q E hr h => ?_)
  · obtain ⟨a, v, rfl, _⟩ := h
    rfl
  · obtain ⟨t, h1, rfl⟩ := hbody cdv A outer s H E
    obtain ⟨a, v, rfl, ha, q⟩ := h
    refine ⟨_, h1, _, rfl, a, C, [.str m], rfl, (by show 1 ≤ 1000; decide), T, ha, ?_⟩
    exact ⟨_, rfl, _, rfl, a, C, rfl, T, na, .inl ⟨ha, fun dx hdx hne => q dx hdx hne⟩⟩
end

/-! ### short names for what a program prints -/
@[reducible] def setI (i : Nat) (f : EnvD → M Exn D) : EnvD → MS := fun ρ => bnd (lft ρ (f ρ)) fun d => ret (.nx (ρ.set i (some (.im d))))
@[reducible] def setO (i : Nat) (f : EnvD → M Exn D) : EnvD → MS := fun ρ => bnd (lft ρ (f ρ)) fun d => ret (.nx (ρ.set i (some (.own d))))
@[reducible] def retS (f : EnvD → M Exn D) : EnvD → MS := fun ρ => bnd (lft ρ (f ρ)) fun d => ret (.rt d)
@[reducible] def exprS (f : EnvD → M Exn D) : EnvD → MS := fun ρ => bnd (lft ρ (f ρ)) fun _ => ret (.nx ρ)
@[reducible] def ifS (t : EnvD → M Exn Bool) (g h : EnvD → MS) : EnvD → MS := fun ρ => bnd (lft ρ (t ρ)) fun q => if q = true then g ρ else h ρ
@[reducible] def nopS : EnvD → MS := fun ρ => ret (.nx ρ)
@[reducible] def raiseP (C : Addr) : EnvD → MS := fun ρ => raise (⟨C, none⟩, ρ)
@[reducible] def tupS (b : D → EnvD → Option EnvD) (f : EnvD → M Exn D) : EnvD → MS := fun ρ => bnd (lft ρ (f ρ)) fun d => match b d ρ with
  | some ρ' => ret (.nx ρ')
  | none => stuck
@[reducible] def parS (i j : Nat) (w1 w2 : Way) (fa fb : EnvD → M Exn D) : EnvD → MS := fun ρ => bnd (lft ρ (fa ρ)) fun d => bnd (lft ρ (fb ρ)) fun d' => ret (.nx ((ρ.set i (some (w1.slot d))).set j (some (w2.slot d'))))
@[reducible] def kc (d : D) : EnvD → M Exn D := fun _ => ret d
@[reducible] def nilA : EnvD → M Exn (List D) := fun _ => ret []
@[reducible] def ifD (t : EnvD → M Exn Bool) (a b : EnvD → M Exn D) : EnvD → M Exn D := fun ρ => bnd (t ρ) fun c => if c = true then a ρ else b ρ
@[reducible] def notV (f : EnvD → M Exn D) : EnvD → M Exn D := fun ρ => bnd (bnd (f ρ) asB) fun c => ret (.bl !c)
/-- the addresses of the classes -/
structure Cl where
  MarkError : Addr := 0
  BadRows : Addr := 0
  BadRest : Addr := 0
  BadText : Addr := 0
  Unled : Addr := 0
  BadRule : Addr := 0
  BadName : Addr := 0
  BadNumber : Addr := 0
  Unlike : Addr := 0
  BadPairs : Addr := 0
  Never : Addr := 0
  Nothing : Addr := 0
  Kind : Addr := 0
  Value : Addr := 0
  Reader : Addr := 0
  Rule : Addr := 0
  Edition : Addr := 0
  Pack : Addr := 0
  Book : Addr := 0
end DL

namespace DL
open PySem PySem.Spec L2

/-! ### the dice -/
def IsDice (H : Hp) (z : Addr) : Prop := ∃ i j : Int, H z = some (.lst [.int i, .int j])
def volD (z : Addr) : Vol where
  z := fun _ => z
  Z := fun a => a = z
  I := fun H => IsDice H z
  has := fun H ⟨i, j, e⟩ a ha => ⟨.lst [.int i, .int j], by rw [ha]; exact e⟩
  up := fun H H' s ⟨i, j, e⟩ => ⟨i, j, s _ _ e⟩
  wr := fun H p o ⟨i, j, e⟩ hn _ => ⟨i, j, by rw [upd_ne (fun z => hn z.symm)]; exact e⟩
/-- what a def promises whose first argument is the dice -/
def spZ (K : PySem.W.Frag) (n : Nat) (m : List D → M Exn D) : Sp := fun vs H Q E =>
  ∃ z F ds ws, vs = .ref z :: ws ∧ ds.length = n ∧ Good (volD z) F H ∧ RepL K F ds ws ∧ (m ds).run (VF (volD z) K F H Q) (EXd (volD z) E F H)
/-- a volatile part that has the dice at its first place -/
structure HasDice (vol : Vol) : Prop where
  le : VLe (volD (vol.z 0)) vol
theorem HasDice.dice (z : Addr) : HasDice (volD z) := ⟨show VLe (volD z) (volD z) from VLe.refl _⟩

section
variable {X : Cx} {vol v : Vol} {W : WX} {F0 H0 : Hp} {tg e a b c o : Expr} {es : List Expr} {f fa fb fc fo fk fv : EnvD → M Exn D} {fs : EnvD → M Exn (List D)} {pos apos p p1 p2 : Pos} {k n i : Nat} {K : PySem.W.Frag} {x y : Str} {d : D} {C fI : Addr} {fd : FuncData} {ps : List Str} {fld : Str} {g : Addr} {m : List D → M Exn D}
def callZ (i : Nat) (fs : EnvD → M Exn (List D)) (m : List D → M Exn D) : EnvD → M Exn D := fun ρ => match ρ[i]? with
  | some (some (.vz 0)) => bnd (fs ρ) m
  | _ => stuck
theorem df_callZ {pz : Pos} (F : FnOk X.prog X.w X.K X.mg X.base (L2N.CX X.prog X.w) k g fd ps (spZ X.K n m)) (hv : HasDice vol) (cx : Ctx X W k) (hg : Gl X x) (hm : X.mg x = some (.ref g)) (hk : PySem.W.keepIn X.K (.ref g) = true) (hb : Binds X.K fd ps [])
    (hz : PE X (.Name y pz) (tVar i)) (ha : AF X vol W es fs) (hd : (x == ("__debug__" : Str)) = false := by decide) (hs : starEach (.Name y pz :: es) X.env = (false, eval (.Name y pz) X.env) :: starEach es X.env := by rfl) (hpl : (backTo pos (starEach es X.env)).any (·.1) = false := by rfl) : DF X vol W (.Call (.Name x p) (.Name y pz :: es) [] pos) (callZ i fs (ofN n m)) :=
  ⟨(pe_callS F cx.room hg hm hk hb (fun σ => L2N.passAt cx.tk σ) (pa_cons hz ha.run hs) hd hs hpl).conseq fun σ H Q ⟨F0, ρ, G, E, q⟩ => by
    unfold callZ at q
    split at q
    · rename_i e0
      refine ⟨_, E.vz _ _ e0, tAF.go G E q fun ds q1 vs F1 H1 x1 r1 => ?_⟩
      obtain ⟨hl, q1⟩ := ofN_run q1
      have le := hv.le
      exact ⟨vol.z 0, F1, ds, vs, rfl, hl, le.good _ _ x1.g, r1, (m ds).mono _ _ _ _ (fun d h u F' H' x2 ru => h u F' H' (x1.trans G (le.ext _ _ _ _ x1.g x2)) ru) (fun y h dd F' H' x2 xr => h dd F' H' (x1.trans G (le.ext _ _ _ _ x1.g x2)) xr) q1⟩
    · exact q.elim⟩

/-! ### a, b, .. = x, y, .. by a tuple -/
theorem ds_parT {i j : Nat} {px py pt : Pos} {kt k2 pt2} {w1 w2 : Way} (g0 : Good vol F0 H0) (cx : Ctx X W k) (hg1 : PG X (.Name x px) (gName i)) (hg2 : PG X (.Name y py) (gName j)) (ha : w1.J X vol W a fa) (hb : w2.J X vol W b fb)
    (hs : swapsWithSole [.Tuple [.Name x px, .Name y py] kt pt] (.Tuple [a, b] k2 pt2) pos.line X.env = pure false := by rfl) (hw : swappedStores [.Tuple [.Name x px, .Name y py] kt pt] (.Tuple [a, b] k2 pt2) X.env = pure none := by rfl)
    (h1 : (assignEach [.Tuple [.Name x px, .Name y py] kt pt] X.env).map (·.2) = [assign (.Tuple [.Name x px, .Name y py] kt pt) X.env] := by rfl) (hn : (assignEach [.Name x px, .Name y py] X.env).length = 2 := by rfl) (hst : (assignEach [.Name x px, .Name y py] X.env).findIdx? (·.1) = none := by rfl)
    (q1 : (assignEach [.Name x px, .Name y py] X.env).map (·.2) = assign (.Name x px) X.env :: (assignEach [.Name y py] X.env).map (·.2) := by rfl) (q2 : (assignEach [.Name y py] X.env).map (·.2) = assign (.Name y py) X.env :: (assignEach [] X.env).map (·.2) := by rfl)
    (s1 : starEach [a, b] X.env = (false, eval a X.env) :: starEach [b] X.env := by rfl) (s2 : starEach [b] X.env = (false, eval b X.env) :: starEach [] X.env := by rfl) :
    DS X vol W F0 H0 (.Assign [.Tuple [.Name x px, .Name y py] kt pt] (.Tuple [a, b] k2 pt2) pos) (parS i j w1 w2 fa fb) := by
  obtain ⟨ta, pa, ga⟩ := way_go (F0 := F0) (H0 := H0) ha
  obtain ⟨tb, pb, gb⟩ := way_go (F0 := F0) (H0 := H0) hb
  exact ⟨(ps_asg (pe_tup (pa_cons pa (pa_cons pb pa_nil s2) s1)) (pg_tup cx.calm (pgs_cons hg1 (pgs_cons hg2 pgs_nil q2) q1) hn hst) hs hw h1).conseq fun Dn σ H ⟨F, ρ, s, q⟩ =>
    ga F H F H σ σ ρ ρ i _ _ g0 s s q fun d q1 v F1 H1 x1 sA sB => gb F H F1 H1 σ _ ρ _ j _ _ g0 sA sB q1 fun d' q2 v' F2 H2 x2 sC sD =>
      ⟨by show 2 ≤ sizeLine; decide, fun p hp => ⟨p, [v, v'], rfl, SqT.of upd_same, rfl, v, [v'], rfl, v', [], rfl, rfl, q2 _ F2 _ (sD.ext g0 (sD.x.g.own hp))⟩⟩⟩
theorem ds_parT3 {i j l : Nat} {z : Str} {px py pz pt : Pos} {kt k2 pt2} {w1 w2 w3 : Way} (g0 : Good vol F0 H0) (cx : Ctx X W k) (hg1 : PG X (.Name x px) (gName i)) (hg2 : PG X (.Name y py) (gName j)) (hg3 : PG X (.Name z pz) (gName l)) (ha : w1.J X vol W a fa) (hb : w2.J X vol W b fb) (hc : w3.J X vol W c fc)
    (hs : swapsWithSole [.Tuple [.Name x px, .Name y py, .Name z pz] kt pt] (.Tuple [a, b, c] k2 pt2) pos.line X.env = pure false := by rfl) (hw : swappedStores [.Tuple [.Name x px, .Name y py, .Name z pz] kt pt] (.Tuple [a, b, c] k2 pt2) X.env = pure none := by rfl)
    (h1 : (assignEach [.Tuple [.Name x px, .Name y py, .Name z pz] kt pt] X.env).map (·.2) = [assign (.Tuple [.Name x px, .Name y py, .Name z pz] kt pt) X.env] := by rfl) (hn : (assignEach [.Name x px, .Name y py, .Name z pz] X.env).length = 3 := by rfl) (hst : (assignEach [.Name x px, .Name y py, .Name z pz] X.env).findIdx? (·.1) = none := by rfl)
    (q1 : (assignEach [.Name x px, .Name y py, .Name z pz] X.env).map (·.2) = assign (.Name x px) X.env :: (assignEach [.Name y py, .Name z pz] X.env).map (·.2) := by rfl) (q2 : (assignEach [.Name y py, .Name z pz] X.env).map (·.2) = assign (.Name y py) X.env :: (assignEach [.Name z pz] X.env).map (·.2) := by rfl) (q3 : (assignEach [.Name z pz] X.env).map (·.2) = assign (.Name z pz) X.env :: (assignEach [] X.env).map (·.2) := by rfl)
    (s1 : starEach [a, b, c] X.env = (false, eval a X.env) :: starEach [b, c] X.env := by rfl) (s2 : starEach [b, c] X.env = (false, eval b X.env) :: starEach [c] X.env := by rfl) (s3 : starEach [c] X.env = (false, eval c X.env) :: starEach [] X.env := by rfl) :
    DS X vol W F0 H0 (.Assign [.Tuple [.Name x px, .Name y py, .Name z pz] kt pt] (.Tuple [a, b, c] k2 pt2) pos) (fun ρ => bnd (lft ρ (fa ρ)) fun d => bnd (lft ρ (fb ρ)) fun d' => bnd (lft ρ (fc ρ)) fun d'' => ret (.nx (((ρ.set i (some (w1.slot d))).set j (some (w2.slot d'))).set l (some (w3.slot d''))))) := by
  obtain ⟨ta, pa, ga⟩ := way_go (F0 := F0) (H0 := H0) ha
  obtain ⟨tb, pb, gb⟩ := way_go (F0 := F0) (H0 := H0) hb
  obtain ⟨tc, pc, gc⟩ := way_go (F0 := F0) (H0 := H0) hc
  exact ⟨(ps_asg (pe_tup (pa_cons pa (pa_cons pb (pa_cons pc pa_nil s3) s2) s1)) (pg_tup cx.calm (pgs_cons hg1 (pgs_cons hg2 (pgs_cons hg3 pgs_nil q3) q2) q1) hn hst) hs hw h1).conseq fun Dn σ H ⟨F, ρ, s, q⟩ =>
    ga F H F H σ σ ρ ρ i _ _ g0 s s q fun d q1 v F1 H1 x1 sA sB => gb F H F1 H1 σ _ ρ _ j _ _ g0 sA sB q1 fun d' q2 v' F2 H2 x2 sC sD => gc F H F2 H2 σ _ ρ _ l _ _ g0 sC sD q2 fun d'' q3 v'' F3 H3 x3 sE sF =>
      ⟨by show 3 ≤ sizeLine; decide, fun p hp => ⟨p, [v, v', v''], rfl, SqT.of upd_same, rfl, v, [v', v''], rfl, v', [v''], rfl, v'', [], rfl, rfl, q3 _ F3 _ (sF.ext g0 (sF.x.g.own hp))⟩⟩⟩

/-! ### a loop over a list of one's own that is not changed within -/
def pin (vol : Vol) (n : Nat) (p : Addr) (vs : List V) : Vol where
  z := fun m => if m = n then p else vol.z m
  Z := fun a => vol.Z a ∨ a = p
  I := fun H => vol.I H ∧ H p = some (.lst vs)
  has := fun H h a ha => by
    rcases ha with ha | ha
    · exact vol.has H h.1 a ha
    · exact ⟨.lst vs, by rw [ha]; exact h.2⟩
  up := fun H H' s h => ⟨vol.up H H' s h.1, s _ _ h.2⟩
  wr := fun H q o h hn ho => ⟨vol.wr H q o h.1 (fun z => hn (.inl z)) ho, by rw [upd_ne (fun z => hn (.inr z.symm))]; exact h.2⟩
def noVz (n : Nat) (ρ : EnvD) : Bool := ρ.all fun c => match c with
  | some (.vz m) => decide (m ≠ n)
  | _ => true
theorem noVz_at {n : Nat} {ρ : EnvD} (h : noVz n ρ = true) {i m : Nat} (e : ρ[i]? = some (some (.vz m))) : m ≠ n := by
  have := List.all_eq_true.mp h _ (List.mem_of_getElem? e)
  simpa using this
def isVz (n : Nat) : Option (Option SlotD) → Bool
  | some (some (.vz m)) => decide (m = n)
  | _ => false
theorem isVz_eq {n : Nat} {c : Option (Option SlotD)} (h : isVz n c = true) : c = some (some (.vz n)) := by
  unfold isVz at h
  split at h
  · simp at h; rw [h]
  · cases h
@[reducible] def noXS (m : MS) : MS := ⟨fun k _ => m.run k (fun _ => False), fun k k' e e' h _ x => m.mono _ _ _ _ h (fun _ z => z) x⟩
def endPin (j n : Nat) (ds : List D) : Out → MS
  | .nx ρ' => if isVz n ρ'[j]? = true ∧ noVz n (ρ'.set j none) = true then ret (.nx (ρ'.set j (some (.own (.lst ds))))) else stuck
  | .rt d => ret (.rt d)
  | _ => stuck
def forPin (j n : Nat) (b : D → EnvD → Option EnvD) (g : EnvD → MS) : EnvD → MS := fun ρ => match ρ[j]? with
  | some (some (.own (.lst ds))) => if noVz n ρ = true then bnd (noXS (forM b g ds (ρ.set j (some (.vz n))))) (endPin j n ds) else stuck
  | _ => stuck
theorem ds_forPin {sts : List Stmt} {gg : EnvD → MS} {bb : D → EnvD → Option EnvD} {pz : Pos} (j n : Nat) (g0 : Good vol F0 H0) (cx : Ctx X W k) (hz : PE X (.Name y pz) (tVar j))
    (hg : ∀ vol F0 H0, TGt X vol F0 H0 tg bb) (hb : ∀ p vs F0 H0, Good (pin vol n p vs) F0 H0 → DSs X (pin vol n p vs) W F0 H0 sts gg) (hs : ∀ x, foldedSetIterable (.Name y pz) X.env x = pure x := by intro _; rfl) : DS X vol W F0 H0 (.For tg (.Name y pz) sts [] pos) (forPin j n bb gg) := by
  have PB : PSs X sts (fun Dn σ H => ∃ p vs F0 H0, Good (pin vol n p vs) F0 H0 ∧ tS (pin vol n p vs) X.K W F0 H0 gg Dn σ H) := ⟨fun pins s σ H Dn I ⟨p, vs, F0, H0, g', h⟩ => (hb p vs F0 H0 g').run.run pins s σ H Dn I h⟩
  have PT : PG X tg (fun v σ H Q => ∃ vol F0 H0, tGS vol X.K F0 H0 bb v σ H Q) := ⟨fun pins s σ H v u Q I r ⟨vol, F0, H0, h⟩ => (hg vol F0 H0).run.run pins s σ H v u Q I r h⟩
  refine ⟨(ps_for cx.ps cx.calm (pi_list hz) PT PB hs).conseq fun Dn σ H ⟨F, ρ, s, q⟩ => ?_⟩
  unfold forPin at q
  split at q
  · rename_i ds e0
    split at q
    · rename_i hnv
      obtain ⟨p, hp, ow, n0⟩ := s.addr e0
      obtain ⟨zl, vs, hv, rv⟩ := id ow.rep
      have hj : j < ρ.length := (List.getElem?_eq_some_iff.mp e0).1
      -- into the pinned state
      have gp : ∀ F2 H2, Good vol F2 H2 → F2 p = none → H2 p = some (.lst vs) → Good (pin vol n p vs) F2 H2 := fun F2 H2 g z1 z2 => ⟨g.sub, fun a ha => by
        rcases ha with ha | ha
        · exact g.nz a ha
        · rw [ha]; exact z1, g.vi, z2⟩
      obtain ⟨gJ, sJ, xJ, ssJ⟩ := s.deep g0
      have pJ : joinH F H0 p = none := joinH_none.mpr ⟨ow.nF, n0⟩
      -- the entry for the loop: the list stands there, too
      have getS : ∀ (c : Option SlotD) (i : Nat) (c' : Option SlotD), (ρ.set j c)[i]? = some c' → (j = i ∧ c' = c) ∨ (j ≠ i ∧ ρ[i]? = some c') := fun c i c' e => by
        by_cases q : j = i
        · subst q
          rw [List.getElem?_set_self hj] at e; cases e; exact .inl ⟨rfl, rfl⟩
        · rw [List.getElem?_set_ne q] at e
          exact .inr ⟨q, e⟩
      have HpE : Good (pin vol n p vs) F (upd (joinH F H0) p (.lst vs)) := by
        refine gp _ _ ⟨fun a o e => ?_, gJ.nz, ?_⟩ ow.nF upd_same
        · rw [upd_ne (fun z => by rw [z, ow.nF] at e; cases e)]; exact gJ.sub _ _ e
        · exact vol.up _ _ (fun a o e => by rw [upd_ne (ne_of_none e pJ)]; exact e) gJ.vi
      have sP : SRep (pin vol n p vs) X.K F (upd (joinH F H0) p (.lst vs)) F H σ (ρ.set j (some (.vz n))) := by
        refine ⟨⟨gp _ _ s.x.g ow.nF hv, Same.refl _, fun a o e z => ?_, fun a o e z => z⟩, ⟨by simp [s.r.len], fun i d e => ?_, fun i d e => ?_, fun i m e => ?_⟩, fun i d e => ?_, fun i l d1 d2 r e1 e2 z1 z2 => ?_⟩
        · rw [upd_ne (fun y => z (.inr y))] at e
          exact sJ.x.sH a o e (fun y => z (.inl y))
        · rcases getS _ i _ e with ⟨_, q⟩ | ⟨_, e⟩
          · cases q
          · exact s.r.im i d e
        · rcases getS _ i _ e with ⟨_, q⟩ | ⟨qi, e⟩
          · cases q
          · obtain ⟨pi, z1, z2⟩ := s.r.own i d e
            exact ⟨pi, z1, z2.nF, fun z => by
              rcases z with z | z
              · exact z2.nZ z
              · subst z; exact qi (s.inj j i _ d pi e0 e hp z1), z2.rep⟩
        · rcases getS _ i _ e with ⟨rfl, q⟩ | ⟨_, e⟩
          · cases q
            show σ[j]? = some (some (.ref (if n = n then p else vol.z n)))
            rw [if_pos rfl]; exact hp
          · have hm := noVz_at hnv e
            show σ[i]? = some (some (.ref (if m = n then p else vol.z m)))
            rw [if_neg hm]; exact s.r.vz i m e
        · rcases getS _ i _ e with ⟨_, q⟩ | ⟨qi, e⟩
          · cases q
          · obtain ⟨pi, z1, z2, z3⟩ := s.addr e
            have npi : pi ≠ p := fun z => by subst z; exact qi (s.inj j i _ d pi e0 e hp z1)
            exact ⟨pi, z1, by rw [upd_ne npi]; exact joinH_none.mpr ⟨z2.nF, z3⟩⟩
        · rcases getS _ i _ e1 with ⟨_, q⟩ | ⟨_, e1⟩
          · cases q
          · rcases getS _ l _ e2 with ⟨_, q⟩ | ⟨_, e2⟩
            · cases q
            · exact s.inj i l d1 d2 r e1 e2 z1 z2
      -- out of the pinned state
      have xOut : ∀ F' H', Ext (pin vol n p vs) F (upd (joinH F H0) p (.lst vs)) F' H' → Ext vol F0 H0 F' H' := fun F' H' x => by
        refine xJ _ _ ⟨⟨x.g.sub, fun a ha => x.g.nz a (.inl ha), x.g.vi.1⟩, x.sF, fun a o e z => ?_, fun a o e z => ?_⟩
        · have na : a ≠ p := ne_of_none e pJ
          exact x.sH a o (by rw [upd_ne na]; exact e) (fun y => y.elim z na)
        · have na : a ≠ p := ne_of_none e pJ
          exact x.nw a o (by rw [upd_ne na]; exact e) z
      have sOut : ∀ F' H' σ' ρ', SRep (pin vol n p vs) X.K F (upd (joinH F H0) p (.lst vs)) F' H' σ' ρ' → isVz n ρ'[j]? = true → noVz n (ρ'.set j none) = true → SRep vol X.K F0 H0 F' H' σ' (ρ'.set j (some (.own (.lst ds)))) := fun F' H' σ' ρ' s' h1 h2 => by
        have hv1 := isVz_eq h1
        have hj' : j < ρ'.length := (List.getElem?_eq_some_iff.mp hv1).1
        have get' : ∀ (c : Option SlotD) (i : Nat) (c' : Option SlotD), (ρ'.set j c)[i]? = some c' → (j = i ∧ c' = c) ∨ (j ≠ i ∧ ρ'[i]? = some c') := fun c i c' e => by
          by_cases q : j = i
          · subst q
            rw [List.getElem?_set_self hj'] at e; cases e; exact .inl ⟨rfl, rfl⟩
          · rw [List.getElem?_set_ne q] at e
            exact .inr ⟨q, e⟩
        have hp' : σ'[j]? = some (some (.ref p)) := by
          have := s'.r.vz j n hv1
          rw [show (pin vol n p vs).z n = p from if_pos rfl] at this
          exact this
        have ow' : OwnAt vol X.K F' H' p (.lst ds) := ⟨s'.x.g.nz p (.inr rfl), ow.nZ, zl, vs, s'.x.g.vi.2, RepL.up s'.x.sF _ _ rv⟩
        have apart : ∀ (i : Nat) (d : D) (pi : Addr), ρ'[i]? = some (some (.own d)) → σ'[i]? = some (some (.ref pi)) → pi ≠ p := fun i d pi e z1 z => by
          obtain ⟨pi', y1, y2⟩ := s'.r.own i d e
          rw [z1] at y1; cases y1
          exact y2.nZ (.inr z)
        refine ⟨xOut _ _ s'.x, ⟨by simp [s'.r.len], fun i d e => ?_, fun i d e => ?_, fun i m e => ?_⟩, fun i d e => ?_, fun i l d1 d2 r e1 e2 z1 z2 => ?_⟩
        · rcases get' _ i _ e with ⟨_, q⟩ | ⟨_, e⟩
          · cases q
          · exact s'.r.im i d e
        · rcases get' _ i _ e with ⟨rfl, q⟩ | ⟨_, e⟩
          · cases q; exact ⟨p, hp', ow'⟩
          · obtain ⟨pi, z1, z2⟩ := s'.r.own i d e
            exact ⟨pi, z1, z2.nF, fun z => z2.nZ (.inl z), z2.rep⟩
        · rcases get' _ i _ e with ⟨_, q⟩ | ⟨qi, e⟩
          · cases q
          · have hm := noVz_at h2 (i := i) (m := m) (by rw [List.getElem?_set_ne qi]; exact e)
            have := s'.r.vz i m e
            rw [show (pin vol n p vs).z m = vol.z m from if_neg hm] at this
            exact this
        · rcases get' _ i _ e with ⟨rfl, q⟩ | ⟨_, e⟩
          · exact ⟨p, hp', n0⟩
          · obtain ⟨pi, z1, z2⟩ := s'.new i d e
            have npi := apart i d pi e z1
            rw [upd_ne npi] at z2
            exact ⟨pi, z1, (joinH_none.mp z2).2⟩
        · rcases get' _ i _ e1 with ⟨rfl, q1⟩ | ⟨q1, e1⟩
          · rcases get' _ l _ e2 with ⟨rfl, _⟩ | ⟨q2, e2⟩
            · rfl
            · rw [hp'] at z1; cases z1
              exact absurd rfl (apart l d2 p e2 z2)
          · rcases get' _ l _ e2 with ⟨rfl, q2⟩ | ⟨q2, e2⟩
            · rw [hp'] at z2; cases z2
              exact absurd rfl (apart i d1 p e1 z1)
            · exact s'.inj i l d1 d2 r e1 e2 z1 z2
      have nxOut : ∀ F' H' σ' ρ', SRep (pin vol n p vs) X.K F (upd (joinH F H0) p (.lst vs)) F' H' σ' ρ' → (endPin j n ds (.nx ρ')).run (OutP vol X.K F0 H0 Dn) (XS vol X.K W F0 H0) → Dn.nx σ' H' := fun F' H' σ' ρ' s' h => by
        replace h : (if isVz n ρ'[j]? = true ∧ noVz n (ρ'.set j none) = true then ret (.nx (ρ'.set j (some (.own (.lst ds))))) else stuck : MS).run (OutP vol X.K F0 H0 Dn) (XS vol X.K W F0 H0) := h
        split at h
        · rename_i hc
          exact h σ' F' H' (sOut _ _ _ _ s' hc.1 hc.2)
        · exact h.elim
      refine ⟨_, hp, p, rfl, ⟨vs, SqL.of hv⟩, ?_⟩
      refine ⟨fun i m σ H => m = ds.length - i ∧ i ≤ ds.length ∧ ∃ F' ρ', SRep (pin vol n p vs) X.K F (upd (joinH F H0) p (.lst vs)) F' H σ ρ' ∧ (forM bb gg (ds.drop i) ρ').run (fun o => (endPin j n ds o).run (OutP vol X.K F0 H0 Dn) (XS vol X.K W F0 H0)) (fun _ => False), ⟨ds.length, by simp, Nat.zero_le _, F, _, sP, q⟩, ?_⟩
      rintro i m σ H ⟨rfl, hil, F', ρ', s', q⟩
      have hvp := s'.x.g.vi.2
      have rv' := RepL.up s'.x.sF _ _ rv
      by_cases hlt : i < ds.length
      · right
        have ed : ds[i]? = some ds[i] := List.getElem?_eq_getElem hlt
        obtain ⟨v, ev, rvi⟩ := rv'.get ed
        rw [List.drop_eq_getElem_cons hlt] at q
        refine ⟨⟨vs, v, SqL.of hvp, ev⟩, fun σ H => i + 1 ≤ ds.length ∧ ∃ F' ρ', SRep (pin vol n p vs) X.K F (upd (joinH F H0) p (.lst vs)) F' H σ ρ' ∧ (forM bb gg (ds.drop (i + 1)) ρ').run (fun o => (endPin j n ds o).run (OutP vol X.K F0 H0 Dn) (XS vol X.K W F0 H0)) (fun _ => False), fun σ' H' h => ⟨ds.length - (i + 1), by omega, rfl, h.1, h.2⟩, fun x H3 ⟨e3, hx⟩ => ?_⟩
        subst e3
        have ex := hx vs (SqL.of hvp)
        rw [ev] at ex; cases ex
        replace q : (match bb ds[i] ρ' with | none => stuck | some ρ' => bnd (gg ρ') fun o => match o with | .nx ρ' => forM bb gg (ds.drop (i + 1)) ρ' | .ct ρ' => forM bb gg (ds.drop (i + 1)) ρ' | .bk ρ' => ret (.nx ρ') | .rt d => ret (.rt d) : MS).run (fun o => (endPin j n ds o).run (OutP vol X.K F0 H0 Dn) (XS vol X.K W F0 H0)) (fun _ => False) := q
        cases eb : bb ds[i] ρ' with
        | none => rw [eb] at q; exact q.elim
        | some ρ2 =>
          rw [eb] at q
          refine ⟨pin vol n p vs, F, _, F', ρ', _, ρ2, s', rvi, eb, fun σ2 s2 => ⟨p, vs, F, _, HpE, F', ρ2, s2, (gg ρ2).mono _ _ _ _ (fun o q4 => ?_) (fun y z => z.elim) q⟩⟩
          cases o with
          | nx ρ4 => exact fun σ4 F4 H4 s4 => ⟨by omega, F4, ρ4, s4, q4⟩
          | ct ρ4 => exact fun σ4 F4 H4 s4 => ⟨by omega, F4, ρ4, s4, q4⟩
          | bk ρ4 => exact fun σ4 F4 H4 s4 => nxOut F4 H4 σ4 ρ4 s4 q4
          | rt d => exact fun v F4 H4 x r => q4 v F4 H4 (xOut _ _ x) r
      · have ei : i = ds.length := by omega
        subst ei
        rw [List.drop_length] at q
        exact .inl ⟨⟨vs, SqL.of hvp, Nat.le_of_eq rv.length⟩, nxOut F' H σ ρ' s' q⟩
    · exact q.elim
  · exact q.elim

/-! ### a dict, displayed -/
structure DPs (X : Cx) (vol : Vol) (W : WX) (pos : Pos) (keys : List (Option Expr)) (values : List Expr) (f : EnvD → M Exn (List (Key × D))) : Prop where
  run : ∃ trs, PPs X pos keys values trs ∧ ∀ σ H Q, (∃ F ρ, Good vol F H ∧ ERep vol X.K F H σ ρ ∧ (f ρ).run (fun kvs => ∀ ws F' H', Ext vol F H F' H' → RepK X.K F' kvs ws → Q (ws.map fun kv => (kV kv.1, kv.2)) H') (EX vol W σ F H)) → tPairs trs σ H Q
@[reducible] def nilP : EnvD → M Exn (List (Key × D)) := fun _ => ret []
@[reducible] def consP (key : Key) (fv : EnvD → M Exn D) (fr : EnvD → M Exn (List (Key × D))) : EnvD → M Exn (List (Key × D)) := fun ρ => bnd (fv ρ) fun d => bnd (fr ρ) fun r => ret ((key, d) :: r)
theorem dps_nil : DPs X vol W pos [] [] nilP := ⟨[], pps_nil, fun σ H Q ⟨F, ρ, G, E, q⟩ => q [] F H G.ext rfl⟩
theorem dps_cons {key : Key} {ke : Expr} {ks : List (Option Expr)} {vs : List Expr} {fr : EnvD → M Exn (List (Key × D))} (hk : PE X ke (tC (kV key))) (hv : DF X vol W e fv) (hr : DPs X vol W pos ks vs fr) : DPs X vol W pos (some ke :: ks) (e :: vs) (consP key fv fr) := by
  obtain ⟨trs, h1, h2⟩ := hr.run
  refine ⟨_, pps_cons hk hv.run h1, fun σ H Q ⟨F, ρ, G, E, q⟩ => ?_⟩
  refine tD.go G E q fun d q1 v F1 H1 x1 r1 => ?_
  refine h2 σ H1 _ ⟨F1, ρ, x1.g, E.ext x1, MonoEX G x1 q1 fun kvs q2 ws F2 H2 x2 r2 => ?_⟩
  exact q2 ((key, v) :: ws) F2 H2 (x1.trans G x2) ⟨v, ws, rfl, Rep.up x2.sF _ _ r1, r2⟩
@[reducible] def dispD (fp : EnvD → M Exn (List (Key × D))) : EnvD → M Exn D := fun ρ => bnd (fp ρ) fun kvs => if kvs.length ≤ 15 then ret (.dct (mergeD [] kvs)) else stuck
theorem RepK.len' {F : Hp} {kvs : List (Key × D)} {ws : List (Key × V)} (r : RepK K F kvs ws) : ws.length = kvs.length := r.length
theorem dn_disp {ks : List (Option Expr)} {vs : List Expr} {fp : EnvD → M Exn (List (Key × D))} (h : DPs X vol W pos ks vs fp) (hall : ks.all (·.isSome) = true := by rfl) (hl : ks.length = vs.length := by rfl) (h0 : ks ≠ [] := by exact (fun z => nomatch z)) (h15 : ks.length ≤ 15 := by decide) : DN X vol W (.Dict ks vs pos) (dispD fp) := by
  obtain ⟨trs, h1, h2⟩ := h.run
  refine ⟨(pe_disp h1 hall hl h0 h15).conseq fun σ H Q ⟨F, ρ, G, E, q⟩ p hp => ?_⟩
  have x0 := G.own (o := .dK []) hp
  refine h2 σ _ _ ⟨F, ρ, x0.g, E.ext x0, MonoEX G x0 q fun kvs q1 ws F2 H2 x2 r2 => ?_⟩
  have nF := G.fF hp
  have nZ := G.fZ hp
  have e2 : H2 p = some (.dK []) := x2.sH p _ upd_same nZ
  have nF2 : F2 p = none := x2.nw p _ upd_same nF
  refine ⟨e2, ws, rfl, ?_⟩
  replace q1 : (if kvs.length ≤ 15 then ret (.dct (mergeD [] kvs)) else stuck : M Exn D).run (VN vol X.K F H Q) (EX vol W σ F H) := q1
  by_cases hz : kvs.length ≤ 15
  · rw [if_pos hz] at q1
    refine ⟨by rw [r2.length]; exact hz, ?_⟩
    have x02 := x0.trans G x2
    refine q1 p F2 _ ⟨⟨fun a o e => by rw [upd_ne (fun z => by rw [z, nF2] at e; cases e)]; exact x02.g.sub _ _ e, x02.g.nz, vol.wr _ _ _ x02.g.vi nZ (by rw [e2]; trivial)⟩, x02.sF, fun a o e z => by rw [upd_ne (ne_of_none e hp)]; exact x02.sH a o e z, x02.nw⟩ hp ⟨nF2, nZ, ?_, _, upd_same, mergeD_rep r2 rfl⟩
    have := mergeD_len kvs []
    simp only [List.length_nil] at this
    have h16 : 15 ≤ sizeLine := by decide
    omega
  · rw [if_neg hz] at q1; exact q1.elim

/-! ### max(list of ints, default=i) -/
def maxI : Int → List Int → Int
  | m, [] => m
  | m, j :: r => maxI (if m < j then j else m) r
def maxD : D → D → M Exn D
  | .lst ds, .int i => match intsOf ds with
    | some [] => ret (.int i)
    | some (j :: r) => ret (.int (maxI j r))
    | none => stuck
  | _, _ => stuck
theorem maxI_fold (m : Int) (r : List Int) : PySem.W.maxOf m r = maxI m r := by
  unfold PySem.W.maxOf
  induction r generalizing m with
  | nil => rfl
  | cons j r ih =>
    rw [List.foldl_cons, ih]
    show maxI (if decide (m < j) = true then j else m) r = maxI (if m < j then j else m) r
    by_cases h : m < j <;> simp [h]
end
end DL

namespace DL
open PySem PySem.Spec L2
section
variable {X : Cx} {vol v : Vol} {W : WX} {F0 H0 : Hp} {tg e a b c o : Expr} {es : List Expr} {f fa fb fc fo fk fv : EnvD → M Exn D} {fs : EnvD → M Exn (List D)} {pos apos p p1 p2 kpos : Pos} {k n i : Nat} {K : PySem.W.Frag} {x y : Str} {d : D} {C fI : Addr} {fd : FuncData} {ps : List Str} {fld : Str} {g : Addr} {m : List D → M Exn D}
def maxL : List Int → Int → Int
  | [], i => i
  | j :: r, _ => maxI j r
theorem holds_int {h : Heap} {v : Value} {i : Int} (H : PySem.W.Holds h v i) : ∃ t, v = .int i t := by
  obtain ⟨as, r⟩ := H
  cases r
  exact ⟨_, rfl⟩
theorem cr_maxDef (hc : X.calm = true) (hr : Room k X.A) : CallRK X (.builtin "max") [Str.ofString "default"] (fun xs zs H Q => ∃ (a : Addr) (ns : List Int) (i : Int), xs = [V.ref a] ∧ zs = [V.int i] ∧ SqL X.K H a (ns.map V.int) ∧ Q (.int (maxL ns i)) H) := by
  intro pins s σ H vs zs us ws Q I r rz h
  obtain ⟨a, ns, i, rfl, rfl, hs, q⟩ := h
  obtain ⟨its, rv, hl, hz⟩ := I.list hs
  obtain rfl := Vals.ref1 r
  obtain ⟨u, rfl, t, rfl⟩ := vals1 rz
  have hu : X.A.units + 1 + PySem.W.Datum.depth Int < cLine := by
    have := hr.units
    have e : PySem.W.Datum.depth Int = 0 := rfl
    omega
  refine PySem.W.max_list_datum_default (α := Int) (xs := ns) (I.ok.hd hc) hl.isList (PySem.W.HoldAll.of_ints (by simpa using rv.ints)) hu (fun e h' tk kp => ?_) (fun y ys j v h' tk e hj hv kp => ?_)
  · subst e
    exact ⟨.int i, H, I.kept kp, ⟨t, rfl⟩, q⟩
  · subst e
    obtain ⟨t', rfl⟩ := holds_int hv
    refine ⟨.int (maxL (y :: ys) i), H, I.kept kp, ?_, q⟩
    rw [maxI_fold]
    exact ⟨t', rfl⟩
theorem df_maxDef {kw : Option Str} (cx : Ctx X W k) (hg : Gl X "max") (hm : X.mg "max" = none) (ha : DB X vol W a fa) (hb : DB X vol W b fb) (hs : starEach [a] X.env = (false, eval a X.env) :: starEach [] X.env := by rfl)
    (he : backTo pos (starEach [a] X.env) = (false, eval a X.env) :: backTo pos (starEach [] X.env) := by rfl) (hpl : (backTo pos (starEach [a] X.env)).any (·.1) = false := by rfl)
    (hall : (backToKw pos (keywordEach [⟨kw, b, kpos⟩] X.env)).all (·.1.isSome) = true := by rfl) (hnone : (backToKw pos (keywordEach [⟨kw, b, kpos⟩] X.env)).any (·.1.isNone) = false := by rfl) (hks : (backToKw pos (keywordEach [⟨kw, b, kpos⟩] X.env)).filterMap (·.1) = [Str.ofString "default"] := by rfl) :
    DF X vol W (.Call (.Name "max" p) [a] [⟨kw, b, kpos⟩] pos) (two fa fb maxD) :=
  ⟨(pe_callBK (cr_maxDef cx.calm cx.room) hg hm (by decide +kernel) (pa_cons ha.run pa_nil hs) (pk_cons hb.run pk_nil) (by decide) (by decide) he hpl hall hnone hks).conseq fun σ H Q h => by
    obtain ⟨F, ρ, G, E, q⟩ := h
    refine tD.goB G E q fun x q1 v F1 H1 x1 r1 => tD.goB x1.g (E.ext x1) (MonoEX G x1 q1 fun _ z => z) fun y q2 w F2 H2 x2 r2 => ?_
    have x3 := x1.trans G x2
    replace q2 : (maxD x y).run (VF vol X.K F H Q) (EX vol W σ F H) := q2
    unfold maxD at q2
    split at q2
    · rename_i ds j
      obtain ⟨z, a', ws, rfl, ea, ra⟩ := (r1.ext x2).lst x2.g
      cases hi : intsOf ds with
      | none => rw [hi] at q2; exact q2.elim
      | some is =>
        rw [hi] at q2
        rw [intsOf_eq hi] at ra
        rw [ra.ints] at ea
        refine ⟨a', is, j, rfl, by rw [r2.int], SqL.of ea, ?_⟩
        cases is with
        | nil => exact q2 _ F2 H2 x3 rfl
        | cons j r => exact q2 _ F2 H2 x3 rfl
    · exact q2.elim⟩

/-! ### slices -/
def cutD (xs : List D) (lo hi : Option Int) : List D := (xs.drop (HT.sIx xs.length 0 lo)).take (HT.sIx xs.length xs.length hi - HT.sIx xs.length 0 lo)
def slL (lo hi : Option Int) : D → M Exn D
  | .lst ds => ret (.lst (cutD ds lo hi))
  | _ => stuck
def slS (lo hi : Option Int) : D → M Exn D
  | .str z => if z.length ≤ sizeLine then ret (.str (cutS z lo hi)) else stuck
  | _ => stuck
structure DO (X : Cx) (vol : Vol) (W : WX) (e : Option Expr) (f : EnvD → M Exn (Option Int)) : Prop where
  run : PO X e (fun σ H Q => ∃ F ρ, Good vol F H ∧ ERep vol X.K F H σ ρ ∧ (f ρ).run (fun o => ∀ F' H', Ext vol F H F' H' → Q o H') (EX vol W σ F H))
def asI : D → M Exn (Option Int)
  | .int i => ret (some i)
  | _ => stuck
@[reducible] def noO : EnvD → M Exn (Option Int) := fun _ => ret none
@[reducible] def someO (f : EnvD → M Exn D) : EnvD → M Exn (Option Int) := fun ρ => bnd (f ρ) asI
theorem _root_.L2.PO.conseq {X : Cx} {e : Option Expr} {t t' : TO} (h : PO X e t) (i : ∀ σ H Q, t' σ H Q → t σ H Q) : PO X e t' := ⟨fun pins s σ H Q I hw => h.run pins s σ H Q I (i _ _ _ hw)⟩
theorem do_none : DO X vol W none noO := ⟨po_none.conseq fun σ H Q ⟨F, ρ, G, E, q⟩ => q F H G.ext⟩
theorem do_some (h : DB X vol W e f) : DO X vol W (some e) (someO f) := ⟨(po_some h.run).conseq fun σ H Q ⟨F, ρ, G, E, q⟩ => tD.goB G E q fun x q1 v F1 H1 x1 r1 => by
  unfold asI at q1
  split at q1
  · exact ⟨_, r1.int, q1 F1 H1 x1⟩
  · exact q1.elim⟩
@[reducible] def slD (g : Option Int → Option Int → D → M Exn D) (fa : EnvD → M Exn D) (fl fh : EnvD → M Exn (Option Int)) : EnvD → M Exn D := fun ρ => bnd (fa ρ) fun x => bnd (fl ρ) fun lo => bnd (fh ρ) fun hi => g lo hi x
theorem df_slice {r : V → Option Int → Option Int → Hp → VK → Prop} {g : Option Int → Option Int → D → M Exn D} {lo hi : Option Expr} {fl fh : EnvD → M Exn (Option Int)} (hr : SlR X r) (hg : ∀ (F H : Hp) (x : D) (v : V) (lo hi : Option Int) (Q : VK) (e : Exn → Prop), Good vol F H → RepB vol X.K F H x v → (g lo hi x).run (VF vol X.K F H Q) e → r v lo hi H Q)
    (ha : DB X vol W a fa) (hl : DO X vol W lo fl) (hh : DO X vol W hi fh) : DF X vol W (.Subscript a (.Slice lo hi none p2) pos) (slD g fa fl fh) :=
  ⟨(pe_slice hr ha.run hl.run hh.run).conseq fun σ H Q ⟨F, ρ, G, E, q⟩ => tD.goB G E q fun x q1 v F1 H1 x1 r1 =>
    ⟨F1, ρ, x1.g, E.ext x1, MonoEX G x1 q1 fun l q2 F2 H2 x2 => ⟨F2, ρ, x2.g, (E.ext x1).ext x2, MonoEX x1.g x2 (MonoEX G x1 q2 fun _ z => z) fun u q3 F3 H3 x3 => by
      have x4 := (x1.trans G x2).trans G x3
      exact hg F3 H3 x v l u Q (EX vol W σ F H) x3.g ((r1.ext x2).ext x3) ((g l u x).mono _ _ _ _ (fun d z u F' H' x5 ru => z u F' H' (x4.trans G x5) ru) (fun _ z => z) q3)⟩⟩⟩
theorem df_sliceL {lo hi : Option Expr} {fl fh : EnvD → M Exn (Option Int)} (ha : DB X vol W a fa) (hl : DO X vol W lo fl) (hh : DO X vol W hi fh) : DF X vol W (.Subscript a (.Slice lo hi none p2) pos) (slD slL fa fl fh) :=
  df_slice sl_list (fun F H x v lo hi Q e G r h => by
    unfold slL at h
    split at h
    · obtain ⟨z, a, vs, rfl, ea, ra⟩ := r.lst G
      refine ⟨a, vs, rfl, SqL.of ea, fun p hp => ?_⟩
      have x2 := G.new (o := .lst (cutV vs lo hi)) hp
      refine h _ _ _ x2 ⟨?_, p, _, rfl, upd_same, RepL.up x2.sF _ _ ?_⟩
      · unfold cutD
        rw [List.length_take, List.length_drop]
        omega
      · unfold cutD cutV
        rw [ra.length]
        exact (ra.drop _).take _
    · exact h.elim) ha hl hh
theorem df_sliceS {lo hi : Option Expr} {fl fh : EnvD → M Exn (Option Int)} (ha : DB X vol W a fa) (hl : DO X vol W lo fl) (hh : DO X vol W hi fh) : DF X vol W (.Subscript a (.Slice lo hi none p2) pos) (slD slS fa fl fh) :=
  df_slice sl_str (fun F H x v lo hi Q e G r h => by
    unfold slS at h
    split at h
    · split at h
      · rename_i hz
        exact ⟨_, r.str, hz, h _ F H G.ext rfl⟩
      · exact h.elim
    · exact h.elim) ha hl hh
end

/-! ### a def whose first argument is the dice -/
theorem SRep.beginZ {z : Addr} {K : PySem.W.Frag} {F H : Hp} {N : List Str} {ds : List D} {vs : List V} (g : Good (volD z) F H) (r : RepL K F ds vs) : SRep (volD z) K F H F H (L2.start N (.ref z :: vs)) (some (.vz 0) :: begin_ (N.length - 1) ds) := by
  have e := ERep.begin (vol := volD z) (H := H) (N := N.tail) r
  have hs : L2.start N (.ref z :: vs) = some (.ref z) :: L2.start N.tail vs := by
    unfold L2.start
    have : N.length - (V.ref z :: vs).length = N.tail.length - vs.length := by simp; omega
    rw [this]; rfl
  have hN : N.tail.length = N.length - 1 := by simp
  rw [hN] at e
  rw [hs]
  have no : ∀ (i : Nat) (d : D), (begin_ (N.length - 1) ds)[i]? ≠ some (some (.own d)) := fun i d e => by
    unfold begin_ at e
    by_cases hi : i < ds.length
    · rw [List.getElem?_append_left (by simpa using hi), List.getElem?_map] at e
      cases q : ds[i]? with
      | none => rw [q] at e; cases e
      | some d' => rw [q] at e; cases e
    · rw [List.getElem?_append_right (by simpa using hi), List.getElem?_replicate] at e
      split at e <;> cases e
  have noc : ∀ (i : Nat) (d : D), (some (SlotD.vz 0) :: begin_ (N.length - 1) ds)[i]? ≠ some (some (.own d)) := fun i d e => by
    cases i with
    | zero => simp at e
    | succ i => exact no i d (by simpa using e)
  refine ⟨g.ext, ⟨by simp [e.len], fun i d h => ?_, fun i d h => (noc i d h).elim, fun i n h => ?_⟩, fun i d e => (noc i d e).elim, fun i j d d' p e => (noc i d e).elim⟩
  · cases i with
    | zero => simp at h
    | succ i => exact e.im i d (by simpa using h)
  · cases i with
    | zero => rfl
    | succ i => exact e.vz i n (by simpa using h)
def runZ (n : Nat) (g : EnvD → MS) : List D → M Exn D := fun ds => bnd (mapE Prod.fst (g (some (.vz 0) :: begin_ (n - 1) ds))) fun o => match o with
  | .nx _ => ret .non
  | .rt d => ret d
  | _ => stuck
section
variable {P : Program} {w : World} {K : PySem.W.Frag} {mg : Str → Option Value} {base : Heap}
theorem fn_okZ {x qual : Str} {st : Stmt} {f : Addr} {fd : FuncData} {N ps : List Str} {k n : Nat} {g : EnvD → MS} (F : Fun K x qual st f fd) (S : FnScope N ps (defScope st)) (hn : n + 1 = ps.length)
    (hbody : ∀ (cdv : Value) (A : Around) (outer : List Env) (s : Shared) (H : Hp) (E : XK) (F0 : Hp) (z : Addr), Good (volD z) F0 H → Ctx (cxOf (L2N.CX P w) P w K mg base N qual (defScope st) f cdv A outer s H E) (fun c d _ H => E c d H) k →
      DSs (cxOf (L2N.CX P w) P w K mg base N qual (defScope st) f cdv A outer s H E) (volD z) (fun c d _ H => E c d H) F0 H (defBody st) g) :
    FnOk P w K mg base (L2N.CX P w) (k + 1) f fd ps (spZ K n (runZ N.length g)) := by
  refine fun_okN F S (fun vs H Q E h => ?_) (fun cdv A outer s H vs Q E hr h => ?_)
  · obtain ⟨z, F0, ds, ws, rfl, hl, g0, r, q⟩ := h
    rw [List.length_cons, r.length, hl, hn]
  obtain ⟨z, F0, ds, ws, rfl, hl, g0, r, q⟩ := h
  refine ⟨_, (hbody cdv A outer s H E F0 z g0 ⟨L2N.takes_of rfl rfl rfl rfl, passes_of rfl, rfl, S.nd, hr⟩).run, F0, _, SRep.beginZ g0 r, ?_⟩
  refine (g (some (.vz 0) :: begin_ (N.length - 1) ds)).mono _ _ _ _ (fun o q1 => ?_) (fun y z dd σ F H s r => z dd F H s.x r) q
  cases o with
  | nx ρ => exact fun σ F' H' s' => q1 .non F' H' s'.x rfl
  | rt d => exact q1
  | bk ρ => exact q1.elim
  | ct ρ => exact q1.elim
end
end DL

namespace DL
open PySem PySem.Spec PyProof.Rows L2

/-! ### what is never reached -/
section
variable {X : Cx} {vol v : Vol} {W : WX} {F0 H0 : Hp} {e o : Expr} {es : List Expr} {f fk : EnvD → M Exn D} {fs : EnvD → M Exn (List D)} {pos apos p p1 p2 kpos : Pos} {k j n i : Nat} {K : PySem.W.Frag} {x y : Str} {C g : Addr} {fd : FuncData} {ps : List Str} {m : List D → M Exn D}
@[reducible] def neverS : EnvD → MS := fun _ => stuck
theorem ds_never {st : Stmt} : DS X vol W F0 H0 st neverS := ⟨⟨fun pins s σ H D I ⟨F, ρ, s, q⟩ => q.elim⟩⟩
@[reducible] def par3S (i j l : Nat) (w1 w2 w3 : Way) (fa fb fc : EnvD → M Exn D) : EnvD → MS := fun ρ => bnd (lft ρ (fa ρ)) fun d => bnd (lft ρ (fb ρ)) fun d' => bnd (lft ρ (fc ρ)) fun d'' => ret (.nx (((ρ.set i (some (w1.slot d))).set j (some (w2.slot d'))).set l (some (w3.slot d''))))

/-! ### C(e, ..) with defaults, C(e, .., k = v) -/
theorem df_makeD {E : XK} {dd : List D} {dvs : List V} {dus : List Value} (Mk' : Mk X.K C g) (F : FnOk X.prog X.w X.K X.mg X.base (L2N.CX X.prog X.w) j g fd ps (spI X.K C (n + dd.length) m)) (cx : Ctx X (fun c d _ H => E c d H) k) (hj : j + 1 ≤ k) (hg : Gl X x) (hm : X.mg x = some (.ref C)) (hb : Binds X.K fd ps dus) (hv : Vals dvs dus)
    (hd2 : ∀ F, RepL X.K F dd dvs)
    (ha : AF X vol (fun c d _ H => E c d H) (e :: es) fs) (hd : (x == ("__debug__" : Str)) = false := by decide) (hs : starEach (e :: es) X.env = (false, eval e X.env) :: starEach es X.env := by rfl) (hpl : (backTo pos (starEach es X.env)).any (·.1) = false := by rfl) : DF X vol (fun c d _ H => E c d H) (.Call (.Name x p) (e :: es) [] pos) (call fs (ofN n (fun ds => m (ds ++ dd)))) :=
  ⟨(pe_make Mk' F (cx.room.mono hj) hg hm hb hv (L2N.passes_call cx.tk fun _ _ _ _ h => h) ha.run hd hs hpl).conseq fun σ H Q ⟨F0, ρ, G, E, q⟩ => tAF.go G E q fun ds q1 vs F1 H1 x1 r1 => by
    obtain ⟨hl, q1⟩ := ofN_run (m := fun ds => m (ds ++ dd)) q1
    exact make_go G x1 (fun _ _ _ h => h) (by rw [List.length_append, hl]) (r1.append (hd2 F1)) q1⟩
def makeK (fs : EnvD → M Exn (List D)) (fk : EnvD → M Exn D) (n : Nat) (m : List D → M Exn D) : EnvD → M Exn D := fun ρ => bnd (fs ρ) fun ds => bnd (fk ρ) fun d => if ds.length = n then m (ds ++ [d]) else stuck
theorem df_makeK {E : XK} {kw : Str} {gg : List Value → List Value → List Value} {gV : List V → List V → List V} (Mk' : Mk X.K C g) (F : FnOk X.prog X.w X.K X.mg X.base (L2N.CX X.prog X.w) j g fd ps (spI X.K C (n + 1) m)) (cx : Ctx X (fun c d _ H => E c d H) k) (hj : j + 1 ≤ k) (hg : Gl X x) (hm : X.mg x = some (.ref C)) (hb : KBn X.K fd ps (n + 1) [kw] gg gV) (hgV : ∀ vs zs, gV vs zs = vs ++ zs)
    (ha : AF X vol (fun c d _ H => E c d H) (e :: es) fs) (hk : DF X vol (fun c d _ H => E c d H) o fk)
    (hall : (backToKw pos (keywordEach [⟨some kw, o, kpos⟩] X.env)).all (·.1.isSome) = true := by rfl) (hks : (backToKw pos (keywordEach [⟨some kw, o, kpos⟩] X.env)).filterMap (·.1) = [kw] := by rfl) (hdb : (x == ("__debug__" : Str)) = false := by decide)
    (he : starEach (e :: es) X.env = (false, eval e X.env) :: starEach es X.env := by rfl) (hpl : ((backTo pos (starEach (e :: es) X.env)).any (·.1) || (backToKw pos (keywordEach [⟨some kw, o, kpos⟩] X.env)).any (·.1.isNone)) = false := by rfl) :
    DF X vol (fun c d _ H => E c d H) (.Call (.Name x p) (e :: es) [⟨some kw, o, kpos⟩] pos) (makeK fs fk n m) :=
  ⟨(pe_makeK Mk' F (cx.room.mono hj) hg hm hb (L2N.passes_call cx.tk fun _ _ _ _ h => h) ha.run (pk_cons hk.run pk_nil) hall hks hdb he hpl).conseq fun σ H Q ⟨F0, ρ, G, E, q⟩ => tAF.go G E q fun ds q1 vs F1 H1 x1 r1 => by
    refine tD.go x1.g (E.ext x1) (MonoEX G x1 q1 fun _ z => z) fun d q2 v F2 H2 x2 r2 => ?_
    have q2 : (if ds.length = n then m (ds ++ [d]) else stuck).run (VF vol X.K F0 H Q) (EX vol _ σ F0 H) := q2
    by_cases hl : ds.length = n
    · rw [if_pos hl] at q2
      refine ⟨by rw [r1.length, hl], rfl, ?_⟩
      intro a dx h1 h2 h3
      rw [hgV]
      exact make_go (n := n + 1) (ds := ds ++ [d]) (vs := vs ++ [v]) G (x1.trans G x2) (fun _ _ _ h => h) (by rw [List.length_append, hl]; rfl) ((r1.up x2.sF).append (show RepL X.K F2 [d] [v] from ⟨v, [], rfl, r2, rfl⟩)) q2 a dx h1 h2 h3
    · rw [if_neg hl] at q2
      exact q2.elim⟩

end

/-! ### the signs of a text -/
def itemsT : D → M Exn (List D)
  | .str s => if s.cps.size ≤ sizeLine then ret (s.cps.toList.map fun c => .str ⟨#[c]⟩) else stuck
  | _ => stuck
section
variable {X : Cx} {vol : Vol} {W : WX} {tg a : Expr} {fa : EnvD → M Exn D}
theorem is_str (ha : DB X vol W a fa) : IS X vol W tg a (fun ρ => bnd (fa ρ) itemsT) :=
  ⟨(pi_str ha.run).conseq fun σ H R ⟨F, ρ, G, E, q⟩ => tD.goB G E q fun d q1 v F1 H1 x1 r1 => by
    cases d with
    | str s =>
      have q1 : (if s.cps.size ≤ sizeLine then ret (s.cps.toList.map fun c => D.str ⟨#[c]⟩) else (stuck : M Exn (List D))).run _ _ := q1
      by_cases hz : s.cps.size ≤ sizeLine
      · rw [if_pos hz] at q1
        refine ⟨s, r1.str, q1 _ F1 H1 x1 ⟨by simpa using hz, fun F2 H2 s2 g => ⟨fun i d e => ?_, by show s.cps.size ≤ _; simp⟩⟩⟩
        rw [List.getElem?_map] at e
        cases ec : s.cps.toList[i]? with
        | none => rw [ec] at e; cases e
        | some c =>
          rw [ec] at e; cases e
          have ec2 : s.cps[i]? = some c := by rw [← ec]; simp
          refine ⟨by show i < s.cps.size; exact (Array.getElem?_eq_some_iff.mp ec2).1, fun x H3 ⟨e3, c', ec', ex⟩ => ?_⟩
          rw [ec2] at ec'; cases ec'
          subst e3 ex
          exact ⟨F2, g.ext, rfl⟩
      · rw [if_neg hz] at q1
        exact q1.elim
    | _ => exact q1.elim⟩
theorem ie_str (ha : DB X vol W a fa) : IE X vol W tg a (fun ρ => bnd (fa ρ) itemsT) := (is_str ha).toE
end

/-! ### len(o) by an own __len__ -/
section
variable {X : Cx} {vol v : Vol} {W : WX} {F0 H0 : Hp} {e o : Expr} {es : List Expr} {f fk fo : EnvD → M Exn D} {fs : EnvD → M Exn (List D)} {pos apos p p1 p2 kpos : Pos} {k j n i : Nat} {K : PySem.W.Frag} {x y : Str} {C g : Addr} {fd : FuncData} {ps : List Str} {m : List D → M Exn D}
theorem call_lenC {CX : CXT} {sp : Sp} {E : XK} (F : FnOk X.prog X.w X.K X.mg X.base CX k g fd ps sp) (hm : PySem.W.findIn X.K (.ref C) "__len__" = some (some (.ref g))) (hf : PySem.W.isFn X.K (.ref g) = true) (hr : Room (k + 1) X.A) (hb : Binds X.K fd ps []) (hx : Passes CX X E) :
    CallR X (.builtin "len") (fun xs H Q => ∃ a dx fs, xs = [.ref a] ∧ H a = some (.ins C dx fs) ∧ sp [.ref a] H (fun v H' => ∃ n : Int, v = .int n ∧ 0 ≤ n ∧ n < 2 ^ 63 ∧ Q (.int n) H') E) := by
  intro pins s σ H xs us Q I r h
  obtain ⟨a, dx, fs, rfl, ha, hsp⟩ := h
  obtain ⟨u, rfl, rx⟩ := vals1 r
  obtain rfl : u = Value.ref a := rx
  obtain ⟨mA, J, _⟩ := ins_get I.hok ha
  obtain ⟨od, J, _⟩ := J.look
  obtain ⟨mm, hF⟩ := I.fr
  refine PySem.W.len_K hF I.ok.mod.kin J hm hf ?_
  have sb : Sub X k X.A.in1 := ⟨Room.in1 hr, rfl⟩
  have e0 : Env0 X.prog X.w X.K X.mg X.base X.A.in1 X.stack s H := by
    have e := I.env0
    exact ⟨by rw [sb.fr]; exact e.frames, e.mod, e.bs, e.bsz, e.funs, e.frf, e.hok, e.bare⟩
  have hl := F.len _ _ _ _ hsp
  refine wpAny_call (codeAny_mono (F.run X.A.in1 X.stack s H ⟨[.ref a], []⟩ [.ref a] [.ref a] _ E sb.room e0 (by
    have := hb s [.ref a] I.kIn (by simpa using hl)
    simpa using this) r hsp) fun r s' hq => ?_)
  cases r with
  | error e => exact hx pins σ H s e s' I hq
  | ok fl =>
    cases fl with
    | ret w =>
      obtain ⟨z, H', I', rz, nn, ez, h0, h1, q⟩ := I.after hq
      subst ez
      obtain ⟨t, rfl⟩ := rz
      exact ⟨⟨h0, h1⟩, .int nn, H', I'.tok _, ⟨_, rfl⟩, q⟩
    | next => exact False.elim hq
    | brk => exact False.elim hq
    | cont => exact False.elim hq
def lenC (C : Addr) (m : List D → M Exn D) (f : EnvD → M Exn D) : EnvD → M Exn D := fun ρ => bnd (f ρ) fun d => match d with
  | .obj C' gs => if C' = C then bnd (m [.obj C' gs]) fun r => (match r with
    | .int n => if 0 ≤ n ∧ n < 2 ^ 63 then ret (.int n) else stuck
    | _ => stuck) else stuck
  | _ => stuck
theorem df_lenC {E : XK} (F : FnOk X.prog X.w X.K X.mg X.base (L2N.CX X.prog X.w) j g fd ps (spD vol0 X.K 1 m)) (cx : Ctx X (fun c d _ H => E c d H) k) (hj : j + 1 ≤ k) (hM : Meth X.K C "__len__" g) (hb : Binds X.K fd ps [])
    (hg : Gl X "len") (hm : X.mg "len" = none) (ho : DF X vol (fun c d _ H => E c d H) o fo) (hs : starEach [o] X.env = (false, eval o X.env) :: starEach [] X.env := by rfl) : DF X vol (fun c d _ H => E c d H) (.Call (.Name "len" p) [o] [] pos) (lenC C m fo) :=
  ⟨(pe_callB (call_lenC F hM.at_ hM.fn (cx.room.mono hj) hb (L2N.passes_call cx.tk fun _ _ _ _ h => h)) hg hm (by decide +kernel) (pa_cons ho.run pa_nil hs) (by decide) (by decide) hs (by rfl)).conseq fun σ H Q ⟨F0, ρ, G, Er, q⟩ => by
    refine tD.go G Er q fun d q1 v F1 H1 x1 r1 => ?_
    cases d with
    | obj C' gs =>
      have q3 : (if C' = C then bnd (m [.obj C' gs]) fun r => (match r with
        | .int n => if 0 ≤ n ∧ n < 2 ^ 63 then ret (.int n) else stuck
        | _ => (stuck : M Exn D)) else stuck).run (VF vol X.K F0 H Q) (EX vol _ σ F0 H) := q1
      by_cases hC : C' = C
      · rw [if_pos hC] at q3
        subst hC
        have rr := id r1
        obtain ⟨a, dx, ws, rfl, ea, ra⟩ := r1
        refine ⟨a, dx, ws, rfl, x1.g.sub _ _ ea, ?_⟩
        refine call_go (W := fun c d _ H => E c d H) (σ := σ) (ds := [D.obj _ gs]) (VLe.zero vol) G x1 (fun _ _ _ h => h) rfl ⟨_, _, rfl, rr, rfl⟩ ((m _).mono _ _ _ _ (fun d q2 => ?_) (fun _ z => z) q3)
        intro v F' H' x2 r2
        cases d with
        | int n =>
          have q2 : (if 0 ≤ n ∧ n < 2 ^ 63 then ret (.int n) else (stuck : M Exn D)).run (VF vol X.K F0 H Q) (EX vol _ σ F0 H) := q2
          by_cases hn : 0 ≤ n ∧ n < 2 ^ 63
          · rw [if_pos hn] at q2
            exact ⟨n, r2, hn.1, hn.2, q2 _ F' H' x2 rfl⟩
          · rw [if_neg hn] at q2
            exact q2.elim
        | _ => exact q2.elim
      · rw [if_neg hC] at q3
        exact q3.elim
    | _ => exact q1.elim⟩
end

/-! ### multiplication: one factor of at most 64 bits, or both small -/
structure CMulO (i j : Int) : Prop where
  ok : IntMulOk i j
theorem op_mulO {X : Cx} : OpR X (binaryOp .Mult) (rI CMulO fun i j => .int (i * j)) := L2.opI fun _ _ _ _ _ _ _ hc q => mul_int q hc.ok
theorem mulOk_r {a b : Int} (h1 : -(2 ^ 64) < b) (h2 : b < 2 ^ 64) : CMulO a b := ⟨.of_right (intBits_le_64 h1 h2)⟩

/-! ### the dice's defs -/
def m_law_roll : List D → M Exn D
  | [.int n] => if n < 1267650600228229401496703205376 then bnd (pick n) fun r => ret (.int r) else stuck
  | _ => stuck
def spDrawn : Sp := fun vs H Q _ => ∃ c k : Int, vs = [.int c, .int k] ∧ ∀ r : Int, 0 ≤ r → Q (.int r) H
def spCell (K : PySem.W.Frag) : Sp := fun vs H Q _ => ∃ (a : Addr) (ns : List Int) (k : Int), vs = [.ref a, .int k] ∧ SqL K H a (ns.map V.int) ∧ ns.length ≤ 63 ∧ 0 ≤ k ∧ ∀ i H', Same H H' → Q (.int i) H'
def spRounds (K : PySem.W.Frag) : Sp := fun vs H Q _ => ∃ (a : Addr) (ns : List Int) (m : Int), vs = [.ref a, .int m] ∧ SqL K H a (ns.map V.int) ∧ ns.length ≤ 63 ∧ 1 ≤ m ∧ m ≤ 63 ∧
  ∀ (p : Addr) (zs : List Addr) (H' : Hp), H p = none → p ∉ zs → zs.Nodup → zs.length ≤ 63 → Same H H' → H' p = some (.lst (zs.map V.ref)) → (∀ z ∈ zs, IsDice H' z) → Q (.ref p) H'
def spLaw (K : PySem.W.Frag) : Sp := fun vs H Q _ => ∃ (a : Addr) (ns : List Int), vs = [.ref a] ∧ SqL K H a (ns.map V.int) ∧ ns.length ≤ 63 ∧ ∀ H', Q (.bl true) H'
def WF : WX := fun _ _ _ _ => False

/-! ### the facts of the text -/
def fdOf (K : PySem.W.Frag) (p : Str × Option Str) : FuncData := match K.lookup (He.fAd K p) with
  | some ⟨_, _, .func fd, _⟩ => fd
  | _ => default
theorem fdOf_eq {K : PySem.W.Frag} {p : Str × Option Str} {oc : Value} {od : Option Addr} {fd : FuncData} {osl : Array (Option Value)} (h : K.lookup (He.fAd K p) = some ⟨oc, od, .func fd, osl⟩) : fd = fdOf K p := by
  unfold fdOf; rw [h]
structure Tx (fa : List He.Fa) (fn : List He.DefD) (ex : PySem.W.Frag → Bool) (K : PySem.W.Frag) (mg : Str → Option Value) : Prop where
  c : He.SaysD fa fn K
  e : ex K = true
  h : ∃ h : Heap, K.In h ∧ h.Ns mainGlobals mg
section
variable {fa : List He.Fa} {fn : List He.DefD} {ex : PySem.W.Frag → Bool} {K : PySem.W.Frag} {mg : Str → Option Value} (T : Tx fa fn ex K mg)
include T
theorem Tx.glo (i : Nat) {x : Str} (e : fa[i]? = some (.glo x) := by rfl) : mg x = some (.ref (He.ga K x)) := by
  obtain ⟨h, X, G⟩ := T.h; exact He.glo_ok X G (T.c.fact i e)
theorem Tx.free (i : Nat) {x : Str} (e : fa[i]? = some (.free x) := by rfl) : mg x = none := by
  obtain ⟨h, X, G⟩ := T.h; exact He.free_ok X G (T.c.fact i e)
theorem Tx.gint (i : Nat) {x : Str} {z : Int} (e : fa[i]? = some (.int x z) := by rfl) : GConst K mg x (.int z) := by
  obtain ⟨h, X, G⟩ := T.h; obtain ⟨t, e⟩ := He.int_ok X G (T.c.fact i e); exact gconst_int e
theorem Tx.gstr (i : Nat) {x z : Str} (e : fa[i]? = some (.str x z) := by rfl) : GConst K mg x (.str z) := by
  obtain ⟨h, X, G⟩ := T.h; obtain ⟨t, e⟩ := He.str_ok X G (T.c.fact i e); exact gconst_str e
theorem Tx.gtup (i : Nat) {x : Str} {ss : List Str} (e : fa[i]? = some (.glo x) := by rfl) (h : He.tupB K x (ss.map He.Dv.str) = true) (hl : ss.length ≤ sizeLine) : GConst K mg x (.tup (ss.map D.str)) := by
  have g := T.glo i e
  refine ⟨_, .ref (He.ga K x), g, rfl, fun F => ?_⟩
  refine (show Rep K F (.tup (ss.map D.str)) (.ref (He.ga K x)) from ?_)
  unfold Rep
  refine ⟨by rw [List.length_map]; exact hl, _, _, rfl, He.tupB_ok h F, ?_⟩
  clear h hl g
  induction ss with
  | nil => exact rfl
  | cons s r ih => exact ⟨.str s, _, rfl, rfl, ih⟩
theorem Tx.cls (i : Nat) {x : Str} (e : fa[i]? = some (.cls x) := by rfl) : Cls K (He.ga K x) := He.cls_ok (T.c.fact i e)
theorem Tx.noat (i : Nat) {x f : Str} (e : fa[i]? = some (.noat x f) := by rfl) : NoAttr K (He.ga K x) f := He.noat_ok (T.c.fact i e)
theorem Tx.meth (i : Nat) {x m : Str} (e : fa[i]? = some (.meth x m) := by rfl) : Meth K (He.ga K x) m (He.ma K (He.ga K x) m) := He.meth_ok (T.c.fact i e)
theorem Tx.mkr (i : Nat) {x : Str} (e : fa[i]? = some (.mkr x) := by rfl) : Mk K (He.ga K x) (He.ma K (He.ga K x) "__init__") := He.mkr_ok (T.c.fact i e)
theorem Tx.funD (i : Nat) {d : He.DefD} (e : fn[i]? = some d := by rfl) : FunD K d.name d.qual d.params d.body d.scope (d.dvs K) (d.kws K) (He.fAd K d.at_) (fdOf K d.at_) := by
  obtain ⟨fd, F⟩ := T.c.def_ i e
  obtain ⟨oc, od, dV, kV, doc, pm, an, cdv, ct, osl, e1, lk, h⟩ := F.ex
  have := fdOf_eq lk
  rw [← this]
  exact F
end
theorem fun_of {K : PySem.W.Frag} {x qual : Str} {st : Stmt} {f : Addr} {fd : FuncData} (F : FunD K x qual (defArgs st) (defBody st) (defScope st) [] [] f fd) : Fun K x qual st f fd := by
  obtain ⟨oc, od, dV, kV, doc, pm, an, cdv, ct, osl, e1, lk, h1, h2, h3⟩ := F.ex
  rcases h2 with ⟨_, rfl⟩ | ⟨h, _⟩
  · exact ⟨⟨oc, od, kV, doc, pm, an, cdv, ct, osl, e1, lk, h1⟩, F.kp⟩
  · exact absurd rfl h

/-! ### the Hook -/
def obsE (n : Nat) (fa : List He.Fa) (fn : List He.DefD) (ex : PySem.W.Frag → Bool) (g : Addr → Option Obj) : He.AlD × Bool := (He.obsD fa fn (He.frG g (He.asD g n ++ [PySem.cStatics])), ex (He.frG g (He.asD g n ++ [PySem.cStatics])))
def hookE (n : Nat) (fa : List He.Fa) (fn : List He.DefD) (ex : PySem.W.Frag → Bool) : PySem.W.Hook where
  α := He.AlD × Bool
  obs := fun s => obsE n fa fn ex s.heap.get?
  val := fun _ => (He.valD fn, true)
  says := fun _ h => ∃ K : PySem.W.Frag, K.In h ∧ He.SaysD fa fn K ∧ ex K = true
  of := fun _ _ e => ⟨_, He.frG_in, congrArg Prod.fst e, congrArg Prod.snd e⟩
  keeps := fun _ _ _ ⟨K, hK, c⟩ k => ⟨K, PySem.W.Frag.In.keeps hK k, c⟩
theorem obsE_eq {n : Nat} {fa : List He.Fa} {fn : List He.DefD} {ex : PySem.W.Frag → Bool} {g : Addr → Option Obj} {s : Shared} (h : ∀ a, g a = s.heap.get? a) : obsE n fa fn ex g = (hookE n fa fn ex).obs s := by
  have e : g = s.heap.get? := funext h
  rw [e] <;> rfl
end DL

namespace DL
open PySem PySem.Spec L2

/-! ### what a kind is -/
abbrev Due := List (Str × Int)
def pairD (p : Str × Int) : D := .tup [.str p.1, .int p.2]
def dueD (due : Due) : List D := due.map pairD
def unpair : D → Option (Str × Int)
  | .tup [.str s, .int n] => some (s, n)
  | _ => none
def dueOf : List D → Option Due
  | [] => some []
  | d :: ds => match unpair d, dueOf ds with
    | some p, some r => some (p :: r)
    | _, _ => none
theorem unpair_eq {d : D} {p : Str × Int} (h : unpair d = some p) : d = pairD p := by
  unfold unpair at h
  split at h
  · cases h; rfl
  · cases h
theorem dueOf_eq : ∀ {ds : List D} {due : Due}, dueOf ds = some due → ds = dueD due
  | [], due, h => by cases h; rfl
  | d :: ds, due, h => by
    unfold dueOf at h
    split at h
    · rename_i p r h1 h2
      cases h
      rw [unpair_eq h1, dueOf_eq h2]; rfl
    · cases h
theorem dueOf_dueD : ∀ due : Due, dueOf (dueD due) = some due
  | [] => rfl
  | p :: r => by
    show (match unpair (pairD p), dueOf (dueD r) with
      | some p, some r => some (p :: r)
      | _, _ => none) = some (p :: r)
    rw [dueOf_dueD r]; rfl
def tabD (due : Due) : List (Key × D) := mergeD [] (due.map fun p => (Sum.inr p.1, D.int p.2))
def step1 (acc : List (Key × D)) (p : Str × Int) : List (Key × D) := if (valD acc (.inl p.2)).isSome = true then acc else putD acc (.inl p.2) (.str p.1)
def firstsD (due : Due) : List (Key × D) := due.foldl step1 []
def orAll (due : Due) : Int := due.foldl (fun a p => Builtin.bitOr a p.2) 0
def kindD (C : Addr) (due : Due) (r : Str) : D := .obj C [("lines", .lst (dueD due)), ("rule", .str r), ("table", .dct (tabD due)), ("firsts", .dct (firstsD due)), ("all_bits", .int (orAll due))]
theorem pairsOf_due : ∀ due : Due, pairsOf (dueD due) = some (due.map fun p => (Sum.inr p.1, D.int p.2))
  | [] => rfl
  | p :: r => by
    show pairsOf (pairD p :: dueD r) = _
    unfold pairsOf
    rw [pairsOf_due r]; rfl
section
variable {K : PySem.W.Frag} {F H : Hp}
theorem due_at {due : Due} {vs : List V} (r : RepL K F (dueD due) vs) {i : Nat} {x : V} (h : vs[i]? = some x) : ∃ (a : Addr) (p : Str × Int), due[i]? = some p ∧ x = .ref a ∧ SqT K F a [.str p.1, .int p.2] := by
  have hl := r.length
  have hi : i < vs.length := (List.getElem?_eq_some_iff.mp h).1
  have hi2 : i < due.length := by unfold dueD at hl; rw [List.length_map] at hl; omega
  have e : due[i]? = some due[i] := List.getElem?_eq_getElem hi2
  obtain ⟨v, e2, q⟩ := RepL.get (i := i) (d := pairD due[i]) r (by unfold dueD; rw [List.getElem?_map, e]; rfl)
  rw [h] at e2; cases e2
  have q : Rep K F (.tup [.str due[i].1, .int due[i].2]) x := q
  unfold Rep at q
  obtain ⟨_, a, ws, rfl, s, v1, r1, rfl, q1, v2, r2, rfl, q2, rfl⟩ := q
  have q1 : v1 = .str due[i].1 := q1
  have q2 : v2 = .int due[i].2 := q2
  rw [q1, q2] at s
  exact ⟨a, _, e, rfl, s⟩
theorem take_succ' {α : Type} {l : List α} {i : Nat} {x : α} (h : l[i]? = some x) : l.take (i + 1) = l.take i ++ [x] := by
  rw [List.take_add_one, h]; rfl
theorem firstsD_snoc (l : Due) (p : Str × Int) : firstsD (l ++ [p]) = step1 (firstsD l) p := by
  unfold firstsD; rw [List.foldl_append]; rfl
theorem orAll_snoc (l : Due) (p : Str × Int) : orAll (l ++ [p]) = Builtin.bitOr (orAll l) p.2 := by
  unfold orAll; rw [List.foldl_append]; rfl
theorem firstsD_len : ∀ l : Due, (firstsD l).length ≤ l.length := by
  have key : ∀ (l : Due) (acc : List (Key × D)), (l.foldl step1 acc).length ≤ acc.length + l.length := by
    intro l
    induction l with
    | nil => intro acc; exact Nat.le_refl _
    | cons p r ih =>
      intro acc
      refine Nat.le_trans (ih _) ?_
      have : (step1 acc p).length ≤ acc.length + 1 := by
        unfold step1; split
        · omega
        · exact length_putD _ _ _
      simp only [List.length_cons]; omega
  intro l; have := key l []; simpa [firstsD] using this
theorem firsts_rep {acc : List (Key × D)} {ws : List (Key × V)} (r : RepK K F acc ws) (p : Str × Int) : (valV ws (.inl p.2) = none → RepK K F (step1 acc p) (putK ws (.inl p.2) (.str p.1))) ∧ (∀ v, valV ws (.inl p.2) = some v → RepK K F (step1 acc p) ws) := by
  have h := r.val (k := .inl p.2)
  unfold step1
  cases e : valD acc (.inl p.2) with
  | none =>
    rw [e] at h
    refine ⟨fun _ => ?_, fun v hv => ?_⟩
    · exact RepK.put (show Rep K F (.str p.1) (.str p.1) from rfl) r
    · rw [h] at hv; cases hv
  | some d =>
    rw [e] at h
    obtain ⟨v, hv, _⟩ := h
    refine ⟨fun z => ?_, fun v' _ => r⟩
    rw [hv] at z; cases z
end

/-! ### small things -/
section
variable {X : Cx} {vol : Vol} {K : PySem.W.Frag} {F H : Hp} {σ : St} {ρ : EnvD}
theorem ps_never {st : Stmt} : PS X st (fun _ _ _ => False) := ⟨fun _ _ _ _ _ _ h => h.elim⟩
theorem erep_nil : ERep vol K F H [] [] := ⟨rfl, fun i d h => (by simp at h), fun i d h => (by simp at h), fun i d h => (by simp at h)⟩
theorem erep_none {v : Option V} (e : ERep vol K F H σ ρ) : ERep vol K F H (v :: σ) (none :: ρ) :=
  ⟨congrArg Nat.succ e.len, fun i d h => by cases i with | zero => simp at h | succ i => exact e.im i d (by simpa using h), fun i d h => by cases i with | zero => simp at h | succ i => exact e.own i d (by simpa using h), fun i d h => by cases i with | zero => simp at h | succ i => exact e.vz i d (by simpa using h)⟩
theorem erep_im {v : V} {d : D} (r : Rep K F d v) (e : ERep vol K F H σ ρ) : ERep vol K F H (some v :: σ) (some (.im d) :: ρ) :=
  ⟨congrArg Nat.succ e.len, fun i d h => by cases i with | zero => (simp at h; subst h; exact ⟨v, rfl, r⟩) | succ i => exact e.im i d (by simpa using h), fun i d h => by cases i with | zero => simp at h | succ i => exact e.own i d (by simpa using h), fun i d h => by cases i with | zero => simp at h | succ i => exact e.vz i d (by simpa using h)⟩
theorem ext_sub {H₀ F' H' : Hp} (s : Same H₀ H) (x : Ext vol0 F H F' H') : Ext vol0 F H₀ F' H' := ⟨x.g, x.sF, fun a o e hz => x.sH a o (s a o e) hz, fun a o e => x.nw a o (s a o e)⟩
def rho0 (n i : Nat) (m : Nat) : EnvD := (List.replicate n none).set i (some (.vz m))
theorem rho0_at {n i m j : Nat} {c : SlotD} (h : (rho0 n i m)[j]? = some (some c)) : c = .vz m ∧ j = i := by
  unfold rho0 at h
  rw [List.getElem?_set] at h
  split at h
  · rename_i e
    split at h
    · cases h; exact ⟨rfl, e.symm⟩
    · cases h
  · rw [List.getElem?_replicate] at h
    split at h <;> cases h
theorem srep0 {n i m : Nat} (g : Good vol F H) (hl : σ.length = n) (he : i < σ.length → σ[i]? = some (some (.ref (vol.z m)))) : SRep vol K F H F H σ (rho0 n i m) where
  x := g.ext
  r := ⟨by unfold rho0; simp [hl], fun j d h => (nomatch (rho0_at h).1), fun j d h => (nomatch (rho0_at h).1), fun j k h => by
    obtain ⟨e, rfl⟩ := rho0_at h
    cases e
    have hj : j < (rho0 n j m).length := (List.getElem?_eq_some_iff.mp h).1
    unfold rho0 at hj
    rw [List.length_set, List.length_replicate] at hj
    exact he (by omega)⟩
  new := fun j d h => nomatch (rho0_at h).1
  inj := fun j l d1 d2 p h _ _ _ => nomatch (rho0_at h).1
/-! ### a loop's body over any dice -/
def tAnyZ (K : PySem.W.Frag) (W : WX) (n i : Nat) (g : EnvD → MS) : TS := fun Dn σ H => ∃ z F0, Good (volD z) F0 H ∧ (i < σ.length → σ[i]? = some (some (.ref z))) ∧ (g (rho0 n i 0)).run (OutP (volD z) K F0 H Dn) (XS (volD z) K W F0 H)
theorem pss_anyZ {W : WX} {n i : Nat} {body : List Stmt} {g : EnvD → MS} (hn : X.N.length = n) (hb : ∀ z F0 H0, Good (volD z) F0 H0 → DSs X (volD z) W F0 H0 body g) : PSs X body (tAnyZ X.K W n i g) :=
  ⟨fun pins s σ H Dn I ⟨z, F0, g0, he, h⟩ => (hb z F0 H g0).run.run pins s σ H Dn I ⟨F0, _, srep0 (vol := volD z) (m := 0) g0 (I.len.trans hn) he, h⟩⟩
def LawOk : Out → Prop
  | .nx _ => True
  | .ct _ => True
  | _ => False
/-- what the law's loop asks -/
theorem law_turns {W : WX} {n i : Nat} {g : EnvD → MS} {zs : List Addr} {p : Addr} {D : Ends} {σ : St} {H : Hp} (hnp : p ∉ zs) (hp : H p = some (.lst (zs.map V.ref))) (hz : ∀ z ∈ zs, IsDice H z) (hnd : zs.Nodup)
    (hm : (g (rho0 n i 0)).run LawOk (fun _ => False)) (hD : ∀ σ H, D.nx σ H) :
    ∃ Wi : Nat → Nat → St → Hp → Prop, (∃ m, Wi 0 m σ H) ∧ ∀ j m σ H, Wi j m σ H →
      ((Itl K p).stop j H ∧ D.nx σ H) ∨ ((Itl K p).go j H ∧ ∃ N : St → Hp → Prop, (∀ σ' H', N σ' H' → ∃ m', m' < m ∧ Wi (j + 1) m' σ' H') ∧ ∀ x H', (Itl K p).yld j H x H' → gName i x σ H' fun σ2 H2 => tAnyZ K W n i g { D with nx := N, ct := N, bk := D.nx } σ2 H2) := by
  refine for_list (K := K) (a := p) (xs := zs.map V.ref) (fun j σ H => H p = some (.lst (zs.map V.ref)) ∧ ∀ z ∈ zs, IsDice H z) ⟨hp, hz⟩ (fun i σ H _ h => .inl (.inl h.1)) ?_ (fun σ H _ => hD σ H)
  rintro j x σ H2 hx ⟨hp2, hz2⟩
  obtain ⟨z, hzm, rfl⟩ : ∃ z ∈ zs, x = V.ref z := by
    have := List.mem_of_getElem? hx
    obtain ⟨z, h1, h2⟩ := List.mem_map.mp this
    exact ⟨z, h1, h2.symm⟩
  have gd : Good (volD z) (fun _ => none) H2 := ⟨fun _ _ e => (nomatch e), fun _ _ => rfl, hz2 z hzm⟩
  have hnext : ∀ H3 : Hp, (∀ a o, H2 a = some o → a ≠ z → H3 a = some o) → IsDice H3 z → H3 p = some (.lst (zs.map V.ref)) ∧ ∀ z ∈ zs, IsDice H3 z := fun H3 h1 h2 =>
    ⟨h1 _ _ hp2 (fun e => hnp (e ▸ hzm)), fun y hy => by
      by_cases e : y = z
      · rw [e]; exact h2
      · obtain ⟨a, b, q⟩ := hz2 y hy; exact ⟨a, b, h1 _ _ q e⟩⟩
  refine ⟨z, _, gd, fun hi => by rw [List.length_set] at hi; rw [List.getElem?_set, if_pos rfl, if_pos hi], (g _).mono _ _ _ _ (fun o ho => ?_) (fun _ e => e.elim) hm⟩
  cases o with
  | nx ρ => exact fun σ' F' H3 s => hnext H3 (fun a o e hz => s.x.sH a o e hz) s.x.g.vi
  | ct ρ => exact fun σ' F' H3 s => hnext H3 (fun a o e hz => s.x.sH a o e hz) s.x.g.vi
  | rt d => exact ho.elim
  | bk ρ => exact ho.elim
end

/-! ### y = [e for x in xs], the comprehension stored at once -/
section
variable {X : Cx} {vol : Vol} {W : WX} {F0 H0 : Hp} {tg e : Expr} {f : EnvD → M Exn D} {fs : EnvD → M Exn (List D)} {pos : Pos} {k : Nat} {y : Str}
theorem lc_imp {iter : Expr} {sl : List Nat} {b : D → EnvD → Option EnvD} {ft : EnvD → M Exn Bool} (hi : IE X vol W tg iter fs) {σ : St} {H : Hp} {Q : VK}
    (h : tD VF vol X.K W (lcD fs b sl ft f) σ H Q) : tLc (tI ItemsE vol X.K W fs) (tG vol X.K b sl) (tT vol X.K W0 ft) (tD VF vol X.K W0 f) sl σ H Q := by
  obtain ⟨F, ρ, G, E, q⟩ := h
  have q : (lcD fs b sl ft f ρ).run (VN vol X.K F H Q) (EX vol W σ F H) := (lcD fs b sl ft f ρ).mono _ _ _ _ (fun d k p F' H' x n r => by
    obtain ⟨F2, x2, r2⟩ := r.freeze G x n
    exact k _ F2 H' x2 r2) (fun _ z => z) q
  refine ⟨F, ρ, G, E, (fs ρ).mono _ _ _ _ (fun ds q1 J F1 H1 x1 I => ?_) (fun _ z => z) q⟩
  exact lc_go G E x1 I q1
theorem ds_setLc (i : Nat) {py spos : Pos} {elt iter : Expr} {ifs : List Expr} {scope : Scope} {own : List (Str × Nat)} {b : D → EnvD → Option EnvD} {ft : EnvD → M Exn Bool} (g0 : Good vol F0 H0) (cx : Ctx X W k) (hy : X.N[i]? = some y) (hyl : X.env.scope.names.lookup y = some .local)
    (hsw : swapsWith (.ListComp elt [⟨tg, iter, ifs, 0⟩] scope pos) (some (.Name y py)) spos.line X.env = pure true)
    (hi : IE X vol W tg iter fs) (ok : blkC X.N X.env.scope scope own = true)
    (hg : ∀ (s : Shared) (H : Hp) (C : Addr) (cl : List (Str × Addr)) (fp : List Addr), Ctx (X.blk s H scope (compEnvC scope cl C X.env) fp) W0 k → DG (X.blk s H scope (compEnvC scope cl C X.env) fp) vol tg b (own.map (·.2)))
    (ht : ∀ (s : Shared) (H : Hp) (C : Addr) (cl : List (Str × Addr)) (fp : List Addr), Ctx (X.blk s H scope (compEnvC scope cl C X.env) fp) W0 k → DTs (X.blk s H scope (compEnvC scope cl C X.env) fp) vol W0 ifs ft)
    (he : ∀ (s : Shared) (H : Hp) (C : Addr) (cl : List (Str × Addr)) (fp : List Addr), Ctx (X.blk s H scope (compEnvC scope cl C X.env) fp) W0 k → DF (X.blk s H scope (compEnvC scope cl C X.env) fp) vol W0 elt f) (hs : ∀ x, foldedSetIterable iter X.env x = pure x := by intro _; rfl) :
    DS X vol W F0 H0 (.Assign [.Name y py] (.ListComp elt [⟨tg, iter, ifs, 0⟩] scope pos) spos) (setI i (lcD fs b (own.map (·.2)) ft f)) := by
  have cb : ∀ (s : Shared) (H : Hp) (C : Addr) (cl : List (Str × Addr)) (fp : List Addr), Ctx (X.blk s H scope (compEnvC scope cl C X.env) fp) W0 k := fun s H C cl fp => ⟨takes0N, PassesOwn.never, cx.calm, cx.nd, cx.room⟩
  refine ⟨(ps_setLc (i := i) (g := tG vol X.K b (own.map (·.2))) (tt := tT vol X.K W0 ft) (te := tD VF vol X.K W0 f) cx.calm cx.nd hy hyl hsw hi.run (blkOk_by ok) (fun s H C cl fp => (hg s H C cl fp (cb ..)).run) (fun s H C cl fp => (ht s H C cl fp (cb ..)).run) (fun s H C cl fp => (he s H C cl fp (cb ..)).run) hs).conseq fun Dn σ H ⟨F, ρ, s, q⟩ => ?_⟩
  refine lc_imp hi (Q := fun v H' => Dn.nx (σ.set i (some v)) H') (go_f g0 s q fun d q1 v F' H' x s' r => q1 _ F' H' (s'.set i r))
theorem ext_dice {F H : Hp} {z : Addr} (g : Good (volD z) F H) (i j : Int) : Ext (volD z) F H F (upd H z (.lst [.int i, .int j])) where
  g := ⟨fun a o e => by rw [upd_ne (fun q => by have := g.nz z rfl; rw [q, this] at e; cases e)]; exact g.sub a o e, g.nz, ⟨i, j, upd_same⟩⟩
  sF := Same.refl _
  sH := fun a o e hz => by rw [upd_ne hz]; exact e
  nw := fun _ _ _ h => h
theorem pos_m1 : (0 : Int) < 340282366920938463463374607431768211507 := by decide
theorem pos_m2 : (0 : Int) < 340282366920938463463374607431768211297 := by decide
theorem pos_m3 : (0 : Int) < 18446744073709551557 := by decide
theorem drawn1 (x : Int) : CMulW (x % 340282366920938463463374607431768211507) (x % 340282366920938463463374607431768211507) := by
  have h1 := Int.emod_nonneg x (b := 340282366920938463463374607431768211507) (by decide)
  have h2 := Int.emod_lt_of_pos x pos_m1
  have b1 : (x % 340282366920938463463374607431768211507).natAbs < 2 ^ 129 := by omega
  exact wide_mul b1 b1 (by decide) (by decide) (by decide)
theorem drawn2 (x : Int) : CDivW (x % 340282366920938463463374607431768211297) 18446744073709551557 := wide_div (b := 65) (by decide) (by decide) (by decide) (by decide)
theorem drawn_b (x : Int) : ((x % 340282366920938463463374607431768211297) % 18446744073709551557 + 1).natAbs < 2 ^ 66 ∧ ((x % 340282366920938463463374607431768211297) / 18446744073709551557 + 1).natAbs < 2 ^ 130 ∧ (x % 340282366920938463463374607431768211297).natAbs < 2 ^ 129 := by
  have h3 := Int.emod_nonneg x (b := 340282366920938463463374607431768211297) (by decide)
  have h4 := Int.emod_lt_of_pos x pos_m2
  generalize x % 340282366920938463463374607431768211297 = m2 at h3 h4 ⊢
  omega
theorem drawn3 (x : Int) : CMulW ((x % 340282366920938463463374607431768211297) % 18446744073709551557 + 1) ((x % 340282366920938463463374607431768211297) / 18446744073709551557 + 1) :=
  wide_mul (drawn_b x).1 (drawn_b x).2.1 (by decide) (by decide) (by decide)
theorem drawn4 (x : Int) : CMulW (((x % 340282366920938463463374607431768211297) % 18446744073709551557 + 1) * ((x % 340282366920938463463374607431768211297) / 18446744073709551557 + 1)) (x % 340282366920938463463374607431768211297) :=
  wide_mul (wide_lt (drawn_b x).1 (drawn_b x).2.1) (drawn_b x).2.2 (by decide) (by decide) (by decide)
theorem dpAll_ints {K : PySem.W.Frag} {H : Hp} : ∀ ns : List Int, DpAll K H (ns.map V.int) (ns.map PyData.int)
  | [] => .nil
  | n :: r => .cons (.int n) (dpAll_ints r)
theorem cell_at (ns : List Int) (k : Int) (h : ns ≠ []) : atI (ns.map V.int) (k % ((ns.map V.int).length : Nat)) = some (.int (ns.getD (k % ((ns.map V.int).length : Nat)).toNat 0)) := by
  have hl : 0 < ns.length := List.length_pos_iff.mpr h
  rw [List.length_map]
  have h1 : 0 ≤ k % (ns.length : Int) := Int.emod_nonneg k (by omega)
  have h2 : k % (ns.length : Int) < (ns.length : Int) := Int.emod_lt_of_pos k (by omega)
  obtain ⟨n, hn⟩ : ∃ n : Nat, k % (ns.length : Int) = n := ⟨_, (Int.toNat_of_nonneg h1).symm⟩
  rw [hn, Int.toNat_natCast]
  have hlt : n < ns.length := by omega
  refine atI_nat ?_
  rw [List.getElem?_map, List.getElem?_eq_getElem hlt, List.getD_eq_getElem?_getD, List.getElem?_eq_getElem hlt]
  rfl
end
end DL

namespace DL
open PySem PySem.Spec L2

/-! ### reckoning -/
section
variable {ε ε' α β : Type}
theorem M.eq_of {m n : M ε α} (h : ∀ k e, m.run k e = n.run k e) : m = n := M.ext' h
theorem run_bnd (m : M ε α) (f : α → M ε β) (k : β → Prop) (e : ε → Prop) : (bnd m f).run k e = m.run (fun a => (f a).run k e) e := rfl
theorem lft_ret {α : Type} (ρ : EnvD) (a : α) : lft ρ (ret a) = ret a := rfl
theorem bnd_lft {α : Type} (ρ : EnvD) (m : M Exn α) (a : α) (h : m = ret a) (f : α → MS) : bnd (lft ρ m) f = f a := by rw [h]
theorem bnd_of {m : M ε α} {a : α} (h : m = ret a) (f : α → M ε β) : bnd m f = f a := by rw [h]
theorem bnd_of2 {m : M ε α} {a : α} (h : m = ret a) {f : α → M ε β} {r : M ε β} (h2 : f a = r) : bnd m f = r := by rw [h]; exact h2
theorem M.imp {m : M ε α} {k k' : α → Prop} {e e' : ε → Prop} (x : m.run k e) (h : ∀ a, k a → k' a) (h' : ∀ a, e a → e' a) : m.run k' e' := m.mono _ _ _ _ h h' x
end
/-- a loop over a list, by an invariant -/
theorem forM_run {b : D → EnvD → Option EnvD} {g : EnvD → MS} {k : Out → Prop} {e : Exn × EnvD → Prop} (Inv : List D → EnvD → Prop)
    (hs : ∀ d ds ρ, Inv (d :: ds) ρ → ∃ ρ', b d ρ = some ρ' ∧ (g ρ').run (fun o => match o with
      | .nx ρ2 => Inv ds ρ2
      | .ct ρ2 => Inv ds ρ2
      | .bk ρ2 => k (.nx ρ2)
      | .rt d => k (.rt d)) e)
    (hd : ∀ ρ, Inv [] ρ → k (.nx ρ)) : ∀ (ds : List D) (ρ : EnvD), Inv ds ρ → (forM b g ds ρ).run k e
  | [], ρ, h => hd ρ h
  | d :: ds, ρ, h => by
    obtain ⟨ρ', e1, h1⟩ := hs d ds ρ h
    unfold forM
    rw [e1]
    refine (g ρ').mono _ _ _ _ (fun o ho => ?_) (fun _ z => z) h1
    cases o with
    | nx ρ2 => exact forM_run Inv hs hd ds ρ2 ho
    | ct ρ2 => exact forM_run Inv hs hd ds ρ2 ho
    | bk ρ2 => exact ho
    | rt d => exact ho
/-- a while loop, by an invariant that counts down -/
theorem while_run {ft : EnvD → M Exn Bool} {g : EnvD → MS} {k : Out → Prop} {e : Exn × EnvD → Prop} (Inv : Nat → EnvD → Prop)
    (hs : ∀ n ρ, Inv n ρ → ∃ c, ft ρ = ret c ∧ (c = true → (g ρ).run (fun o => match o with
      | .nx ρ2 => ∃ m, m < n ∧ Inv m ρ2
      | .ct ρ2 => ∃ m, m < n ∧ Inv m ρ2
      | .bk ρ2 => k (.nx ρ2)
      | .rt d => k (.rt d)) e) ∧ (c = false → k (.nx ρ))) (n : Nat) (ρ : EnvD) (h : Inv n ρ) : (whileS ft g ρ).run k e := by
  have key : ∀ N n ρ, n < N → Inv n ρ → (whileM ft g N ρ).run k e := by
    intro N
    induction N with
    | zero => intro n ρ h; omega
    | succ N ih =>
      intro n ρ hn h
      obtain ⟨c, ec, ht, hf⟩ := hs n ρ h
      unfold whileM
      rw [ec]
      show (if c = true then _ else _ : MS).run k e
      cases c with
      | false => exact hf rfl
      | true =>
        refine (g ρ).mono _ _ _ _ (fun o ho => ?_) (fun _ z => z) (ht rfl)
        cases o with
        | nx ρ2 => obtain ⟨m, hm, h2⟩ := ho; exact ih m ρ2 (by omega) h2
        | ct ρ2 => obtain ⟨m, hm, h2⟩ := ho; exact ih m ρ2 (by omega) h2
        | bk ρ2 => exact ho
        | rt d => exact ho
  exact ⟨n + 1, key (n + 1) n ρ (by omega) h⟩
/-- a comprehension -/
theorem lcGo_eq {b : D → EnvD → Option EnvD} {ft : EnvD → M Exn Bool} {fe : EnvD → M Exn D} {ρ : EnvD} {α : Type} (δ : α → D) (t : α → Bool) (r : α → D) :
    ∀ (xs : List α), (∀ x ∈ xs, ∃ ρ', b (δ x) ρ = some ρ' ∧ ft ρ' = ret (t x) ∧ (t x = true → fe ρ' = ret (r x))) → ∀ acc, lcGo b ft fe ρ (xs.map δ) acc = ret (acc ++ (xs.filter t).map r)
  | [], _, acc => by show ret acc = _; simp
  | x :: xs, h, acc => by
    obtain ⟨ρ', e1, e2, e3⟩ := h x (List.mem_cons_self ..)
    have ih := lcGo_eq δ t r xs fun y hy => h y (List.mem_cons_of_mem _ hy)
    rw [List.map_cons]
    unfold lcGo
    rw [e1]
    show bnd (noX (ft ρ')) _ = _
    rw [e2, noX_ret, bnd_ret]
    cases ht : t x with
    | true =>
      rw [if_pos rfl, e3 ht, noX_ret, bnd_ret, ih, List.filter_cons_of_pos ht, List.map_cons, List.append_assoc]
      rfl
    | false =>
      rw [if_neg (by simp), ih, List.filter_cons_of_neg (by simp [ht])]
theorem lcD_eq {fs : EnvD → M Exn (List D)} {b : D → EnvD → Option EnvD} {sl : List Nat} {ft : EnvD → M Exn Bool} {fe : EnvD → M Exn D} {ρ : EnvD} {α : Type} {xs : List α} (δ : α → D) (t : α → Bool) (r : α → D) (hf : fs ρ = ret (xs.map δ))
    (h : ∀ x ∈ xs, ∃ ρ', b (δ x) (wipeD ρ sl) = some ρ' ∧ ft ρ' = ret (t x) ∧ (t x = true → fe ρ' = ret (r x))) : lcD fs b sl ft fe ρ = ret (.lst ((xs.filter t).map r)) := by
  show bnd (fs ρ) _ = _
  rw [hf, bnd_ret, lcGo_eq δ t r xs h, bnd_ret]
  rfl
theorem filter_true {α : Type} (l : List α) : l.filter (fun _ => true) = l := List.filter_eq_self.mpr fun _ _ => rfl

/-! ### single steps -/
theorem fld_if {C : Addr} {nm : Str} {fs : List (Str × D)} {d : D} (h : fs.lookup nm = some d) : fldD C nm (.obj C fs) = ret d := by
  unfold fldD; simp [h]
section
variable (C : Addr) (due : Due) (r : Str)
theorem kind_lines : fldD C "lines" (kindD C due r) = ret (.lst (dueD due)) := fld_if rfl
theorem kind_rule : fldD C "rule" (kindD C due r) = ret (.str r) := fld_if rfl
theorem kind_table : fldD C "table" (kindD C due r) = ret (.dct (tabD due)) := fld_if rfl
theorem kind_firsts : fldD C "firsts" (kindD C due r) = ret (.dct (firstsD due)) := fld_if rfl
theorem kind_all : fldD C "all_bits" (kindD C due r) = ret (.int (orAll due)) := fld_if rfl
end
theorem ret_inj {ε α : Type} {a b : α} (h : a = b) : (ret a : M ε α) = ret b := by rw [h]

/-! ### numbers -/
def NumOk (due : Due) : Prop := ∀ p ∈ due, 0 ≤ p.2 ∧ p.2 < 1048576
/-- the first names, by numbers -/
def firstsL : Due → List (Int × Str) → List (Int × Str)
  | [], acc => acc
  | p :: r, acc => firstsL r (if (acc.lookup p.2).isSome then acc else acc ++ [(p.2, p.1)])
def toK (q : Int × Str) : Key × D := (Sum.inl q.1, D.str q.2)
theorem valD_toK (l : List (Int × Str)) (n : Int) : valD (l.map toK) (.inl n) = (l.lookup n).map D.str := by
  induction l with
  | nil => rfl
  | cons q l ih =>
    rw [List.map_cons, valD_cons, ih]
    by_cases h : q.1 = n
    · rw [if_pos (by rw [toK, h])]; obtain ⟨a, b⟩ := q; cases h; simp [List.lookup, toK]
    · rw [if_neg (by intro z; exact h (Sum.inl.inj z))]
      obtain ⟨a, b⟩ := q
      have : (n == a) = false := by simpa using fun z : n = a => h z.symm
      simp [List.lookup, this]
theorem any_of_valD_none {kvs : List (Key × D)} {k : Key} (h : valD kvs k = none) : (kvs.any fun kv => decide (kv.1 = k)) = false := by
  induction kvs with
  | nil => rfl
  | cons p r ih =>
    rw [valD_cons] at h
    split at h
    · cases h
    · rename_i hn; rw [List.any_cons, ih h, decide_eq_false hn]; rfl
theorem putD_new {kvs : List (Key × D)} {k : Key} {d : D} (h : valD kvs k = none) : putD kvs k d = kvs ++ [(k, d)] := by
  unfold putD
  rw [any_of_valD_none h]; rfl
theorem step1_toK (acc : List (Int × Str)) (p : Str × Int) : step1 (acc.map toK) p = (if (acc.lookup p.2).isSome then acc else acc ++ [(p.2, p.1)]).map toK := by
  unfold step1
  rw [valD_toK]
  cases h : acc.lookup p.2 with
  | some s => rfl
  | none =>
    show putD _ _ _ = _
    rw [putD_new (by rw [valD_toK, h]; rfl)]
    simp [toK]
theorem firstsD_eq (due : Due) : firstsD due = (firstsL due []).map toK := by
  have key : ∀ (due : Due) acc, due.foldl step1 (acc.map toK) = (firstsL due acc).map toK := by
    intro due
    induction due with
    | nil => intro acc; rfl
    | cons p r ih => intro acc; rw [List.foldl_cons, step1_toK, ih]; rfl
  exact key due []
def firstOf (due : Due) (n : Int) : Str := ((firstsL due []).lookup n).getD ⟨#[]⟩
theorem firstsL_keeps : ∀ (due : Due) (acc : List (Int × Str)) (n : Int) (s : Str), acc.lookup n = some s → (firstsL due acc).lookup n = some s
  | [], acc, n, s, h => h
  | p :: r, acc, n, s, h => by
    refine firstsL_keeps r _ n s ?_
    split
    · exact h
    · rw [List.lookup_append, h]; rfl
theorem firstsL_has : ∀ (due : Due) (acc : List (Int × Str)) (p : Str × Int), p ∈ due → ∃ s, (firstsL due acc).lookup p.2 = some s
  | q :: r, acc, p, h => by
    rcases List.mem_cons.mp h with rfl | h
    · unfold firstsL
      cases e : acc.lookup p.2 with
      | some s => exact ⟨s, firstsL_keeps r _ _ _ (by simp [e])⟩
      | none =>
        refine ⟨p.1, firstsL_keeps r _ _ _ ?_⟩
        simp [e, List.lookup_append, List.lookup]
    · exact firstsL_has r _ p h
theorem firstsD_get {due : Due} {p : Str × Int} (h : p ∈ due) : valD (firstsD due) (.inl p.2) = some (.str (firstOf due p.2)) := by
  rw [firstsD_eq, valD_toK]
  obtain ⟨s, e⟩ := firstsL_has due [] p h
  unfold firstOf
  rw [e]; rfl
/-- the numbers -/
def keysOf (due : Due) : List Int := (firstsL due []).map (·.1)
theorem ikeys_toK : ∀ l : List (Int × Str), ikeys (l.map toK) = some (l.map (·.1))
  | [] => rfl
  | q :: l => by
    show (ikeys (l.map toK)).map _ = _
    rw [ikeys_toK l]; rfl
theorem ikeys_firsts (due : Due) : ikeys (firstsD due) = some (keysOf due) := by rw [firstsD_eq, ikeys_toK]; rfl
theorem keys_mem : ∀ (due : Due) (acc : List (Int × Str)) (q : Int × Str), q ∈ firstsL due acc → q ∈ acc ∨ (q.2, q.1) ∈ due
  | [], acc, q, h => .inl h
  | p :: r, acc, q, h => by
    rcases keys_mem r _ q h with h | h
    · split at h
      · exact .inl h
      · rcases List.mem_append.mp h with h | h
        · exact .inl h
        · rw [List.mem_singleton] at h; subst h; exact .inr (List.mem_cons_self ..)
    · exact .inr (List.mem_cons_of_mem _ h)
theorem keysOf_mem {due : Due} {n : Int} (h : n ∈ keysOf due) : ∃ p ∈ due, p.2 = n := by
  obtain ⟨q, hq, rfl⟩ := List.mem_map.mp h
  rcases keys_mem due [] q hq with h | h
  · cases h
  · exact ⟨_, h, rfl⟩
theorem keysOf_len (due : Due) : (keysOf due).length ≤ due.length := by
  have := firstsD_len due
  rw [firstsD_eq, List.length_map] at this
  unfold keysOf; rw [List.length_map]; exact this
theorem srt_mem {n : Int} {l : List Int} : n ∈ srt l ↔ n ∈ l := (srt_perm l).mem_iff
/-- the marks, by a test -/
def marksL (t : Int → Bool) (due : Due) : Due := ((srt (keysOf due)).filter t).map fun n => (firstOf due n, n)
end DL

namespace DL
open PySem PySem.Spec L2

/-! ### bits -/
theorem bitAnd_nat (a b : Nat) : Builtin.bitAnd (a : Int) (b : Int) = ((a &&& b : Nat) : Int) := by
  unfold Builtin.bitAnd
  have h1 : decide ((0 : Int) ≤ (a : Int)) = true := decide_eq_true (by omega)
  have h2 : decide ((0 : Int) ≤ (b : Int)) = true := decide_eq_true (by omega)
  rw [h1, h2]
  simp
theorem bitNot_eq (x : Int) : Builtin.bitNot x = -x - 1 := by
  unfold Builtin.bitNot; omega
theorem bitOr_nat (a b : Nat) : Builtin.bitOr (a : Int) (b : Int) = ((a ||| b : Nat) : Int) := by
  unfold Builtin.bitOr Builtin.bitAnd
  have h1 : decide ((0 : Int) ≤ Builtin.bitNot (a : Int)) = false := decide_eq_false (by rw [bitNot_eq]; omega)
  have h2 : decide ((0 : Int) ≤ Builtin.bitNot (b : Int)) = false := decide_eq_false (by rw [bitNot_eq]; omega)
  rw [h1, h2]
  simp only [bitNot_eq]
  have e1 : (-(-(a : Int) - 1) - 1).toNat = a := by omega
  have e2 : (-(-(b : Int) - 1) - 1).toNat = b := by omega
  rw [e1, e2]
  omega
theorem pow_int (j : Nat) : ((2 : Int) ^ j) = ((2 ^ j : Nat) : Int) := by simp
theorem and_pow_zero (n j : Nat) : (n &&& 2 ^ j = 0) ↔ n.testBit j = false := by
  constructor
  · intro h
    have : (n &&& 2 ^ j).testBit j = false := by rw [h]; exact Nat.zero_testBit j
    rw [Nat.testBit_and, Nat.testBit_two_pow] at this
    simpa using this
  · intro h
    apply Nat.eq_of_testBit_eq
    intro i
    rw [Nat.testBit_and, Nat.testBit_two_pow, Nat.zero_testBit]
    by_cases e : j = i
    · subst e; rw [h]; rfl
    · simp [e]
/-- the low bits, by their bits -/
def sumBits (t : Nat → Bool) : Nat → Nat
  | 0 => 0
  | k + 1 => sumBits t k + if t k = true then 2 ^ k else 0
theorem mod_succ (n k : Nat) : n % 2 ^ (k + 1) = n % 2 ^ k + if n.testBit k = true then 2 ^ k else 0 := by
  rw [Nat.mod_pow_succ]
  congr 1
  have h := Nat.testBit_eq_decide_div_mod_eq (x := n) (i := k)
  have h2 := Nat.mod_two_eq_zero_or_one (n / 2 ^ k)
  rw [h]
  rcases h2 with e | e
  · rw [e]; simp
  · rw [e]; simp
theorem sumBits_succ (t : Nat → Bool) (k : Nat) : sumBits t (k + 1) = sumBits t k + if t k = true then 2 ^ k else 0 := rfl
theorem sumBits_and (n m : Nat) : ∀ k, sumBits (fun i => n.testBit i && !m.testBit i) k + (n &&& m) % 2 ^ k = n % 2 ^ k
  | 0 => by simp [sumBits, Nat.mod_one]
  | k + 1 => by
    have ih := sumBits_and n m k
    rw [mod_succ, mod_succ n k, Nat.testBit_and, sumBits_succ]
    generalize sumBits (fun i => n.testBit i && !m.testBit i) k = a at ih ⊢
    generalize (n &&& m) % 2 ^ k = b at ih ⊢
    generalize n % 2 ^ k = c at ih ⊢
    cases n.testBit k <;> cases m.testBit k <;> simp <;> omega
theorem sumBits_self (n : Nat) (k : Nat) : sumBits (fun i => n.testBit i) k = n % 2 ^ k := by
  induction k with
  | zero => simp [sumBits, Nat.mod_one]
  | succ k ih => rw [sumBits_succ, ih, mod_succ]
/-- a sum over a filtered range -/
theorem sum_range_filter (t : Nat → Bool) : ∀ k, (((List.range k).filter t).map fun i => ((2 : Int) ^ i)).sum = (sumBits t k : Nat)
  | 0 => rfl
  | k + 1 => by
    rw [List.range_succ, List.filter_append, List.map_append, List.sum_append, sum_range_filter t k]
    rw [sumBits_succ]
    cases h : t k
    · rw [List.filter_cons_of_neg (by simp [h])]
      simp
    · rw [List.filter_cons_of_pos h]
      simp
theorem testBit_high {n k i : Nat} (h : n < 2 ^ k) (hi : k ≤ i) : n.testBit i = false := Nat.testBit_lt_two_pow (Nat.lt_of_lt_of_le h (Nat.pow_le_pow_right (by decide) hi))
/-! ### one bit or more -/
def isBit (n : Int) : Bool := decide (0 < n) && decide (Builtin.bitAnd n (n - 1) = 0)
def bitsOf (n : Nat) (k : Nat) : List Nat := (List.range k).filter fun i => n.testBit i
theorem bitsOf_sum {n k : Nat} (h : n < 2 ^ k) : ((bitsOf n k).map fun i => ((2 : Int) ^ i)).sum = (n : Int) := by
  unfold bitsOf
  rw [sum_range_filter, sumBits_self, Nat.mod_eq_of_lt h]
theorem isBit_iff {n k : Nat} (h : n < 2 ^ k) : isBit (n : Int) = decide ((bitsOf n k).length = 1) := by
  have hs := bitsOf_sum h
  unfold isBit
  by_cases h0 : n = 0
  · subst h0
    have : bitsOf 0 k = [] := by unfold bitsOf; simp
    rw [this]; rfl
  have hp : (0 : Int) < (n : Int) := by omega
  rw [decide_eq_true hp, Bool.true_and]
  have e1 : (n : Int) - 1 = ((n - 1 : Nat) : Int) := by omega
  rw [e1, bitAnd_nat]
  by_cases hl : (bitsOf n k).length = 1
  · rw [decide_eq_true hl]
    obtain ⟨j, hj⟩ := List.length_eq_one_iff.mp hl
    rw [hj] at hs
    have hn : n = 2 ^ j := by
      simp only [List.map_cons, List.map_nil, List.sum_cons, List.sum_nil, pow_int] at hs
      omega
    apply decide_eq_true
    rw [hn, Nat.and_two_pow_sub_one_eq_mod, Nat.mod_self]
    rfl
  · rw [decide_eq_false hl]
    apply decide_eq_false
    intro hz
    have hz : n &&& (n - 1) = 0 := by omega
    -- two bits
    obtain ⟨i, j, hij, hi, hj⟩ : ∃ i j, i < j ∧ n.testBit i = true ∧ n.testBit j = true := by
      have hnd : (bitsOf n k).Pairwise (· < ·) := List.Pairwise.filter _ (List.pairwise_lt_range)
      have hm : ∀ x ∈ bitsOf n k, n.testBit x = true := fun x hx => (List.mem_filter.mp hx).2
      cases hb : bitsOf n k with
      | nil => rw [hb] at hs; simp at hs; omega
      | cons a r =>
        cases r with
        | nil => rw [hb] at hl; exact absurd rfl hl
        | cons b r =>
          rw [hb] at hnd hm
          have h1 := (List.pairwise_cons.mp hnd).1 b (List.mem_cons_self ..)
          exact ⟨a, b, h1, hm a (List.mem_cons_self ..), hm b (List.mem_cons_of_mem _ (List.mem_cons_self ..))⟩
    have hr : 0 < n % 2 ^ j := by
      rcases Nat.eq_zero_or_pos (n % 2 ^ j) with z | z
      · have : (n % 2 ^ j).testBit i = true := by rw [Nat.testBit_mod_two_pow]; simp [hij, hi]
        rw [z] at this; simp at this
      · exact z
    have hd : (n - 1) / 2 ^ j = n / 2 ^ j := by
      have e := Nat.div_add_mod n (2 ^ j)
      have hlt := Nat.mod_lt n (Nat.two_pow_pos j)
      have e2 : n - 1 = 2 ^ j * (n / 2 ^ j) + (n % 2 ^ j - 1) := by
        generalize 2 ^ j * (n / 2 ^ j) = a at e ⊢
        generalize n % 2 ^ j = b at e hr ⊢
        omega
      have e3 : (n % 2 ^ j - 1) / 2 ^ j = 0 := Nat.div_eq_of_lt (by omega)
      rw [e2, Nat.mul_add_div (Nat.two_pow_pos j), e3, Nat.add_zero]
    have hb2 : (n - 1).testBit j = true := by
      rw [Nat.testBit_eq_decide_div_mod_eq] at hj ⊢
      rw [hd]; exact hj
    have : (n &&& (n - 1)).testBit j = true := by rw [Nat.testBit_and, hj, hb2]; rfl
    rw [hz] at this; simp at this
end DL

namespace DL
open PySem PySem.Spec L2

/-! ### == on data -/
def eqvD (a b : D) : Bool := match toP a, toP b with
  | some p, some q => PyData.eqv p q
  | _, _ => false
def Lay (n : Nat) (d : D) : Prop := ∃ p, toP d = some p ∧ PyData.canLay0 p = true ∧ PyData.depth p ≤ n
theorem eqD_lay {a b : D} {n m : Nat} (ha : Lay n a) (hb : Lay m b) (hn : n ≤ 64 := by decide) (hm : m ≤ 64 := by decide) (neg : Bool) : eqD neg a b = ret (D.bl (if neg then !eqvD a b else eqvD a b)) := by
  obtain ⟨p, e1, c1, d1⟩ := ha
  obtain ⟨q, e2, c2, d2⟩ := hb
  unfold eqD eqvD
  rw [e1, e2]
  show (if SeqAt.shaped p = true ∧ SeqAt.shaped q = true then _ else _) = _
  rw [if_pos ⟨by unfold SeqAt.shaped; rw [c1]; simp; omega, by unfold SeqAt.shaped; rw [c2]; simp; omega⟩]
theorem eqvD_refl {a : D} {n : Nat} (ha : Lay n a) : eqvD a a = true := by
  obtain ⟨p, e1, c1, d1⟩ := ha
  unfold eqvD; rw [e1]
  exact PySem.SeqAt.eqv_refl p c1
theorem lay_non {n : Nat} : Lay n .non := ⟨_, rfl, rfl, Nat.zero_le _⟩
theorem lay_int {n : Nat} (i : Int) : Lay n (.int i) := ⟨_, rfl, rfl, Nat.zero_le _⟩
theorem lay_bl {n : Nat} (i : Bool) : Lay n (.bl i) := ⟨_, rfl, rfl, Nat.zero_le _⟩
theorem lay_str {n : Nat} {s : Str} (h : PyData.strOk s = true) : Lay n (.str s) := ⟨_, rfl, h, Nat.zero_le _⟩
theorem lay_all {n : Nat} : ∀ {ds : List D}, (∀ d ∈ ds, Lay n d) → ∃ ps, toPs ds = some ps ∧ PyData.canLayAll0 ps = true ∧ PyData.depthAll ps ≤ n
  | [], _ => ⟨[], rfl, rfl, Nat.zero_le _⟩
  | d :: ds, h => by
    obtain ⟨p, e1, c1, d1⟩ := h d (List.mem_cons_self ..)
    obtain ⟨ps, e2, c2, d2⟩ := lay_all fun x hx => h x (List.mem_cons_of_mem _ hx)
    refine ⟨p :: ps, ?_, ?_, ?_⟩
    · unfold toPs; rw [e1, e2]; rfl
    · simp [PyData.canLayAll0, c1, c2]
    · simp only [PyData.depthAll]; omega
theorem lay_lst {n : Nat} {ds : List D} (h : ∀ d ∈ ds, Lay n d) : Lay (n + 1) (.lst ds) := by
  obtain ⟨ps, e, c, d⟩ := lay_all h
  refine ⟨.list ps, ?_, c, ?_⟩
  · unfold toP; rw [e]; rfl
  · simp only [PyData.depth]; omega
theorem lay_tup {n : Nat} {ds : List D} (h : ∀ d ∈ ds, Lay n d) : Lay (n + 1) (.tup ds) := by
  obtain ⟨ps, e, c, d⟩ := lay_all h
  refine ⟨.tuple ps, ?_, c, ?_⟩
  · unfold toP; rw [e]; rfl
  · simp only [PyData.depth]; omega
theorem lay_mono {n m : Nat} {d : D} (h : Lay n d) (hn : n ≤ m) : Lay m d := by
  obtain ⟨p, a, b, c⟩ := h; exact ⟨p, a, b, Nat.le_trans c hn⟩
theorem eqD_int (neg : Bool) (a b : Int) : eqD neg (.int a) (.int b) = ret (D.bl (if neg then !decide (a = b) else decide (a = b))) := by
  rw [eqD_lay (n := 0) (m := 0) (lay_int a) (lay_int b)]
  have : eqvD (.int a) (.int b) = decide (a = b) := by
    unfold eqvD; show PyData.eqv (.int a) (.int b) = _
    unfold PyData.eqv; rfl
  rw [this]
theorem eqvD_str (a b : Str) : eqvD (.str a) (.str b) = decide (a = b) := by
  unfold eqvD; show PyData.eqv (.str a) (.str b) = _
  unfold PyData.eqv
  by_cases h : a = b
  · simp [h]
  · simp [h]
theorem eqvD_nil {ds : List D} {n : Nat} (h : ∀ d ∈ ds, Lay n d) : eqvD (.lst ds) (.lst []) = ds.isEmpty := by
  obtain ⟨ps, e, c, d⟩ := lay_all h
  have e1 : toP (.lst ds) = some (.list ps) := by unfold toP; rw [e]; rfl
  unfold eqvD
  rw [e1]
  show PyData.eqv (.list ps) (.list []) = _
  cases ds with
  | nil => cases e; rfl
  | cons x r =>
    unfold toPs at e
    cases hx : toP x with
    | none => rw [hx] at e; cases e
    | some p =>
      rw [hx] at e
      cases hr : toPs r with
      | none => rw [hr] at e; cases e
      | some q => rw [hr] at e; cases e; rfl
/-- two values alike: != tells no -/
theorem ne_same {a : D} {n : Nat} (h : Lay n a) (hn : n ≤ 64 := by decide) : eqD true a a = ret (D.bl false) := by
  rw [eqD_lay h h hn hn, eqvD_refl h]; rfl

/-! ### a kind's functions -/
/-- the names that the law's kinds bear -/
def W10 : List Str := ["A", "B", "CD", "EFG", "H", "IJKLMN", "O", "P", "Q", "R"]
theorem W10_ok : ∀ s ∈ W10, PyData.strOk s = true := by decide +kernel
/-- the names that may stand in rows -/
def W11 : List Str := W10 ++ (["ZZ", "ZA", "ZB", "ZC", "ABCDEF"] : List Str)
theorem mem11 {s : Str} (h : s ∈ W10) : s ∈ W11 := List.mem_append.mpr (.inl h)
theorem W11_ok : ∀ s ∈ W11, PyData.strOk s = true := by decide +kernel
def NamesOk (due : Due) : Prop := ∀ p ∈ due, p.1 ∈ W11
theorem firsts_val {due : Due} : ∀ (acc : List (Int × Str)) (q : Int × Str), (∀ q ∈ acc, q.2 ∈ W11) → NamesOk due → q ∈ firstsL due acc → q.2 ∈ W11 := by
  intro acc q h1 h2 h
  rcases keys_mem due acc q h with h | h
  · exact h1 q h
  · exact h2 _ h
theorem lookup_mem {l : List (Int × Str)} {n : Int} {s : Str} (h : l.lookup n = some s) : (n, s) ∈ l := by
  induction l with
  | nil => cases h
  | cons q l ih =>
    obtain ⟨a, b⟩ := q
    by_cases e : n = a
    · subst e; simp [List.lookup] at h; subst h; exact List.mem_cons_self ..
    · have : (n == a) = false := by simpa using e
      simp [List.lookup, this] at h
      exact List.mem_cons_of_mem _ (ih h)
theorem firstOf_ok {due : Due} (hn : NamesOk due) {p : Str × Int} (h : p ∈ due) : firstOf due p.2 ∈ W11 := by
  obtain ⟨s, e⟩ := firstsL_has due [] p h
  unfold firstOf
  rw [e]
  exact firsts_val [] (p.2, s) (fun _ h => nomatch h) hn (lookup_mem e)
theorem dget_first {due : Due} {p : Str × Int} (h : p ∈ due) : dgetD (.dct (firstsD due)) (.int p.2) = ret (D.str (firstOf due p.2)) := by
  show (match valD (firstsD due) (.inl p.2) with
    | some d => ret d
    | none => stuck) = _
  rw [firstsD_get h]
theorem firstOf_strOk {due : Due} (hn : NamesOk due) {p : Str × Int} (h : p ∈ due) : PyData.strOk (firstOf due p.2) = true := W11_ok _ (firstOf_ok hn h)
/-- the aliases -/
def aliasT (due : Due) (p : Str × Int) : Bool := !decide (firstOf due p.2 = p.1)
def aliasesL (due : Due) : Due := due.filter (aliasT due)
theorem eqD_str (neg : Bool) {a b : Str} (ha : PyData.strOk a = true) (hb : PyData.strOk b = true) : eqD neg (.str a) (.str b) = ret (D.bl (if neg then !decide (a = b) else decide (a = b))) := by
  rw [eqD_lay (n := 0) (m := 0) (lay_str ha) (lay_str hb), eqvD_str]
theorem sorted_firsts {due : Due} (h : due.length < 64) : sortedD [.dct (firstsD due)] = ret (D.lst ((srt (keysOf due)).map D.int)) := by
  show (match ikeys (firstsD due) with
    | some is => if is.length < 64 then ret (D.lst ((srt is).map D.int)) else stuck
    | none => stuck) = _
  rw [ikeys_firsts]
  show (if (keysOf due).length < 64 then _ else _) = _
  rw [if_pos (Nat.lt_of_le_of_lt (keysOf_len due) h)]
theorem sum_ints (is : List Int) : sumD [.lst (is.map D.int)] = ret (D.int is.sum) := by
  show (match intsOf (is.map D.int) with
    | some is => ret (D.int is.sum)
    | none => stuck) = _
  rw [intsOf_map]
theorem tupD2 (a b : D) : tupD [a, b] = ret (D.tup [a, b]) := if_pos (by show 2 ≤ sizeLine; decide)
theorem sub_zero_pos (n : Int) (h : 0 < n) : decide (0 < n) = true := decide_eq_true h
end DL
namespace DL
open PySem PySem.Spec L2
/-! ### while, step by step -/
section
variable {ft : EnvD → M Exn Bool} {g : EnvD → MS} {ρ ρ' : EnvD} {d : D}
theorem while_stop (h : ft ρ = ret false) : whileS ft g ρ = ret (.nx ρ) := M.ext' fun k e => propext ⟨fun ⟨n, x⟩ => by
  cases n with
  | zero => exact x.elim
  | succ n => unfold whileM at x; rw [h] at x; exact x, fun x => ⟨1, by unfold whileM; rw [h]; exact x⟩⟩
theorem while_step (h : ft ρ = ret true) (hg : g ρ = ret (.nx ρ')) : whileS ft g ρ = whileS ft g ρ' := M.ext' fun k e => propext ⟨fun ⟨n, x⟩ => by
  cases n with
  | zero => exact x.elim
  | succ n => unfold whileM at x; rw [h, hg] at x; exact ⟨n, x⟩, fun ⟨n, x⟩ => ⟨n + 1, by unfold whileM; rw [h, hg]; exact x⟩⟩
theorem while_ret (h : ft ρ = ret true) (hg : g ρ = ret (.rt d)) : whileS ft g ρ = ret (.rt d) := M.ext' fun k e => propext ⟨fun ⟨n, x⟩ => by
  cases n with
  | zero => exact x.elim
  | succ n => unfold whileM at x; rw [h, hg] at x; exact x, fun x => ⟨1, by unfold whileM; rw [h, hg]; exact x⟩⟩
end
theorem bitsOf_succ (n j : Nat) : bitsOf n (j + 1) = bitsOf n j ++ if n.testBit j = true then [j] else [] := by
  unfold bitsOf
  rw [List.range_succ, List.filter_append]
  congr 1
  cases h : n.testBit j
  · rw [List.filter_cons_of_neg (by simp [h])]; rfl
  · rw [List.filter_cons_of_pos h]; rfl
theorem bitsOf_stop {n j : Nat} (h : n < 2 ^ j) : ∀ d, bitsOf n (j + d) = bitsOf n j
  | 0 => rfl
  | d + 1 => by
    show bitsOf n (j + d + 1) = _
    rw [bitsOf_succ, bitsOf_stop h d, testBit_high h (by omega)]
    simp
def bit2 (i : Nat) : D := .int (2 ^ i)
theorem mulD_two (j : Nat) : mulD (.int (2 ^ j)) (.int 2) = ret (D.int (2 ^ (j + 1))) := by
  have hc : CMul (2 ^ j) 2 := Or.inr ⟨by decide, by decide⟩
  have h1 : mulD (.int (2 ^ j)) (.int 2) = if CMul (2 ^ j) 2 then ret (D.int (2 ^ j * 2)) else stuck := rfl
  rw [h1, if_pos hc, Int.pow_succ]
theorem set_mul2 {i j : Nat} {ρ : EnvD} (h : getV i ρ = ret (D.int (2 ^ j))) : setI i (two (getV i) (kc (.int 2)) mulD) ρ = ret (.nx (ρ.set i (some (.im (.int (2 ^ (j + 1))))))) := by
  show bnd (lft ρ (bnd (getV i ρ) fun x => bnd (ret (D.int 2)) fun y => mulD x y)) _ = _
  rw [h, bnd_ret, bnd_ret, mulD_two]
theorem pow_le_cast {j n : Nat} : ((2 : Int) ^ j ≤ (n : Int)) ↔ 2 ^ j ≤ n := by rw [pow_int]; exact Int.ofNat_le
theorem and_bit (n j : Nat) : (Builtin.bitAnd (n : Int) (2 ^ j) = 0) ↔ n.testBit j = false := by
  rw [pow_int, bitAnd_nat, ← and_pow_zero]
  exact Int.natCast_eq_zero
end DL

namespace DX
open PySem PySem.Calls PyProof.Rows Builtin

/-! ### != by an own ==: object.__ne__ -/
section
variable {prog : Program} {w : World} {M : Model} {A : Around} {E : Value → Shared → Prop} {s : Shared} {K : PySem.W.Frag} {x C L f : Addr} {h₀ : Heap} {m : Str → Option Value} {ox : Obj} {od : Option Obj} {b tb : Value}
theorem ne_entry {Q : Fin → Shared → Prop} (X : K.In s.heap) (I : PySem.W.InstAt s.heap x ox C od) (hs : PySem.W.findIn K (.ref C) "__eq__" = some (some (.ref f))) (hf : PySem.W.isFn K (.ref f) = true) (hu : A.units < cLine)
    (hcall : wpAny (model prog w) A (call (.ref f) [.ref x, b]) (fun v s' => ∃ c, v = .bool c ∧ Q (.done (.ret (.bool (!c)))) s') E s) :
    wpAny (model prog w) A (Builtin.«object.__ne__» ⟨[.ref x, b], []⟩) Q E s := by
  obtain ⟨hp, g, d, t, os⟩ := s
  unfold Builtin.«object.__ne__»
  repeat (first
    | with_reducible refine wpAny_cRoomFor hu ?_
    | (refine wpAny_bind (m := callSpecialIfBound? (.ref x) (Str.ofString "__eq__") [b])
        (PySem.W.ifBound_K X I hs hf (wpAny_mono hcall (fun r s' hr => by
          obtain ⟨c, rfl, hq⟩ := hr
          repeat (first | exact hq | exact wpAny_pure hq | exact wpAny_truthy_bool hq | (refine wpAny_bind (m := truthy (.bool _)) (wpAny_truthy_bool ?_)) | wp_step)) fun _ _ e => e)))
    | wp_step)
theorem call_objNe {Q : Value → Shared → Prop} (X : K.In s.heap) (I : PySem.W.InstAt s.heap x ox C od) (hm : PySem.W.mroIn K C (.type "object") = some true) (hs : PySem.W.findIn K (.ref C) "__eq__" = some (some (.ref f))) (hf : PySem.W.isFn K (.ref f) = true) (hu : A.in1.units < cLine)
    (hcall : wpAny (model prog w) A.in1 (call (.ref f) [.ref x, b]) (fun v s' => ∃ c, v = .bool c ∧ Q (.bool (!c)) s') E s) :
    wpAny (model prog w) A (call (.builtin "object.__ne__") [.ref x, b]) Q E s :=
  wpAny_call (codeAny_call_builtin PySem.F.cmp_object.ne.plain PySem.F.cmpEntry_ne (PySem.W.check_slot PySem.F.cmpKind_ne PySem.F.cmpSplit_ne (I.type.andThen (PySem.W.looks_mroIn X hm)) (PySem.F.cmpArgs_ne _ _) (ne_entry X I hs hf hu (wpAny_mono hcall (fun v s' hv => by
    obtain ⟨c, rfl, hq⟩ := hv
    exact ⟨c, rfl, hq⟩) fun _ _ e => e))))
theorem ifBound_objNe {args : List Value} {Q : Option Value → Shared → Prop} (X : K.In s.heap) (I : PySem.W.InstAt s.heap x ox C od) (hs : PySem.W.findIn K (.ref C) "__ne__" = some (some (.builtin "object.__ne__")))
    (h : wpAny M A (call (.builtin "object.__ne__") (.ref x :: args)) (fun v => Q (some v)) E s) : wpAny M A (callSpecialIfBound? (.ref x) "__ne__" args) Q E s := by
  simp only [callSpecialIfBound?, bindSpecialIfBound?]
  refine wpAny_holding (wpAny_bind (wpAny_bind (wpAny_bind (I.type.here ((PySem.W.looks_findIn X hs).here ?_)))))
  refine wpAny_bind (wpAny_askSetting (wpAny_ite ?_))
  have fin : wpAny M A (call (.builtin "object.__ne__") ([.ref x] ++ args) >>= fun v => pure (some v)) Q E s := wpAny_bind (wpAny_mono h (fun v s' h' => wpAny_pure h') fun _ _ h' => h')
  split
  · exact wpAny_bind (wpAny_of_eq (PySem.F.cmp_object.ne.bind _) (wpAny_pure (by exact fin)))
  · exact wpAny_tryCatch (wpAny_bind (wpAny_of_eq (PySem.F.cmp_object.ne.bind _) (wpAny_pure (by exact fin))))
theorem ne_K {Q : Value → Shared → Prop} (hu : A.units < cLine) (hu1 : A.in1.units < cLine) (F : Fr h₀ L s.heap m) (X₀ : K.In h₀) (I : PySem.W.InstAt s.heap x ox C od) (hb : PySem.W.Looks (model prog w) s.heap (typeOf b) tb) (hn : PySem.W.notFirst K C tb = true)
    (hne : PySem.W.findIn K (.ref C) "__ne__" = some (some (.builtin "object.__ne__"))) (hm : PySem.W.mroIn K C (.type "object") = some true)
    (hs : PySem.W.findIn K (.ref C) "__eq__" = some (some (.ref f))) (hf : PySem.W.isFn K (.ref f) = true)
    (h : wpAny (model prog w) A.in1 (call (.ref f) [.ref x, b]) (fun v s' => ∃ c, v = .bool c ∧ Q (.bool (!c)) s') E s) : wpAny (model prog w) A (richCompare .NotEq (.ref x) b) Q E s := by
  have X := X₀.keeps F.keep
  have one : wpAny (model prog w) A (tryCompare (.ref x) "__ne__" b) (fun r s' => ∃ v, r = some v ∧ Q v s') E s := by
    unfold tryCompare
    refine wpAny_bind (ifBound_objNe X I hne (call_objNe X I hm hs hf hu1 (wpAny_mono h (fun v s' hv => ?_) fun _ _ e => e)))
    obtain ⟨c, rfl, hq⟩ := hv
    exact ⟨c, rfl, wpAny_pure ⟨_, rfl, hq⟩⟩
  unfold richCompare
  simp only [oneThing_ref]
  refine wpAny_holding (wpAny_bind (wpAny_cRoomFor hu ?_))
  refine wpAny_bind (I.type.here (wpAny_bind (hb.here ?_)))
  split
  · rename_i q
    have e : PySem.W.subIn K tb (.ref C) = some false := by
      rcases Bool.or_eq_true_iff.mp hn with e | e
      · rw [beq_iff_eq.mp e] at q; simp at q
      · exact beq_iff_eq.mp e
    refine wpAny_bind ((PySem.W.looks_subIn X e).here ?_)
    simp only [Bool.false_eq_true, if_false]
    refine wpAny_bind (wpAny_mono one (fun r s' z => ?_) fun _ _ e => e)
    obtain ⟨v, rfl, hq⟩ := z
    exact wpAny_pure hq
  · refine wpAny_bind (wpAny_pure ?_)
    simp only [Bool.false_eq_true, if_false]
    refine wpAny_bind (wpAny_mono one (fun r s' z => ?_) fun _ _ e => e)
    obtain ⟨v, rfl, hq⟩ := z
    exact wpAny_pure hq
end
end DX

namespace DL
open PySem PySem.Spec L2
/-! ### == and != of own instances, by an own __eq__ -/
structure EqCls (K : PySem.W.Frag) (C g : Addr) : Prop where
  eq : PySem.W.findIn K (.ref C) "__eq__" = some (some (.ref g))
  fn : PySem.W.isFn K (.ref g) = true
  ne : PySem.W.findIn K (.ref C) "__ne__" = some (some (.builtin "object.__ne__"))
  ob : PySem.W.mroIn K C (.type "object") = some true
theorem sub_no {K : PySem.W.Frag} {C : Addr} {n : String} (h : n ∈ ["NoneType", "bool", "int", "str", "list", "tuple", "dict"]) : PySem.W.subIn K (.type n) (.ref C) = some false := by
  have key : ∀ n ∈ ["NoneType", "bool", "int", "str", "list", "tuple", "dict"], ∃ l, fastBuiltinMro n = some l ∧ l.all (fun v => match v with
    | .type _ => true
    | _ => false) = true := by
    intro n hn
    simp only [List.mem_cons, List.mem_nil_iff, or_false] at hn
    rcases hn with rfl | rfl | rfl | rfl | rfl | rfl | rfl
    · exact ⟨[.type "NoneType", .type "object"], by decide +kernel, rfl⟩
    · exact ⟨[.type "bool", .type "int", .type "object"], by decide +kernel, rfl⟩
    · exact ⟨[.type "int", .type "object"], by decide +kernel, rfl⟩
    · exact ⟨[.type "str", .type "object"], by decide +kernel, rfl⟩
    · exact ⟨[.type "list", .type "object"], by decide +kernel, rfl⟩
    · exact ⟨[.type "tuple", .type "object"], by decide +kernel, rfl⟩
    · exact ⟨[.type "dict", .type "object"], by decide +kernel, rfl⟩
  obtain ⟨l, e, hl⟩ := key n h
  show (fastBuiltinMro n).map (·.contains (.ref C)) = some false
  rw [e]
  show some (l.contains (.ref C)) = some false
  congr 1
  rw [List.contains_eq_any_beq, List.any_eq_false]
  intro v hv z
  have := List.all_eq_true.mp hl v hv
  have z := beq_iff_eq.mp z
  subst z
  cases this
section
variable {X : Cx} {vol v : Vol} {W : WX} {F0 H0 : Hp} {a b : Expr} {fa fb : EnvD → M Exn D} {pos : Pos} {k j : Nat} {K : PySem.W.Frag} {C g : Addr} {fd : FuncData} {ps : List Str} {m : List D → M Exn D} {sp : Sp} {CX : CXT}
/-- what stands right of == -/
def RightOk (K : PySem.W.Frag) (C : Addr) (y : V) (H : Hp) : Prop := (∃ b dx fs, y = .ref b ∧ H b = some (.ins C dx fs)) ∨ ∃ n, n ∈ ["NoneType", "bool", "int", "str", "list", "tuple", "dict"] ∧ TyX K H y (.type n)
def rEqC (K : PySem.W.Frag) (C : Addr) (sp : Sp) (neg : Bool) : R2 := fun x y H Q => ∃ a dx fs, x = .ref a ∧ H a = some (.ins C dx fs) ∧ RightOk K C y H ∧ sp [x, y] H (fun v H' => ∃ c : Bool, v = .bl c ∧ Q (.bl (if neg then !c else c)) H') (fun _ _ _ => False)
theorem right_look {pins : List (Addr × Obj)} {s : Shared} {σ : St} {H : Hp} {y : V} {u : Value} (I : Inv X pins σ H s) (ry : RelV y u) (h : RightOk X.K C y H) : ∃ tb, PySem.W.Looks (model X.prog X.w) s.heap (typeOf u) tb ∧ PySem.W.notFirst X.K C tb = true := by
  rcases h with ⟨b, dx, fs, rfl, e⟩ | ⟨n, hn, t⟩
  · obtain rfl : u = Value.ref b := ry
    obtain ⟨mA, J, _⟩ := ins_get I.hok e
    obtain ⟨od, J, _⟩ := J.look
    exact ⟨_, J.type, by simp [PySem.W.notFirst]⟩
  · obtain ⟨P, kx, hP, _⟩ := kit_of I ry t
    refine ⟨_, kx.ty _ _ I.kIn hP, ?_⟩
    unfold PySem.W.notFirst
    rw [sub_no hn]
    simp
theorem op_eqC (F : FnOk X.prog X.w X.K X.mg X.base (L2N.CX X.prog X.w) j g fd ps sp) (c : EqCls X.K C g) (hr : Room (j + 1) X.A) (hb : Binds X.K fd ps []) : OpR X (compareOp .Eq) (rEqC X.K C sp false) := by
  intro pins s σ H x y vv u Q I rx ry hq
  obtain ⟨a, dx, fs, rfl, ha, hR, hsp⟩ := hq
  obtain rfl : vv = Value.ref a := rx
  obtain ⟨tb, hl, hn⟩ := right_look I ry hR
  obtain ⟨mA, J, _⟩ := ins_get I.hok ha
  obtain ⟨od, J, _⟩ := J.look
  obtain ⟨m, hF⟩ := I.fr
  have r2 : Vals [V.ref a, y] [Value.ref a, u] := .cons rfl (.cons ry .nil)
  refine PySem.W.cmp_K (op := .Eq) (tb := tb) hr.units0 hF I.ok.mod.kin J hl hn c.eq c.fn ?_
  refine wpAny_mono (run_fnS (E := fun _ => fun _ _ _ => False) F (hr.mono (Nat.le_succ _)) hb (L2N.passAt (W := fun _ _ _ _ => False) takes0N σ) I r2 hsp) (fun r s' z => ?_) fun _ _ e => e
  obtain ⟨w, H', I', rw_, cc, ew, q⟩ := z
  subst ew
  obtain rfl : r = Value.bool cc := rw_
  exact ⟨.bl cc, H', I', rfl, q⟩
theorem op_neC (F : FnOk X.prog X.w X.K X.mg X.base (L2N.CX X.prog X.w) j g fd ps sp) (c : EqCls X.K C g) (hr : Room (j + 1) X.A) (hb : Binds X.K fd ps []) : OpR X (compareOp .NotEq) (rEqC X.K C sp true) := by
  intro pins s σ H x y vv u Q I rx ry hq
  obtain ⟨a, dx, fs, rfl, ha, hR, hsp⟩ := hq
  obtain rfl : vv = Value.ref a := rx
  obtain ⟨tb, hl, hn⟩ := right_look I ry hR
  obtain ⟨mA, J, _⟩ := ins_get I.hok ha
  obtain ⟨od, J, _⟩ := J.look
  obtain ⟨m, hF⟩ := I.fr
  have r2 : Vals [V.ref a, y] [Value.ref a, u] := .cons rfl (.cons ry .nil)
  have sb : Sub X j X.A.in1 := ⟨Room.in1 hr, rfl⟩
  have e0 : Env0 X.prog X.w X.K X.mg X.base X.A.in1 X.stack s H := by
    have e := I.env0
    exact ⟨by rw [sb.fr]; exact e.frames, e.mod, e.bs, e.bsz, e.funs, e.frf, e.hok, e.bare⟩
  have hl2 := F.len _ _ _ _ hsp
  refine DX.ne_K (tb := tb) hr.units0 sb.room.units0 hF I.ok.mod.kin J hl hn c.ne c.ob c.eq c.fn ?_
  refine _root_.PySem.wpAny_call (codeAny_mono (F.run X.A.in1 X.stack s H ⟨[.ref a, u], []⟩ [.ref a, u] [.ref a, y] _ (fun _ _ _ => False) sb.room e0 (by
    have := hb s [.ref a, u] I.kIn (by simpa using hl2)
    simpa using this) r2 hsp) fun r s' hq => ?_)
  cases r with
  | error e => exact L2N.passes_call (W := fun _ _ _ _ => False) takes0N (fun _ _ _ _ h => h) pins σ H s e s' I hq
  | ok fl =>
    cases fl with
    | ret w =>
      obtain ⟨z, H', I', rz, cc, ez, q⟩ := I.after hq
      subst ez
      obtain rfl : w = Value.bool cc := rz
      exact ⟨cc, rfl, .bl (!cc), H', I', rfl, q⟩
    | next => exact False.elim hq
    | brk => exact False.elim hq
    | cont => exact False.elim hq
end
end DL
namespace DL
open PySem PySem.Spec L2
def okR (C : Addr) : D → Bool
  | .obj C' _ => decide (C' = C)
  | .fn _ => false
  | _ => true
def eqC (C : Addr) (neg : Bool) (m : List D → M Exn D) : D → D → M Exn D := fun x y => match x with
  | .obj C' gs => if C' = C ∧ okR C y = true then bnd (noX (m [.obj C' gs, y])) (fun r => match r with
    | .bl c => ret (.bl (if neg then !c else c))
    | _ => stuck) else stuck
  | _ => stuck
section
variable {X : Cx} {vol v : Vol} {W : WX} {F0 H0 : Hp} {a b : Expr} {fa fb : EnvD → M Exn D} {pos : Pos} {k j : Nat} {C g : Addr} {fd : FuncData} {ps : List Str} {m : List D → M Exn D}
theorem eqC_go {F H F1 H1 F2 H2 : Hp} {Q : VK} {x y : D} {v w : V} {neg : Bool} {e : Exn → Prop} (G : Good vol F H) (x1 : Ext vol F H F1 H1) (x2 : Ext vol F1 H1 F2 H2) (rx : Rep X.K F1 x v) (ry : Rep X.K F2 y w) (q : (eqC C neg m x y).run (VF vol X.K F H Q) e) : rEqC X.K C (spD vol0 X.K 2 m) neg v w H2 Q := by
  cases x with
  | obj C' gs =>
    have q1 : (if C' = C ∧ okR C y = true then bnd (noX (m [.obj C' gs, y])) (fun r => match r with
      | .bl c => ret (.bl (if neg then !c else c))
      | _ => stuck) else (stuck : M Exn D)).run (VF vol X.K F H Q) e := q
    by_cases hc : C' = C ∧ okR C y = true
    · rw [if_pos hc] at q1
      obtain ⟨rfl, hy⟩ := hc
      have rx2 := Rep.up x2.sF _ _ rx
      have rx3 := id rx2
      unfold Rep at rx2
      obtain ⟨a, dx, ws, rfl, ea, _⟩ := rx2
      have x12 := x1.trans G x2
      refine ⟨a, dx, ws, rfl, x2.g.sub _ _ ea, ?_, F2, [.obj C' gs, y], rfl, (VLe.zero vol).good _ _ x2.g, ⟨_, _, rfl, rx3, _, _, rfl, ry, rfl⟩, (m [.obj C' gs, y]).mono _ _ _ _ (fun d hd => ?_) (fun _ z => z.elim) q1⟩
      · cases y with
        | obj C2 gs2 =>
          have : C2 = C' := of_decide_eq_true hy
          subst this
          have ry2 := id ry
          unfold Rep at ry2
          obtain ⟨b, dx2, ws2, rfl, eb, _⟩ := ry2
          exact .inl ⟨b, dx2, ws2, rfl, x2.g.sub _ _ eb⟩
        | fn _ => cases hy
        | _ => exact .inr ⟨_, tyN_mem rfl, tyX_of x2.g (.inl ry) rfl⟩
      · cases d with
        | bl c =>
          intro vv F' H' x3 r3
          exact ⟨c, r3, hd _ F' H' (x12.trans G ((VLe.zero vol).ext _ _ _ _ x2.g x3)) rfl⟩
        | _ => exact hd.elim
    · rw [if_neg hc] at q1
      exact q1.elim
  | _ => exact q.elim
theorem df_eqC (F : FnOk X.prog X.w X.K X.mg X.base (L2N.CX X.prog X.w) j g fd ps (spD vol0 X.K 2 m)) (cx : Ctx X W k) (hj : j + 1 ≤ k) (c : EqCls X.K C g) (hb : Binds X.K fd ps []) (ha : DF X vol W a fa) (hb' : DF X vol W b fb) : DF X vol W (.Compare a [.Eq] [b] pos) (two fa fb (eqC C false m)) :=
  ⟨(pe_cmpR (op_eqC F c (cx.room.mono hj) hb) ha.run hb'.run (nomark _)).conseq fun σ H Q ⟨F0, ρ, G, E, q⟩ => tD.go G E q fun x q1 v F1 H1 x1 r1 => tD.go x1.g (E.ext x1) (MonoEX G x1 q1 fun _ z => z) fun y q2 w F2 H2 x2 r2 => eqC_go G x1 x2 r1 r2 q2⟩
theorem df_neC (F : FnOk X.prog X.w X.K X.mg X.base (L2N.CX X.prog X.w) j g fd ps (spD vol0 X.K 2 m)) (cx : Ctx X W k) (hj : j + 1 ≤ k) (c : EqCls X.K C g) (hb : Binds X.K fd ps []) (ha : DF X vol W a fa) (hb' : DF X vol W b fb) : DF X vol W (.Compare a [.NotEq] [b] pos) (two fa fb (eqC C true m)) :=
  ⟨(pe_cmpR (op_neC F c (cx.room.mono hj) hb) ha.run hb'.run (nomark _)).conseq fun σ H Q ⟨F0, ρ, G, E, q⟩ => tD.go G E q fun x q1 v F1 H1 x1 r1 => tD.go x1.g (E.ext x1) (MonoEX G x1 q1 fun _ z => z) fun y q2 w F2 H2 x2 r2 => eqC_go G x1 x2 r1 r2 q2⟩
end
end DL

namespace DXC
open PySem PySem.SeqAt
open AutoSeq1 (wpAny_loadPart')
open MeetsSeq MeetsSeq2 MeetsSeq3 SeqRoads2
section
variable {prog : Program} {w : World} {A : Around} {R : Result → Shared → Prop}
def ContI (prog : Program) (w : World) (A : Around) (R : Result → Shared → Prop) (l : Addr) (x : Value) (N : Nat) (I : Nat → Shared → Prop) : Prop :=
  ∀ i s, I i s → ∃ (items : Array Value) (n : Nat), s.heap.get? l = some { cls := .type "list", data := .seq items n } ∧ items.size = N ∧
    ∀ (h1 : i < items.size), wpAny (model prog w) A.in1 (eqBool items[i] x) (fun r s' => (r = true → R (.ok (.ret (.bool true))) s') ∧ (r = false → I (i + 1) s')) (fun e s' => R (.error e) s') s
theorem contains_loopG (l : Addr) (x : Value) (N : Nat) (I : Nat → Shared → Prop) (hl : ContI prog w A R l x N I)
    (fin : ∀ s, I N s → R (.ok (.ret (.bool false))) s) (k : Nat) :
    ∀ i : Nat, N - i = k → i ≤ N → ∀ s, I i s →
      wpAny (model prog w) A.in1 (Builtin.«list.__contains__.loop» ⟨[.ref l, x, rawInt i], []⟩) (GQ.FinOf prog w A R) (fun e s' => R (.error e) s') s := by
  induction k with
  | zero =>
    intro i hk hi s h
    obtain ⟨items, n, hl1, hs1, _⟩ := hl _ _ h
    have hi' : i = N := by omega
    have hR : R (.ok (.ret (.bool false))) s := fin s (hi' ▸ h)
    obtain ⟨hp, g, d, tk, os⟩ := s
    wp_walk using wpAny_loadPart' hl1
    have hi1 : items[((i : Nat) : Int).toNat]? = none := by simp; omega
    rw [hi1]
    wp_walk
    exact hR
  | succ k ih =>
    intro i hk hi s h
    obtain ⟨items, n, hl1, hs1, turn⟩ := hl _ _ h
    have hlt : i < items.size := by omega
    have ht := turn hlt
    obtain ⟨hp, g, d, tk, os⟩ := s
    wp_walk using wpAny_loadPart' hl1
    have hi1 : items[((i : Nat) : Int).toNat]? = some items[i] := by simp [hlt]
    have hc : ((i : Int) + 1) = ((i + 1 : Nat) : Int) := by omega
    rw [hi1]
    refine wpAny_bind (wpAny_mono ht (fun r s2 h2 => ?_) fun _ _ x => x)
    obtain ⟨ht2, hf2⟩ := h2
    cases r with
    | true =>
      have h3 := ht2 rfl
      obtain ⟨hp2, g2, d2, tk2, os2⟩ := s2
      wp_walk
      exact h3
    | false =>
      have hrec := ih (i + 1) (by omega) (by omega) s2 (hf2 rfl)
      obtain ⟨hp2, g2, d2, tk2, os2⟩ := s2
      wp_walk
      rw [hc]
      exact ⟨plainId_quiet plain_contains_loop _, codeAny_builtin entry_contains_loop (by
        rw [Around.under_plainId plain_contains_loop _]
        exact hrec)⟩
theorem contains_G {E : Value → Shared → Prop} {s : Shared} {l : Addr} {x : Value} {N : Nat} {Q : Value → Shared → Prop} (I : Nat → Shared → Prop)
    (hl : ContI prog w A (wants (fun v s' => ∃ b, v = .bool b ∧ Q (.bool b) s') E) l x N I) (fin : ∀ s, I N s → Q (.bool false) s) (h : I 0 s) : wpAny (model prog w) A (compareOp .In x (.ref l)) Q E s := by
  obtain ⟨items, n, hl1, hs1, _⟩ := hl _ _ h
  have hrec := contains_loopG (A := A) l x N I hl (fun s h => ⟨false, rfl, fin s h⟩) N 0 (Nat.sub_zero _) (Nat.zero_le _) s h
  show wpAny _ A (do return .bool (← contains (.ref l) x)) Q E s
  refine wpAny_bind (wpAny_contains_slot (T := "list") ⟨_, hl1, rfl⟩ F.slot_list_contains (wpAny_mono (GQ.call_here (E := E) (Q := fun v s' => ∃ b, v = .bool b ∧ Q (.bool b) s') F.slot_list_contains ⟨_, hl1, rfl⟩ F.entry_list_contains (F.args_list_contains_2 _ _) ?_) (fun v s' hv => ?_) fun _ _ e => e))
  · obtain ⟨hp, g, d, tk, os⟩ := s
    wp_walk using wpAny_loadPart' hl1
    exact ⟨plainId_quiet plain_contains_loop _, codeAny_builtin entry_contains_loop (by
      rw [Around.under_plainId plain_contains_loop _]
      exact hrec)⟩
  · obtain ⟨b, rfl, hq⟩ := hv
    exact wpAny_truthy_bool (wpAny_pure hq)
end
end DXC
namespace DL
open PySem PySem.Spec L2
section
variable {X : Cx} {vol v : Vol} {W : WX} {F0 H0 : Hp} {a b : Expr} {fa fb : EnvD → M Exn D} {pos : Pos} {k j : Nat} {C g : Addr} {fd : FuncData} {ps : List Str} {m : List D → M Exn D} {sp : Sp}
theorem run_in1 {pins : List (Addr × Obj)} {σ : St} {H : Hp} {s : Shared} {Q : VK} {us : List Value} {vs : List V} (F : FnOk X.prog X.w X.K X.mg X.base (L2N.CX X.prog X.w) j g fd ps sp) (hr : Room (j + 1) X.A) (hb : Binds X.K fd ps []) (I : Inv X pins σ H s) (r : Vals vs us) (h : sp vs H Q (fun _ _ _ => False)) :
    wpAny (model X.prog X.w) X.A.in1 (_root_.PySem.call (.ref g) us) (EP X pins σ Q) X.xe s := by
  have sb : Sub X j X.A.in1 := ⟨Room.in1 hr, rfl⟩
  have e0 : Env0 X.prog X.w X.K X.mg X.base X.A.in1 X.stack s H := by
    have e := I.env0
    exact ⟨by rw [sb.fr]; exact e.frames, e.mod, e.bs, e.bsz, e.funs, e.frf, e.hok, e.bare⟩
  have hl2 := F.len _ _ _ _ h
  have hl3 : us.length = ps.length := by rw [← r.length]; exact hl2
  have b := hb s us I.kIn (by rw [List.append_nil]; exact hl3)
  rw [List.append_nil] at b
  refine _root_.PySem.wpAny_call (codeAny_mono (F.run X.A.in1 X.stack s H ⟨us, []⟩ us vs Q (fun _ _ _ => False) sb.room e0 b r h) fun r s' hq => ?_)
  cases r with
  | error e => exact L2N.passes_call (W := fun _ _ _ _ => False) takes0N (fun _ _ _ _ h => h) pins σ H s e s' I hq
  | ok fl =>
    cases fl with
    | ret w => exact I.after hq
    | next => exact False.elim hq
    | brk => exact False.elim hq
    | cont => exact False.elim hq
/-- the items, one behind another -/
def InRun (K : PySem.W.Frag) (C : Addr) (sp : Sp) (bx l : Addr) (xs : List V) (Q : VK) : List V → Hp → Prop
  | [], H => Q (.bl false) H
  | x :: r, H => ∃ a dx fs, x = .ref a ∧ a ≠ bx ∧ H a = some (.ins C dx fs) ∧ RightOk K C (.ref bx) H ∧ sp [.ref a, .ref bx] H (fun v H' => ∃ c : Bool, v = .bl c ∧ (c = true → Q (.bl true) H') ∧ (c = false → H' l = some (.lst xs) ∧ InRun K C sp bx l xs Q r H')) (fun _ _ _ => False)
def rInC (K : PySem.W.Frag) (C : Addr) (sp : Sp) : R2 := fun x y H Q => ∃ bx l xs, x = .ref bx ∧ y = .ref l ∧ H l = some (.lst xs) ∧ InRun K C sp bx l xs Q xs H
theorem op_inC (F : FnOk X.prog X.w X.K X.mg X.base (L2N.CX X.prog X.w) j g fd ps sp) (c : EqCls X.K C g) (hr : Room (j + 1) X.A) (hb : Binds X.K fd ps []) : OpR X (compareOp .In) (rInC X.K C sp) := by
  intro pins s σ H x y vv u Q I rx ry hq
  obtain ⟨bx, l, xs, rfl, rfl, hl, hrun⟩ := hq
  obtain rfl : vv = Value.ref bx := rx
  obtain rfl : u = Value.ref l := ry
  refine DXC.contains_G (N := xs.length) (fun i s' => ∃ H', Inv X pins σ H' s' ∧ H' l = some (.lst xs) ∧ i ≤ xs.length ∧ InRun X.K C sp bx l xs Q (xs.drop i) H') ?_ ?_ ⟨H, I, hl, Nat.zero_le _, hrun⟩
  · rintro i s' ⟨H', I', hl', hi, hrun'⟩
    obtain ⟨its, n, rv, ho, _⟩ := I'.lst hl'
    refine ⟨its.toArray, n, ho, by rw [List.size_toArray, rv.length], fun h1 => ?_⟩
    have hlt : i < xs.length := by rw [List.size_toArray] at h1; rw [rv.length]; exact h1
    rw [List.drop_eq_getElem_cons hlt] at hrun'
    obtain ⟨a, dx, fs, ea, hne, ha, hR, hsp⟩ := hrun'
    have hit : its.toArray[i] = Value.ref a := by
      have h2 : i < its.length := by rw [List.size_toArray] at h1; exact h1
      have := rv.get (i := i) (by rw [List.getElem?_eq_getElem hlt, ea])
      obtain ⟨w, e1, e2⟩ := this
      rw [List.getElem?_eq_getElem h2] at e1
      cases e1
      simp only [List.getElem_toArray]
      exact e2
    rw [hit]
    obtain ⟨tb, hlk, hn⟩ := right_look (y := .ref bx) I' rfl hR
    obtain ⟨mA, J, _⟩ := ins_get I'.hok ha
    obtain ⟨od, J, _⟩ := J.look
    obtain ⟨mm, hF⟩ := I'.fr
    have sb : Sub X j X.A.in1 := ⟨Room.in1 hr, rfl⟩
    refine GQ.eqBool_refG hne (PySem.W.cmp_K (op := .Eq) (tb := tb) sb.room.units0 hF I'.ok.mod.kin J hlk hn c.eq c.fn ?_)
    refine wpAny_mono (run_in1 (vs := [.ref a, .ref bx]) (us := [.ref a, .ref bx]) F hr hb I' (.cons rfl (.cons rfl .nil)) hsp) (fun r s2 z => ?_) fun _ _ e => e
    obtain ⟨w, H2, I2, rw_, cc, ew, q1, q2⟩ := z
    subst ew
    obtain rfl : r = Value.bool cc := rw_
    refine ⟨cc, rfl, fun h => ⟨true, rfl, .bl true, H2, I2, rfl, q1 h⟩, fun h => ⟨H2, I2, (q2 h).1, hlt, (q2 h).2⟩⟩
  · rintro s' ⟨H', I', hl', hi, hrun'⟩
    rw [List.drop_length] at hrun'
    exact ⟨.bl false, H', I', rfl, hrun'⟩
def diffF (gs hs : List (Str × D)) : Bool := gs.any fun p => match gs.lookup p.1, hs.lookup p.1 with
  | some a, some b => (match flatD a, flatD b with
    | some u, some v => !decide (u = v)
    | _, _ => false)
  | _, _ => false
theorem diffF_rep {K : PySem.W.Frag} {F : Hp} {gs hs : List (Str × D)} {ws : List (Str × V)} (h1 : RepF K F gs ws) (h2 : RepF K F hs ws) : diffF gs hs = false := by
  unfold diffF
  rw [List.any_eq_false]
  intro p hp z
  cases ea : gs.lookup p.1 with
  | none => rw [ea] at z; cases z
  | some d1 =>
    cases eb : hs.lookup p.1 with
    | none => rw [ea, eb] at z; cases z
    | some d2 =>
      rw [ea, eb] at z
      obtain ⟨v1, e1, r1⟩ := h1.lookup ea
      obtain ⟨v2, e2, r2⟩ := h2.lookup eb
      rw [e1] at e2; cases e2
      cases f1 : flatD d1 with
      | none => simp [f1] at z
      | some u =>
        cases f2 : flatD d2 with
        | none => simp [f1, f2] at z
        | some w =>
          have x1 := (Rep.flat f1 r1).1
          have x2 := (Rep.flat f2 r2).1
          simp [f1, f2, ← x1, ← x2] at z
def inGo (C : Addr) (m : List D → M Exn D) (x : D) : List D → M Exn D
  | [] => ret (.bl false)
  | d :: r => match d, x with
    | .obj C1 gs, .obj C2 hs => if C1 = C ∧ C2 = C ∧ diffF gs hs = true then bnd (noX (m [.obj C1 gs, .obj C2 hs])) (fun b => match b with
      | .bl c => if c = true then ret (.bl true) else inGo C m x r
      | _ => stuck) else stuck
    | _, _ => stuck
def inC (C : Addr) (m : List D → M Exn D) : D → D → M Exn D := fun x y => match y, x with
  | .lst ds, .obj C2 hs => inGo C m (.obj C2 hs) ds
  | _, _ => stuck
theorem inGo_run {F H : Hp} {Q : VK} {hs : List (Str × D)} {C2 bx l : Addr} {xs : List V} {e : Exn → Prop} (G : Good vol F H) : ∀ (ds : List D) (vs : List V) (F1 H1 : Hp), RepL X.K F1 ds vs → Ext vol F H F1 H1 → F1 l = some (.lst xs) → Rep X.K F1 (.obj C2 hs) (.ref bx) → (inGo C m (.obj C2 hs) ds).run (VF vol X.K F H Q) e → InRun X.K C (spD vol0 X.K 2 m) bx l xs Q vs H1
  | [], vs, F1, H1, r, x1, hl, rx, q => by
    cases r
    exact q (.bl false) F1 H1 x1 rfl
  | d :: ds, vs, F1, H1, r, x1, hl, rx, q => by
    obtain ⟨v, vr, rfl, rd, rr⟩ := r
    cases d with
    | obj C1 gs =>
      have q1 : (if C1 = C ∧ C2 = C ∧ diffF gs hs = true then bnd (noX (m [.obj C1 gs, .obj C2 hs])) (fun b => match b with
        | .bl c => if c = true then ret (.bl true) else inGo C m (.obj C2 hs) ds
        | _ => stuck) else (stuck : M Exn D)).run (VF vol X.K F H Q) e := q
      by_cases hc : C1 = C ∧ C2 = C ∧ diffF gs hs = true
      · rw [if_pos hc] at q1
        obtain ⟨hc1, hc2, hdf⟩ := hc
        have hc1 : C = C1 := hc1.symm
        subst hc1
        have rd2 := id rd
        have rx2 := id rx
        unfold Rep at rd2 rx2
        obtain ⟨a, dx, ws, rfl, ea, rf⟩ := rd2
        obtain ⟨bx', dx2, ws2, ebx, eb, rf2⟩ := rx2
        cases ebx
        rw [hc2] at eb
        refine ⟨a, dx, ws, rfl, ?_, x1.g.sub _ _ ea, .inl ⟨bx, dx2, ws2, rfl, x1.g.sub _ _ eb⟩, F1, [.obj C gs, .obj C2 hs], rfl, (VLe.zero vol).good _ _ x1.g, ⟨_, _, rfl, rd, _, _, rfl, rx, rfl⟩, (m _).mono _ _ _ _ (fun d' hd => ?_) (fun _ z => z.elim) q1⟩
        · intro z
          subst z
          rw [ea] at eb
          cases eb
          rw [diffF_rep rf rf2] at hdf
          cases hdf
        · cases d' with
          | bl c =>
            intro vv F' H' x3 r3
            have x13 := x1.trans G ((VLe.zero vol).ext _ _ _ _ x1.g x3)
            have hd2 : (if c = true then ret (.bl true) else inGo C m (.obj C2 hs) ds : M Exn D).run (VF vol X.K F H Q) e := hd
            refine ⟨c, r3, fun h => ?_, fun h => ⟨x3.g.sub _ _ (x3.sF _ _ hl), ?_⟩⟩
            · subst h
              exact hd2 (.bl true) F' H' x13 rfl
            · subst h
              exact inGo_run G ds vr F' H' (RepL.up x3.sF _ _ rr) x13 (x3.sF _ _ hl) (Rep.up x3.sF _ _ rx) hd2
          | _ => exact hd.elim
      · rw [if_neg hc] at q1
        exact q1.elim
    | _ => exact q.elim
theorem dt_inC (F : FnOk X.prog X.w X.K X.mg X.base (L2N.CX X.prog X.w) j g fd ps (spD vol0 X.K 2 m)) (cx : Ctx X W k) (hj : j + 1 ≤ k) (c : EqCls X.K C g) (hb : Binds X.K fd ps []) (ha : DF X vol W a fa) (hb' : DF X vol W b fb) (hm : behindInMarks .In b = false := by rfl) : DT X vol W (.Compare a [.In] [b] pos) (tst (two fa fb (inC C m))) :=
  ⟨(pt_cmpR (op_inC F c (cx.room.mono hj) hb) ha.run hb'.run hm).conseq fun σ H Q ⟨F0, ρ, G, E, q⟩ => by
    refine tD.go G E ((two fa fb (inC C m) ρ).mono (fun d => VF vol X.K F0 H (fun v H' => ∃ b, v = .bl b ∧ Q b H') d) _ _ _ (fun d h => h) (fun _ z => z) ((two fa fb (inC C m) ρ).mono _ _ _ _ (fun d q1 v F1 H1 x1 r1 => by
      unfold asB at q1
      split at q1
      · cases r1; exact ⟨_, rfl, q1 F1 H1 x1⟩
      · exact q1.elim) (fun _ z => z) q)) fun x q1 v F1 H1 x1 r1 => tD.go x1.g (E.ext x1) (MonoEX G x1 q1 fun _ z => z) fun y q2 w F2 H2 x2 r2 => ?_
    cases y with
    | lst ds =>
      have r2' := id r2
      unfold Rep at r2'
      obtain ⟨_, l, xs, rfl, hl, rl⟩ := r2'
      have r1' := Rep.up x2.sF _ _ r1
      cases x with
      | obj C2 hs =>
        have r1'' := id r1'
        unfold Rep at r1''
        obtain ⟨bx, dx2, ws2, rfl, eb, rf2⟩ := r1''
        exact ⟨bx, l, xs, rfl, rfl, x2.g.sub _ _ hl, inGo_run G ds xs F2 H2 rl (x1.trans G x2) hl r1' q2⟩
      | _ => exact q2.elim
    | _ => exact q2.elim⟩
end
end DL

namespace L2
open PySem PySem.Spec PyProof.Rows
theorem pe_rev9 {X : Cx} {e st : Expr} {te : TE} {ts : TO} {p2 pos : Pos} (he : PE X e te) (hst : PO X (some st) ts) : PE X (.Subscript e (.Slice none none (some st) p2) pos) (fun σ H Q => te σ H fun x H1 => ts σ H1 fun k H2 => k = some (-1) ∧ ∃ a xs, x = .ref a ∧ SqL X.K H2 a xs ∧ ∀ p, H2 p = none → Q (.ref p) (upd H2 p (.lst xs.reverse))) := by
  refine ⟨fun pins s σ H Q I h => ?_⟩
  refine Subscript_ (thn (he.run pins s σ H _ I h) fun v s1 ⟨x, H1, I1, r1, q1⟩ => ?_)
  refine wpAny_Slice ?_
  rw [evalPart_none]
  refine wpAny_pure ?_
  refine wpAny_pure ?_
  refine thn (hst.run pins s1 σ H1 _ I1 q1) fun vk s3 ⟨k, H3, I3, pk, ek, a, xs, ex, hx, q⟩ => ?_
  subst ek ex
  obtain rfl : v = Value.ref a := r1
  have I4 : Inv X pins σ H3 { s3 with heap := s3.heap.push { cls := .type "slice", data := .fields #[.none, .none, vk] } } := I3.kept (t' := s3.toks) fun b ob q => Heap.get?_push_of_some _ q
  obtain ⟨its, r, ht, hz⟩ := I4.list hx
  have hlen := r.length
  show wpAny (model X.prog X.w) X.A (subscriptTail e (.Slice none none (some st) p2) (.ref a) (.ref s3.heap.objs.size)) (EP X pins σ Q) X.xe { s3 with heap := s3.heap.push { cls := .type "slice", data := .fields #[.none, .none, vk] } }
  refine tail_any (ops := [.ref a, .ref s3.heap.objs.size]) ht.isList.typeIs slot_list_getitem.lookup ?_ (by with_unfolding_all rfl)
  refine wpAny_getItem_list_slice ht.isList (Heap.IsSliceOf.new ..) .none .none pk (by decide) ?_ (by rw [List.size_toArray] <;> omega)
  rw [PySem.W.krv_pick]
  refine ⟨.ref _, _, I4.laid (t' := s3.toks) (o := .lst xs.reverse) (fun b ob q => Heap.get?_push_of_some _ q) (Nat.le_refl _) ?_, rfl, q _ (I4.hok.fresh (Nat.le_refl _))⟩
  refine ⟨by rw [List.length_reverse]; exact hz, _, 0, ?_, Heap.get?_push_size _ rfl⟩
  exact r.reverse
end L2

namespace DL
open PySem PySem.Spec L2
section
variable {X : Cx} {vol v : Vol} {W : WX} {F0 H0 : Hp} {a b : Expr} {fa fb : EnvD → M Exn D} {pos p2 : Pos} {k j : Nat} {C g : Addr} {fd : FuncData} {ps : List Str} {m : List D → M Exn D}
def revL : D → Option Int → M Exn D
  | .lst ds, some (-1) => ret (.lst ds.reverse)
  | _, _ => stuck
@[reducible] def revD (fa : EnvD → M Exn D) (fs : EnvD → M Exn (Option Int)) : EnvD → M Exn D := fun ρ => bnd (fa ρ) fun x => bnd (fs ρ) fun k => revL x k
theorem RepL.rev {K : PySem.W.Frag} {F : Hp} : ∀ {ds : List D} {vs : List V}, RepL K F ds vs → RepL K F ds.reverse vs.reverse
  | [], vs, r => by cases r; exact rfl
  | d :: ds, vs, r => by
    obtain ⟨v, vr, rfl, rd, rr⟩ := r
    rw [List.reverse_cons, List.reverse_cons]
    exact (RepL.rev rr).append ⟨v, [], rfl, rd, rfl⟩
theorem df_rev {st : Expr} {fs : EnvD → M Exn (Option Int)} (ha : DF X vol W a fa) (hs : DO X vol W (some st) fs) : DN X vol W (.Subscript a (.Slice none none (some st) p2) pos) (revD fa fs) :=
  ⟨(pe_rev9 ha.run hs.run).conseq fun σ H Q ⟨F0, ρ, G, E, q⟩ => tD.go G E q fun x q1 v F1 H1 x1 r1 => by
    refine ⟨F1, ρ, x1.g, E.ext x1, (fs ρ).mono _ _ _ _ (fun k hk F2 H2 x2 => ?_) (fun _ z => z) (MonoEX G x1 q1 fun _ z => z)⟩
    have hk2 : (revL x k).run (VN vol X.K F0 H Q) (EX vol W σ F0 H) := hk
    have r2 := Rep.up x2.sF _ _ r1
    unfold revL at hk2
    split at hk2
    · rename_i ds
      have r3 := id r2
      unfold Rep at r3
      obtain ⟨hz, l, xs, rfl, hl, rl⟩ := r3
      refine ⟨rfl, l, xs, rfl, .inl (.inl (x2.g.sub _ _ hl)), fun p hp => ?_⟩
      have x12 := x1.trans G x2
      exact hk2 p F2 (upd H2 p (.lst xs.reverse)) (x12.trans G (x2.g.own hp)) (x12.free hp) ⟨x2.g.fF hp, x2.g.fZ hp, by rw [List.length_reverse]; exact hz, xs.reverse, upd_same, RepL.rev rl⟩
    · exact hk2.elim⟩
theorem dt_eqC (F : FnOk X.prog X.w X.K X.mg X.base (L2N.CX X.prog X.w) j g fd ps (spD vol0 X.K 2 m)) (cx : Ctx X W k) (hj : j + 1 ≤ k) (c : EqCls X.K C g) (hb : Binds X.K fd ps []) (ha : DF X vol W a fa) (hb' : DF X vol W b fb) : DT X vol W (.Compare a [.Eq] [b] pos) (tst (two fa fb (eqC C false m))) :=
  ⟨(pt_cmpR (op_eqC F c (cx.room.mono hj) hb) ha.run hb'.run (nomark _)).conseq fun σ H Q ⟨F0, ρ, G, E, q⟩ => tD.go G E ((two fa fb (eqC C false m) ρ).mono (fun d => VF vol X.K F0 H (fun v H' => ∃ b, v = .bl b ∧ Q b H') d) _ _ _ (fun d h => h) (fun _ z => z) ((two fa fb (eqC C false m) ρ).mono _ _ _ _ (fun d q1 v F1 H1 x1 r1 => by
      unfold asB at q1
      split at q1
      · cases r1; exact ⟨_, rfl, q1 F1 H1 x1⟩
      · exact q1.elim) (fun _ z => z) q)) fun x q1 v F1 H1 x1 r1 => tD.go x1.g (E.ext x1) (MonoEX G x1 q1 fun _ z => z) fun y q2 w F2 H2 x2 r2 => eqC_go G x1 x2 r1 r2 q2⟩
theorem dt_neC (F : FnOk X.prog X.w X.K X.mg X.base (L2N.CX X.prog X.w) j g fd ps (spD vol0 X.K 2 m)) (cx : Ctx X W k) (hj : j + 1 ≤ k) (c : EqCls X.K C g) (hb : Binds X.K fd ps []) (ha : DF X vol W a fa) (hb' : DF X vol W b fb) : DT X vol W (.Compare a [.NotEq] [b] pos) (tst (two fa fb (eqC C true m))) :=
  ⟨(pt_cmpR (op_neC F c (cx.room.mono hj) hb) ha.run hb'.run (nomark _)).conseq fun σ H Q ⟨F0, ρ, G, E, q⟩ => tD.go G E ((two fa fb (eqC C true m) ρ).mono (fun d => VF vol X.K F0 H (fun v H' => ∃ b, v = .bl b ∧ Q b H') d) _ _ _ (fun d h => h) (fun _ z => z) ((two fa fb (eqC C true m) ρ).mono _ _ _ _ (fun d q1 v F1 H1 x1 r1 => by
      unfold asB at q1
      split at q1
      · cases r1; exact ⟨_, rfl, q1 F1 H1 x1⟩
      · exact q1.elim) (fun _ z => z) q)) fun x q1 v F1 H1 x1 r1 => tD.go x1.g (E.ext x1) (MonoEX G x1 q1 fun _ z => z) fun y q2 w F2 H2 x2 r2 => eqC_go G x1 x2 r1 r2 q2⟩
def tyNs : List String := ["NoneType", "bool", "int", "str", "list", "tuple", "dict"]
def isCB (K : PySem.W.Frag) (C : Addr) : Bool := (tyNs.all fun T => decide (PySem.W.kitOne K (.type T) (.ref C) = some false)) && (He.eqO (PySem.W.findIn K (.ref C) "__class__") (some (some (.builtin "object.__class__"))) && (He.eqO (PySem.W.specialIn K (.builtin "object.__class__") "__get__") (some (some (.builtin "getset_descriptor.__get__"))) && (decide (PySem.W.takesIn K (.builtin "object.__class__") = some true) && decide (PySem.W.mroIn K C (.type "object") = some true))))
theorem isCB_ok {K : PySem.W.Frag} {C : Addr} (c : Cls K C) (h : isCB K C = true) : IsC K C := by
  obtain ⟨h1, h⟩ := He.ba h
  obtain ⟨h2, h⟩ := He.ba h
  obtain ⟨h3, h⟩ := He.ba h
  obtain ⟨h4, h5⟩ := He.ba h
  exact ⟨fun T hT => of_decide_eq_true (List.all_eq_true.mp h1 T hT), c, He.eqO_ok h2, He.eqO_ok h3, of_decide_eq_true h4, of_decide_eq_true h5⟩
def neB (K : PySem.W.Frag) (C : Addr) : Bool := He.eqO (PySem.W.findIn K (.ref C) "__ne__") (some (some (.builtin "object.__ne__")))
theorem eqCls_ok {K : PySem.W.Frag} {C g : Addr} (M : Meth K C "__eq__" g) (i : IsC K C) (h : neB K C = true) : EqCls K C g := ⟨M.at_, M.fn, He.eqO_ok h, i.hm⟩
end
end DL

set_option maxHeartbeats 2000000
/-! within an except suite: walks of lists, sum, a comprehension, isinstance -/
namespace DL
open PySem PySem.Spec PyProof.Rows L2

section
variable {prog : Program} {w : World} {A : Around} {E : Value → Shared → Prop} {s : Shared}
/-- a list's iterator is at its end while an exception is handled -/
theorem next_list_end_hot {it l x1 : Addr} {i : Nat} {items : Array Value} {Q : Option Value → Shared → Prop} (hot : HotX.HotAt A x1 s.heap) (hne : x1 ≠ it)
    (hit : s.heap.IsListIter it l i) (hl : s.heap.IsList l items) (hx : items[i]? = none)
    (hQ : ∀ h', (∀ b o, b ≠ it → s.heap.get? b = some o → h'.get? b = some o) → Q none { s with heap := h' }) : wpAny (model prog w) A (pyNext (.ref it)) Q E s := by
  have ⟨o, ho, hc, hd⟩ := id hit
  have ⟨ol, hol, _, nl, hdl⟩ := hl
  have ⟨hh, o1, vs1, h1, d1, c1⟩ := hot
  unfold pyNext
  refine wpAny_bind (wpAny_attempt (wpAny_callSpecial?_slot (name := Str.ofString "__next__") hit.typeIs slot_listiter_next (wpAny_call_entry slot_listiter_next hit.typeIs entry_listiter_next ?_ (args_listiter_next _))))
  show wpAny _ _ (field (.ref it) 0 >>= _) _ _ s
  refine wpAny_bind (wpAny_field ho hd (x := .ref l) rfl ?_)
  show wpAny _ _ (if (Value.ref l == Value.none) = true then _ else _) _ _ s
  rw [if_neg (show ¬ ((Value.ref l == Value.none) = true) from Bool.false_ne_true)]
  show wpAny _ _ (field (.ref it) 1 >>= _) _ _ s
  refine wpAny_bind (wpAny_field ho hd (x := .int i 0) rfl ?_)
  show wpAny _ _ (seqItems? (.ref l) >>= _) _ _ s
  refine wpAny_bind (wpAny_seqItems hol hdl ?_)
  simp only [Int.toNat_natCast, hx]
  refine wpAny_bind (wpAny_rule (wpAny_bind (wpAny_setField ho hd (by simp) ?_)))
  generalize hU : s.heap.update it _ = U
  have kU : ∀ b u, b ≠ it → s.heap.get? b = some u → U.get? b = some u := fun b u hb e => by rw [← hU]; exact (Heap.get?_update_other _ _ (Ne.symm hb)).trans e
  show wpAny _ _ (newExc (.type "StopIteration") [] >>= _) _ _ _
  refine wpAny_bind ?_
  simp only [newExc, newTuple]
  refine wpAny_bind (wpAny_newObj_type ?_ (by size_fits))
  refine wpAny_bind (m := firstArgMember _ _) (wpAny_of_eq (a := Value.none) (by first | rfl | (simp only [firstArgMember]; rfl)) ?_)
  refine wpAny_newObj_type ?_ (by size_fits)
  have k1 := kU x1 o1 hne h1
  refine HotX.raiseNew_hot ⟨hh, o1, vs1, Heap.get?_push_of_some _ (Heap.get?_push_of_some _ k1), d1, c1⟩ (Nat.ne_of_lt (Heap.lt_size (Heap.get?_push_of_some _ k1))) (Heap.get?_push_size _ rfl) rfl (by first | (simp; done) | (simp; omega) | (simp only [Array.size_append]; simp; omega)) ?_
  refine wpAny_bind (wpAny_isInstance (T := "StopIteration") (b := true) ⟨_, Heap.get?_update_self _ (Heap.get?_push_size _ rfl) rfl, rfl⟩ isSubtype_stop ?_)
  refine wpAny_pure (hQ _ fun b u hb e => ?_)
  have e2 := kU b u hb e
  rw [Heap.get?_update_other _ _ (Nat.ne_of_gt (Heap.lt_size (Heap.get?_push_of_some _ e2)))]
  exact Heap.get?_push_of_some _ (Heap.get?_push_of_some _ e2)
def CtxNone (h : Heap) (x1 : Addr) : Prop := ∃ (o : Obj) (vs : Array Value), h.get? x1 = some o ∧ o.data = .fields vs ∧ vs[2]? = some .none
theorem walks_listH {x1 : Addr} (hh : A.handled = some (.ref x1)) (I ax : Addr) (hne : ax ≠ I) (hx : x1 ≠ I) (items : Array Value) :
    Walks prog w A I [I, ax, x1] [I] items.size (fun i v => items[i]? = some v) (fun i h => h.IsListIter I ax i ∧ h.IsList ax items ∧ CtxNone h x1) where
  sub := fun b hb => by simp at hb; simp [hb]
  frame := fun _ h h' st hk => ⟨st.1.at fun o e => hk I (by simp) o e, st.2.1.at fun o e => hk ax (by simp) o e, by
    have ⟨o, vs, e, d, c⟩ := st.2.2
    exact ⟨o, vs, hk x1 (by simp) o e, d, c⟩⟩
  item := fun i s Q E hi st hQ => by
    refine wpAny_pyNext_list_item st.1 st.2.1 (x := items[i]) (by simp [hi]) fun h' hit' hs' => ?_
    have kp : ∀ b o, b ≠ I → s.heap.get? b = some o → h'.get? b = some o := fun b o hb e => hs'.extBut b o hb e
    have ⟨o, vs, e, d, c⟩ := st.2.2
    exact hQ _ h' s.toks (by simp [hi]) ⟨hit', st.2.1.extBut hs'.extBut hne, o, vs, kp x1 o hx e, d, c⟩ fun b o hb e => kp b o (fun h => hb (by simp [h])) e
  done := fun s Q E st hQ => by
    have ⟨o, vs, e, d, c⟩ := st.2.2
    exact next_list_end_hot ⟨hh, o, vs, e, d, c⟩ hx st.1 st.2.1 (by simp) fun h' he' => hQ h' s.toks fun b o hb e => he' b o (fun h => hb (by simp [h])) e
  self := fun _ _ _ _ st hQ => wpAny_pyIter_listiter st.1 hQ
end
theorem preSum_ns (ns : List Int) : ∀ n, n ≤ ns.length → preSum (fun i => ns.getD i 0) n = (ns.take n).sum
  | 0, _ => by simp [preSum]
  | n + 1, h => by
    have e : ns[n]? = some ns[n] := List.getElem?_eq_getElem (by omega)
    rw [preSum, preSum_ns ns n (by omega), List.take_succ, List.sum_append, e]
    simp [List.getD, e]
section
variable {X : Cx}
theorem HotC.x1 (hc : L2H.HotC X) : ∃ x1, X.A.handled = some (.ref x1) ∧ ∀ pins σ H s, Inv X pins σ H s → CtxNone s.heap x1 ∧ H x1 = none := by
  have ⟨p, ⟨hh, v1, e1, c1⟩, hp⟩ := hc
  exact ⟨p.1, hh, fun pins σ H s I => ⟨⟨p.2, v1, (I.pin p (List.mem_append_left _ hp)).1, e1, c1⟩, (I.pin p (List.mem_append_left _ hp)).2.1⟩⟩
/-- sum(xs) within an except suite -/
theorem cr_sumH (hc : L2H.HotC X) : CallR X (.builtin "sum") (rSum X.K) := by
  intro pins s σ H vs us Q I r h
  obtain ⟨a, ns, rfl, hs, q⟩ := h
  have ⟨its, rv, p, hz⟩ := I.list hs
  have ⟨x1, hh, hx⟩ := HotC.x1 hc
  have ⟨⟨ox, vx, ex, dx, cx⟩, nx⟩ := hx _ _ _ _ I
  rw [Vals.ref1 r]
  refine call_sum_walkG (wpAny_pyIter_list p.isList ?_)
  have hl := rv.length
  rw [List.length_map] at hl
  have la : a < s.heap.objs.size := by
    have ⟨o, e, _⟩ := p.isList
    exact Heap.lt_size e
  have pl := p.isList
  refine ⟨s.heap.objs.size, _, _, _, _, _, fun i => ns.getD i 0, rfl, walks_listH (A := X.A.in1) (x1 := x1) hh _ a (Nat.ne_of_lt la) (Nat.ne_of_lt (Heap.lt_size ex)) its.toArray, ⟨⟨_, Heap.get?_push_size _ rfl, rfl, rfl⟩, ?_, ox, vx, Heap.get?_push_of_some _ ex, dx, cx⟩, ?_, ?_, ?_⟩
  · exact pl.at fun o e => Heap.get?_push_of_some _ e
  · intro b hb
    rw [Heap.size_push]
    rcases List.mem_cons.mp hb with e | hb
    · rw [e]; exact Nat.lt_succ_self _
    rcases List.mem_cons.mp hb with e | hb
    · rw [e]; exact Nat.lt_succ_of_lt la
    rcases List.mem_cons.mp hb with e | hb
    · rw [e]; exact Nat.lt_succ_of_lt (Heap.lt_size ex)
    · cases hb
  · intro i v hv
    have hv : its[i]? = some v := by simpa using hv
    have hi : i < ns.length := by rw [hl]; exact (List.getElem?_eq_some_iff.mp hv).1
    obtain ⟨u, hu, ru⟩ := rv.get (i := i) (x := V.int ns[i]) (by rw [List.getElem?_map, List.getElem?_eq_getElem hi]; rfl)
    rw [hv] at hu; cases hu
    have ⟨t, e⟩ := (show ∃ t, v = Value.int ns[i] t from ru)
    exact ⟨t, by rw [e]; congr 1; simp [List.getD, List.getElem?_eq_getElem hi]⟩
  · intro h' tk t' hk
    have e : preSum (fun i => ns.getD i 0) its.toArray.size = ns.sum := by
      rw [List.size_toArray, ← hl, preSum_ns ns _ (Nat.le_refl _), List.take_length]
    rw [e]
    exact ⟨.int _, H, I.kept fun b o e => hk b o (fun z => by
      have z : b = s.heap.objs.size := by simpa using z
      rw [z] at e; exact absurd (Heap.lt_size e) (Nat.lt_irrefl _)) (Heap.get?_push_of_some _ e), ⟨_, rfl⟩, q⟩
/-- what [e for x in xs] asks within an except suite (no tests, a list walked) -/
def tLcH (K : PySem.W.Frag) (tl : TE) (g : TG) (te : TE) (vs : List Nat) : TE := fun σ H Q => tl σ H fun v H1 => ∃ a xs, v = .ref a ∧ SqL K H1 a xs ∧ ∀ D, H1 D = none → ∃ Pv : Nat → Hp → Prop, Pv 0 (upd H1 D (.lst [])) ∧ (∀ i H, Pv i H → SqL K H a xs) ∧
  (∀ i x H, xs[i]? = some x → Pv i H → g x (wipe σ vs) H fun σ2 H2 => wipe σ2 vs = wipe σ vs ∧ te σ2 H2 fun y H4 => ∃ acc, H4 D = some (.lst acc) ∧ acc.length < sizeLine ∧ Pv (i + 1) (upd H4 D (.lst (acc ++ [y])))) ∧ ∀ H, Pv xs.length H → Q (.ref D) H
theorem pe_lcH {elt tg iter : Expr} {scope : Scope} {own : List (Str × Nat)} {pos : Pos} {tl : TE} {g : TG} {te : TE} (hc : L2H.HotC X) (hex : X.ex = []) (hN : X.N.Nodup) (hl : PE X iter tl) (ok : BlkOk X.N X.env.scope scope own)
    (hg : ∀ (s : Shared) (H : Hp) (C : Addr) (cl : List (Str × Addr)) (fp : List Addr), PG (X.blk s H scope (compEnvC scope cl C X.env) fp) tg g)
    (he : ∀ (s : Shared) (H : Hp) (C : Addr) (cl : List (Str × Addr)) (fp : List Addr), PE (X.blk s H scope (compEnvC scope cl C X.env) fp) elt te) (hs : ∀ x, foldedSetIterable iter X.env x = pure x := by intro _; rfl) :
    PE X (.ListComp elt [⟨tg, iter, [], 0⟩] scope pos) (tLcH X.K tl g te (own.map (·.2))) := by
  refine ⟨fun pins s σ H Q I h => ?_⟩
  rw [eval_ListComp]
  have ⟨x1, hh, hx1⟩ := HotC.x1 hc
  have hfree : ∀ y ∈ scope.names, y.2 = .free → ∃ c, X.env.cells.lookup y.1 = some c := fun y hy e => (ok.free y hy e).elim (fun k => I.ok.has _ (.inl k)) (fun k => I.ok.has _ (.inr k))
  refine wpAny_comprehension_free (use := none) rfl hs (closure_ok hfree) ok.kind (fun y hy e => by rw [ok.uniq y hy, e]) (thn (hl.run pins s σ H _ I h) fun xv s1 hv => ?_)
  obtain ⟨v, H1, I1, rv1, a, xs, ev, hq, q⟩ := hv
  subst ev
  obtain rfl : xv = Value.ref a := rv1
  have ⟨its, rvs, pl, hz⟩ := I1.list hq
  refine wpAny_pyIter_list pl.isList ?_
  -- the iterator, the new list
  generalize hit : s1.heap.objs.size = it
  generalize hs2 : ({ s1 with heap := s1.heap.push _ } : Shared) = s2
  have h2 : s2.heap = s1.heap.push { cls := .type "list_iterator", data := .fields #[.ref a, .int 0 0] } := by rw [← hs2] <;> rfl
  have I2 : Inv X pins σ H1 s2 := by rw [← hs2]; exact I1.kept (t' := s1.toks) fun b o e => Heap.get?_push_of_some _ e
  have st2 : s2.heap.IsListIter it a 0 := by rw [h2, ← hit]; exact ⟨_, Heap.get?_push_size _ rfl, rfl, rfl⟩
  have f2 : FpOk X pins H1 it := by rw [← hit]; exact I1.fpOk (Nat.le_refl _) (I1.hok.fresh (Nat.le_refl _))
  refine wpAny_newObj_type (newEnv_comp ?_) (by show 0 ≤ sizeLine; decide)
  generalize hD : s2.heap.objs.size = D
  have hDn : H1 D = none := I2.hok.fresh (Nat.le_of_eq hD)
  obtain ⟨Pv, p0, pl1, turn, fin⟩ := q D hDn
  generalize hs3 : ({ s2 with heap := s2.heap.push { cls := .type "list", data := .seq ([] : List Value).toArray } } : Shared) = s3
  have h3 : s3.heap = s2.heap.push { cls := .type "list", data := .seq ([] : List Value).toArray } := by rw [← hs3]
  have I3 : Inv X pins σ (upd H1 D (.lst [])) s3 := by
    rw [← hs3]
    refine I2.laid (t' := s2.toks) (fun b o e => Heap.get?_push_of_some _ e) (Nat.le_of_eq hD) ⟨Nat.zero_le _, [], 0, .nil, ?_⟩
    rw [← hD]; exact Heap.get?_push_size _ rfl
  have itl : it < s2.heap.objs.size := by
    have ⟨o, e, _⟩ := st2
    exact Heap.lt_size e
  have f3 : ∀ b ∈ [it], FpOk X pins (upd H1 D (.lst [])) b ∧ b < s3.heap.objs.size := fun b hb => by
    rw [List.mem_singleton] at hb
    subst hb
    refine ⟨⟨?_, f2.2⟩, by rw [h3, Heap.size_push]; exact Nat.lt_succ_of_lt itl⟩
    rw [upd_ne (by rw [← hD]; exact Nat.ne_of_lt itl)]
    exact f2.1
  have I4 := block_start I3 ok hN f3
  have pg := hg s3 (upd H1 D (.lst [])) s3.heap.objs.size (cellsFrom (s3.heap.objs.size + 1) scope.names (cloFrom X.env.cells scope.names [])) [it]
  have pe := he s3 (upd H1 D (.lst [])) s3.heap.objs.size (cellsFrom (s3.heap.objs.size + 1) scope.names (cloFrom X.env.cells scope.names [])) [it]
  have hx3 := hx1 _ _ _ _ I3
  show codeAny _ _ (.compStart (.ListComp elt [⟨tg, iter, [], 0⟩] scope pos) 0 (.ref it) (.ref D) (compEnvC scope (cellsFrom (s3.heap.objs.size + 1) scope.names (cloFrom X.env.cells scope.names [])) s3.heap.objs.size X.env)) (compPost (model X.prog X.w) X.A X.xe none _ (.ref D) s3.heap.objs.size) { s3 with heap := pushCells (s3.heap.push { cls := .type "dict", data := .dict #[] }) scope.names }
  generalize hce : compEnvC scope (cellsFrom (s3.heap.objs.size + 1) scope.names (cloFrom X.env.cells scope.names [])) s3.heap.objs.size X.env = ce at I4 pg pe ⊢
  have cL : ce.locals = s3.heap.objs.size := by subst hce; rfl
  generalize hH3 : upd H1 D (.lst []) = H3 at I3 I4 pg pe p0 f3 hx3
  generalize hs4 : ({ s3 with heap := pushCells (s3.heap.push { cls := .type "dict", data := .dict #[] }) scope.names } : Shared) = s4 at I4 ⊢
  have st4 : s4.heap.IsListIter it a 0 := by
    refine st2.at fun o e => ?_
    rw [← hs4]
    exact pushCells_keeps _ _ _ _ (Heap.get?_push_of_some _ (by rw [h3]; exact Heap.get?_push_of_some _ e))
  have itne : x1 ≠ it := fun z => by
    have ⟨o, vs, e, d, c⟩ := (hx1 _ _ _ _ I1).1
    have := Heap.lt_size e
    rw [z, ← hit] at this; exact Nat.lt_irrefl _ this
  have xfs : x1 ∉ frs X.stack := fun hm => by
    have ⟨p, ⟨hh', v1, e1, c1⟩, hp⟩ := hc
    have e : x1 = p.1 := by rw [hh] at hh'; cases hh'; rfl
    have P1 := I3.pin p (List.mem_append_left _ hp)
    rw [e] at hm
    exact (List.mem_cons.mp (I3.stkSub p.1 hm)).elim P1.2.2.1 P1.2.2.2.1
  have cn : ∀ {σ' : L2.St} {H' : Hp} {s' : Shared}, Inv (X.blk s3 H3 scope ce [it]) [] σ' H' s' → CtxNone s'.heap x1 := fun {σ' H' s'} I' => by
    have ⟨⟨o, vs, e, d, c⟩, n⟩ := hx3
    exact ⟨o, vs, I'.base.keep x1 o e n xfs (fun z => itne (List.mem_singleton.mp z)), d, c⟩
  have stat : ∀ {σ' : L2.St} {H' : Hp} {s' : Shared}, Inv (X.blk s3 H3 scope ce [it]) [] σ' H' s' → H' it = none → FpOk (X.blk s3 H3 scope ce [it]) [] H' it := fun {σ' H' s'} I' hn =>
    ⟨hn, (I'.ok.exf it List.mem_cons_self).1, I'.ok.exfs it List.mem_cons_self, .inl List.mem_cons_self, fun x c e => (I'.ok.exf it List.mem_cons_self).2 x c e, fun p hp => by
      have hp : p ∈ ([] : List (Addr × Obj)) ++ [] := hp
      cases hp⟩
  have loop : codeAny (model X.prog X.w) X.A (.compLoop (.ListComp elt [⟨tg, iter, [], 0⟩] scope pos) 0 (.ref it) (.ref D) ce) (compPost (model X.prog X.w) X.A X.xe none (EP X pins σ Q) (.ref D) s3.heap.objs.size) s4 := by
    refine compLoop_any (fun n s' => ∃ i H', n = xs.length - i ∧ i ≤ xs.length ∧ Inv (X.blk s3 H3 scope ce [it]) [] (wipe σ (own.map (·.2))) H' s' ∧ s'.heap.IsListIter it a i ∧ H' it = none ∧ Pv i H') ?_ xs.length ⟨0, H3, rfl, Nat.zero_le _, I4, st4, (f3 it List.mem_cons_self).1.1, p0⟩
    rintro n s5 ⟨i, H5, rfl, hi, I5, st5, n5, p5⟩
    have hq5 := pl1 i H5 p5
    have ⟨its5, rv5, pl5, hz5⟩ := I5.list hq5
    have hl5 := rv5.length
    by_cases hlt : i < xs.length
    · -- a turn
      have ⟨u, hu, ru⟩ := rv5.get (i := i) (x := xs[i]) (List.getElem?_eq_getElem hlt)
      refine wpAny_pyNext_list_item st5 pl5.isList (x := u) (by simpa using hu) fun h6 st6 sb => ?_
      have ⟨f0, f1, f2', f3', f4, f5⟩ := stat I5 n5
      have I6 : Inv (X.blk s3 H3 scope ce [it]) [] (wipe σ (own.map (·.2))) H5 { s5 with heap := h6 } := I5.turned (t' := s5.toks) (fun b o hb e => (sb.2 b hb).trans e) f0 f1 f3' f4 f5
      have ⟨oi, e6, c6, d6⟩ := id st6
      refine go_of (s := { s5 with heap := h6 }) e6 c6 d6 (by decide) ?_
      have pin1 : ∀ p ∈ [(it, oi)], ({ s5 with heap := h6 } : Shared).heap.get? p.1 = some p.2 ∧ H5 p.1 = none := fun p hp => by
        rw [List.mem_singleton] at hp; subst hp; exact ⟨e6, n5⟩
      have I6' := I6.pinned (fp := [it]) (fun b hb => by rw [List.mem_singleton] at hb; subst hb; exact stat I6 n5) (fun b hb => by
        rw [List.mem_singleton] at hb; subst hb
        exact ⟨oi, e6, fun v z => by rw [d6] at z; cases z⟩)
      refine thnF (pg.run _ _ _ H5 xs[i] u _ I6' ru (turn i xs[i] H5 (List.getElem?_eq_getElem hlt) p5)) fun _ s8 ⟨σ8, H8, I8, hw8, q8⟩ => ?_
      refine wpAny_tests_nil ?_
      rw [if_pos rfl]
      refine thnF (pe.run _ s8 σ8 H8 _ I8 q8) fun z s10 ⟨yv, H10, I10, r10, acc, hD10, hz10, nx⟩ => ?_
      refine app_ok (X := X.blk s3 H3 scope ce [it]) I10 hD10 hz10 r10 fun s11 I11 => ?_
      have hlw : (wipe σ (own.map (·.2))).length = σ8.length := by rw [← hw8, wipe_length]
      have pin11 := I11.pin (it, oi) (List.mem_append_right _ (List.mem_append_right _ (mem_pinsAt List.mem_cons_self e6)))
      refine ⟨xs.length - (i + 1), by omega, i + 1, _, rfl, hlt, (I11.unpinned (pins := [])).weak hlw (fun j v e => ?_), st6.at fun o e => ?_, pin11.2.1, nx⟩
      · rw [← hw8] at e
        exact (wipe_some e).1
      · rw [show h6.get? it = some oi from e6] at e; cases e
        exact pin11.1
    · -- the end
      have ei : i = xs.length := by omega
      subst ei
      have ⟨f0, f1, f2', f3', f4, f5⟩ := stat I5 n5
      refine next_list_end_hot (x1 := x1) ⟨hh, cn I5⟩ itne st5 pl5.isList (by simp; omega) fun h' eb => ?_
      have I6 : Inv (X.blk s3 H3 scope ce [it]) [] (wipe σ (own.map (·.2))) H5 { s5 with heap := h' } := I5.turned (t' := s5.toks) (fun b o hb e => eb b o hb e) f0 f1 f3' f4 f5
      have I7 : Inv X pins σ H5 { s5 with heap := h' } := I3.call' (ch := [it]) I6.os I6.base I6.hok I6.bare fun b hb => ⟨(f3 b hb).1.2.2.2.1, (f3 b hb).1.2.1, (f3 b hb).1.2.2.2.2.1, (f3 b hb).1.2.2.2.2.2⟩
      have nC : H5 s3.heap.objs.size = none := by
        have z : H5 ce.locals = none := I6.free
        rw [cL] at z; exact z
      have ⟨m, hn, _⟩ := I6.loc
      have hn : h'.Ns ce.locals m := hn
      rw [cL] at hn
      refine ⟨m, hn, fun h'' sb => ?_⟩
      have ⟨g0, g1, g2, g3, g4, g5⟩ := I3.fpOk (Nat.le_refl _) nC
      exact ⟨.ref D, H5, I7.turned (t' := s5.toks) (fun b o hb e => (sb.2 b hb).trans e) g0 g1 g3 g4 g5, rfl, fin H5 p5⟩
  exact codeAny_compStart_list loop (wpAny_pyIter_listiter st4 loop)
end
end DL

set_option maxHeartbeats 2000000
/-! a lambda without parameters that is handed to a def which calls it in a try -/
namespace DL
open PySem PySem.Spec PyProof.Rows L2

/-! ### isinstance of the exception that is handled -/
def rIsX (K : PySem.W.Frag) (D a : Addr) (d : Option Addr) : List V → Hp → VK → Prop := fun xs H Q => ∃ (c : V) (cv : Value) (b : Bool), xs = [.ref a, c] ∧ (∀ u, RelV c u → u = cv) ∧ PySem.W.kitOne K (.ref D) cv = some b ∧ (∀ dd, d = some dd → ∃ fs, H dd = some (.xd fs)) ∧ Q (.bl b) H
theorem call_isX {X : Cx} {a D : Addr} {oe : Obj} {d : Option Addr} (C : ExcC X.K D) (hp : (a, oe) ∈ X.pn) (hz : Zc (.ref D) d oe) (hf : ∃ vs, oe.data = .fields vs) : CallR X (.builtin "isinstance") (rIsX X.K D a d) := by
  intro pins s σ H xs us Q I r h
  obtain ⟨c, cv, b, rfl, hcv, e, hd, q⟩ := h
  obtain ⟨u1, u2, rfl, r1, r2⟩ := vals2 r
  obtain rfl : u1 = Value.ref a := r1
  have ec := hcv _ r2
  subst ec
  have hget := (I.pin (a, oe) (List.mem_append_left _ hp)).1
  have ⟨vs, hv⟩ := hf
  have hcl : (PySem.W.clsIn X.K D).isSome = true := by
    have ⟨cd, hc, _⟩ := PySem.W.any_some C.hd
    rw [hc]; rfl
  cases d with
  | none =>
    have J : PySem.W.InstAt s.heap a oe D none := ⟨hget, hz.1, by unfold PySem.W.notCls; rw [hv] <;> rfl, by rw [hz.2]; trivial⟩
    exact PySem.W.kia_one (PySem.W.kitx_exc hcl C.hg C.hk C.hs C.ha C.hn C.ht C.hm) I.kIn J e (fun z => nomatch z) fun tk => ⟨.bl b, H, I.tok tk, rfl, q⟩
  | some dd =>
    have ⟨fs, ed⟩ := hd dd rfl
    have hx : ObjOk X.prog X.w H s.heap dd (.xd fs) := I.hok dd _ ed
    have ⟨mA, hns, hr⟩ := hx
    have ⟨od, ho, hl⟩ := lookIn_ns hns
    have J : PySem.W.InstAt s.heap a oe D (some od) := ⟨hget, hz.1, by unfold PySem.W.notCls; rw [hv] <;> rfl, by rw [hz.2]; exact ho⟩
    exact PySem.W.kia_one (PySem.W.kitx_exc hcl C.hg C.hk C.hs C.ha C.hn C.ht C.hm) I.kIn J e (fun z => nomatch z) fun tk => ⟨.bl b, H, I.tok tk, rfl, q⟩

/-! ### a def called within an except suite, its promise told of the exception that is handled -/
structure FnHp (P : Program) (w : World) (K : PySem.W.Frag) (mg : Str → Option Value) (base : Heap) (CX : CXT) (k : Nat) (f : Addr) (fd : FuncData) (ps : List Str) (sp : Addr × Obj → Sp) : Prop where
  len : ∀ p vs H Q E, sp p vs H Q E → vs.length = ps.length
  run : ∀ (A : Around) (outer : List Env) (s : Shared) (H : Hp) (args : Args) (us : List Value) (vs : List V) (Q : VK) (E : XK) (p : Addr × Obj), L2H.RoomH k A → L2H.Hot1 A p → L2H.PinOk outer H s p → Env0 P w K mg base A outer s H →
    BindsTo s fd args (ps.zip us) → Vals vs us → sp p vs H Q E → codeAny (model P w) A (.call (.ref f) args) (CR CX outer P w H s Q E) s
theorem fun_okHp {CX : CXT} {P : Program} {w : World} {K : PySem.W.Frag} {mg : Str → Option Value} {base : Heap} {k : Nat} {f : Addr} {fd : FuncData} {x qual : Str} {st : Stmt} {N ps : List Str} {sp : Addr × Obj → Sp} (F : Fun K x qual st f fd) (S : FnScope N ps (defScope st))
    (len : ∀ p vs H Q E, sp p vs H Q E → vs.length = ps.length)
    (hbody : ∀ cdv A outer s H vs Q E p, L2H.Hot1 A p → L2H.RoomH k (A.deeper (envOfC qual (defScope st) s.heap.objs.size f cdv)) → sp p vs H Q E →
      ∃ t, PSs (L2H.cxH CX P w K mg base N qual (defScope st) f cdv A outer s H E p) (defBody st) t ∧ t { nx := fun _ H' => Q .non H', rt := Q } (L2.start N vs) H) :
    FnHp P w K mg base CX (k + 1) f fd ps sp := by
  have ⟨oc, od, kV, doc, pm, an, cdv, ct, osl, e, lk, hcd⟩ := F.ex
  subst e
  refine ⟨len, fun A outer s H args us vs Q E p hr hot hpin e0 hb r hsp => ?_⟩
  have hl := len _ _ _ _ _ hsp
  have KX : K.In s.heap := e0.mod.kin.keeps fun b o e => (e0.bs b o e).1
  have lim : s.heap.NoLimit := e0.mod.nolimit.keeps fun b o e => (e0.bs b o e).1
  have hkind : ∀ y ∈ ps.zip us, (defScope st).names.lookup y.1 = some .local ∨ ((defScope st).names.lookup y.1 = some .cell ∧ ((cellsFrom (s.heap.objs.size + 1) (defScope st).names []).lookup y.1).isSome = true) := fun y hy => by
    rcases S.par y.1 (List.of_mem_zip (a := y.1) (b := y.2) hy).1 with q | q
    · exact .inl q
    · exact .inr ⟨q, PySem.W.cellsFrom_some _ _ _ (.inl q)⟩
  refine codeAny_call_function hr.depth (KX _ _ lk) rfl S.co S.gen rfl (PySem.W.codeRec_of KX hcd) (hb _ _ _ _ (wpAny_newFunctionEnv_cells S.kind hkind fun env he s1 x => ?_))
  subst he
  refine ⟨lim.keeps x.toInCall.keep, codeAny_func ?_⟩
  have ⟨t, ht, hq⟩ := hbody cdv A outer s H vs Q E p hot (hr.deeper _) hsp
  have I := L2H.inv_startH (CX := CX) (P := P) (w := w) (K := K) (mg := mg) (base := base) (N := N) (ps := ps) (qual := qual) (f := f) (cd := cdv) (A := A) (E := E) (vs := vs) (us := us) S hpin e0 hl r x
  refine wpAny_mono (ht.run [] s1 (L2.start N vs) H _ I hq) (fun fl s' hs => ?_) fun e s' hs => hs
  match fl, hs with
  | .ret u, ⟨v, σ', H', J, rv, q⟩ => exact ⟨v, H', J.os, J.bare, J.base, J.hok, rv, q⟩
  | .next, ⟨σ', H', J, q⟩ => exact ⟨.non, H', J.os, J.bare, J.base, J.hok, rfl, q⟩
  | .brk, ⟨_, _, _, q⟩ => exact False.elim q
  | .cont, ⟨_, _, _, q⟩ => exact False.elim q
section
variable {X : Cx} {CX : CXT} {k : Nat} {f C : Addr} {fd : FuncData} {ps : List Str} {E : L2.St → XK} {x m : Str} {q pos apos : Pos} {e o : Expr} {es : List Expr} {ta : TE} {t : TA}
theorem pe_callHp {sp : Addr × Obj → Sp} {p : Addr × Obj} (F : FnHp X.prog X.w X.K X.mg X.base CX k f fd ps sp) (hr : L2H.RoomH k X.A) (hot : L2H.Hot1 X.A p) (hp : p ∈ X.pn) (hg : Gl X x) (hm : X.mg x = some (.ref f)) (hk : PySem.W.keepIn X.K (.ref f) = true) (hb : Binds X.K fd ps []) (hx : ∀ σ, PassesAt CX X σ (E σ))
    (ha : PA X (e :: es) t) (hdb : (x == ("__debug__" : Str)) = false := by decide) (he : starEach (e :: es) X.env = (false, eval e X.env) :: starEach es X.env := by rfl) (hpl : (backTo pos (starEach es X.env)).any (·.1) = false := by rfl) :
    PE X (.Call (.Name x q) (e :: es) [] pos) (tCallS (sp p) E t) := by
  refine ⟨fun pins s σ H Q I h => wpAny_Call_Name_kw (ld_glob I hg hm (PySem.W.callWith_K (h₀ := X.base) I.ok.mod.kin hk (thn (ha.run pos pins s σ H _ I h) fun us s1 h1 => ?_) he hpl) hdb)⟩
  obtain ⟨vs, H1, I1, r, hsp⟩ := h1
  refine ⟨I1.kIn, ?_⟩
  have hl : us.length = ps.length := r.length.symm.trans (F.len _ _ _ _ _ hsp)
  have b := hb s1 us I1.kIn (by rw [List.append_nil]; exact hl)
  rw [List.append_nil] at b
  have P1 := I1.pin p (List.mem_append_left _ hp)
  have hpin : L2H.PinOk X.stack H1 s1 p := ⟨P1.1, P1.2.1, fun hm => (List.mem_cons.mp (I1.stkSub p.1 hm)).elim P1.2.2.1 P1.2.2.2.1, P1.2.2.2.2⟩
  refine wpAny_call (codeAny_mono (F.run X.A X.stack s1 H1 ⟨us, []⟩ us vs Q (E σ) p hr hot hpin I1.env0 b r hsp) fun r s' hq => ?_)
  match r, hq with
  | .error e, hq => exact hx σ pins H1 s1 e s' I1 hq
  | .ok (.ret u), hq => exact I1.after hq
  | .ok .next, hq => exact False.elim hq
  | .ok .brk, hq => exact False.elim hq
  | .ok .cont, hq => exact False.elim hq
end

/-! ### try: .., several except clauses that name the exception -/
def endsBut (i : Nat) (D : Ends) : Ends := { nx := fun σ H => D.nx (σ.set i none) H, rt := D.rt, bk := fun σ H => D.bk (σ.set i none) H, ct := fun σ H => D.ct (σ.set i none) H }
def wManyAs (K : PySem.W.Frag) (i : Nat) (Wout : WX) (D : Ends) : List (Value × (Addr → Value → Option Addr → TS)) → WX
  | [] => Wout
  | (c, ts) :: r => fun cls d σ H => ∃ b, PySem.W.exmOne K cls c = some b ∧ (b = true → ∀ a, H a = none → ts a cls d (endsBut i D) (σ.set i (some (.ref a))) H) ∧ (b = false → wManyAs K i Wout D r cls d σ H)
inductive HdsAs (X : Cx) (n : Str) : List ExceptHandler → List (Value × (Addr → Value → Option Addr → TS)) → Prop
  | nil : HdsAs X n [] []
  | cons {x : Str} {c : Value} {ts : Addr → Value → Option Addr → TS} {b₀ : Stmt} {suite : List Stmt} {np pos' : Pos} {hds : List ExceptHandler} {l : List (Value × (Addr → Value → Option Addr → TS))} (hc : Names X x c)
      (hsu : ∀ (a : Addr) (oe : Obj) (cls : Value) (d : Option Addr) (pn : List (Addr × Obj)), L2N.Zn cls d oe → (∃ vs, oe.data = .fields vs) → PSs (X.suite a ((a, oe) :: pn)) (b₀ :: suite) (ts a cls d)) (r : HdsAs X n hds l) :
      HdsAs X n (.ExceptHandler (some (.Name x np)) (some n) (b₀ :: suite) pos' :: hds) ((c, ts) :: l)
theorem ps_tryManyAs {X : Cx} {n : Str} {i : Nat} {body : List Stmt} {h₀ : ExceptHandler} {hds : List ExceptHandler} {l : List (Value × (Addr → Value → Option Addr → TS))} {pos : Pos} {tb : WX → TS} {Wout : WX}
    (hs : X.stack = X.env :: X.outer) (hf : X.env.frame = some X.env.locals) (hN : X.N.Nodup) (hi : X.N[i]? = some n) (hln : X.env.kindOf n = some .local) (tk : L2N.Takes X Wout)
    (hb : ∀ (W : WX) (pn : List (Addr × Obj)) (xe : Value → Shared → Prop), L2N.Takes (X.tr pn xe) W → PassesOwn (model X.prog X.w) X.A X.env xe → PSs (X.tr pn xe) body (tb W))
    (hh : HdsAs X n (h₀ :: hds) l) : PS X (.Try body (h₀ :: hds) [] [] pos) (fun D σ H => tb (wManyAs X.K i Wout D l) D σ H) := by
  refine ⟨fun pins s σ H D I h => ?_⟩
  have ok := I.ok
  have hfr : X.A.frames = some (X.env :: X.outer) := by rw [ok.frames, hs]
  refine wpAny_Try_except (wpAny_mono ((hb (wManyAs X.K i Wout D l) (X.pn ++ pins) (fun e s₁ => wpAny (model X.prog X.w) X.A (noteFrame e X.env) (fun _ s₂ => wpAny (model X.prog X.w) X.A (setFlight e none) (fun _ s₃ =>
    wpAny (model X.prog X.w) X.A (handleBy e X.env (h₀ :: hds)) (SP X pins D) X.xe s₃) X.xe s₂) X.xe s₁) (fun u s' xx => ?_) PassesOwn.looking).run [] s σ H D (I.toTry _) h) (fun f s1 hsp => ?_) (fun e s1 he => he))
  · have ⟨a, B, sI, pins', σ', H', cls, d, ea, J', nb, up, sky, na, os, ag, w⟩ := xx
    subst ea
    have J : Inv X pins σ' H' sI := J'.ofTry ok
    rw [show (X.tr (X.pn ++ pins) _).stack = X.env :: X.outer from hs] at sky
    refine L2N.Sky.land L2N.Zn.steady hfr hf sky fun h3 fl3 up3 => ?_
    have J3 : Inv X pins σ' H' { s' with heap := h3 } := J.landed nb fl3.1 (up.trans up3) os ag
    have ⟨oe3, vs3, he3, hz3, hd3⟩ := fl3.there
    have nfr : a ∉ frs (X.env :: X.outer) := fun hm => by
      have ⟨_, o', e', hnf⟩ := fl3.2.2.1.mem hm
      rw [he3] at e'; cases e'
      exact hnf _ hd3
    have nL : a ≠ X.env.locals := fun z => nfr (List.mem_filterMap.mpr ⟨X.env, List.mem_cons_self, by rw [hf, z]⟩)
    have nF : a ∉ X.fs := fun hm => by
      have ⟨e, he, q⟩ := List.mem_filterMap.mp hm
      exact nfr (List.mem_filterMap.mpr ⟨e, List.mem_cons_of_mem _ he, q⟩)
    have S3 := J3.suite he3 hd3 na nL nF
    have go : ∀ {hds' : List ExceptHandler} {l' : List (Value × (Addr → Value → Option Addr → TS))}, HdsAs X n hds' l' → wManyAs X.K i Wout D l' cls d σ' H' →
        wpAny (model X.prog X.w) X.A (handleBy (.ref a) X.env hds') (SP X pins D) X.xe { s' with heap := h3 } := by
      intro hds' l' hk
      induction hk with
      | nil =>
        intro w
        have ⟨k1, k2, k3, oe, vs, T, oT, ts', he, hz, hd, h1, hr⟩ := id fl3
        refine wpAny_handleBy_nil ?_
        unfold PySem.passOn
        refine wpAny_bind (wpAny_field he hd h1 ?_)
        rw [if_neg (show ¬ ((Value.ref T == Value.none) = true) from by simp)]
        have fin : wpAny (model X.prog X.w) X.A (setFlight (.ref a) X.env.frame) (fun _ s4 => wpAny (model X.prog X.w) X.A (throw (.ref a) : Sem Flow) (SP X pins D) X.xe s4) X.xe { s' with heap := h3 } := by
          rw [hf]
          exact HandSPX.setFlight_upZ fl3 fun h4 hh4 up4 => wpAny_throw (tk _ _ ⟨a, B, sI, pins, σ', H', cls, d, rfl, J, nb, (up.trans up3).trans up4, .inr (.inr (by rw [hs]; exact hh4)), na, os, ag, w⟩)
        first
          | exact wpAny_bind (wpAny_pure (wpAny_bind fin))
          | exact wpAny_bind fin
      | @cons x c ts b₀ suite np pos' hds2 l2 hc hsu r ih =>
        intro w
        have ⟨b, hb1, hyes, hno⟩ := w
        refine wpAny_handleBy_cons (codeAny_handlers_test ?_) (by intro q; cases q)
        have LT : PySem.W.Looks (model X.prog X.w) h3 (typeOf (.ref a)) cls := fun A Q E s k q => wpAny_typeOf_ref (k _ _ he3) (by rw [hz3.1]; exact q)
        have LM := PySem.W.exm_one (M := model X.prog X.w) (J3.kIn) LT hb1
        have test : ∀ {Q : Value → Shared → Prop} {E : Value → Shared → Prop}, Q c { s' with heap := h3 } → wpAny (model X.prog X.w) (X.A.mark (some (.ref a))) (eval (.Name x np) X.env) Q E { s' with heap := h3 } := fun {Q E} q => by
          have ⟨hg, hdbg, hm⟩ := hc
          rcases hm with hm | ⟨hm, hv, hnn⟩
          · exact ld_glob (X := X.suite a ((a, oe3) :: (X.pn ++ pins))) S3 hg hm q hdbg
          · exact ld_blt (X := X.suite a ((a, oe3) :: (X.pn ++ pins))) S3 hg hm hv q hnn hdbg
        refine test (LM.here ?_)
        cases b with
        | false =>
          show wpAny _ X.A (handleBy (.ref a) X.env hds2) _ _ _
          exact ih (hno rfl)
        | true =>
          refine codeAny_handlers_suite_as (HandSPX.lands_againZ fl3 fun h4 fl4 up4 => ?_)
          have J4 : Inv X pins σ' H' { s' with heap := h4 } := J.landed nb fl4.1 ((up.trans up3).trans up4) os ag
          have ⟨oe4, vs4, he4, hz4, hd4⟩ := fl4.there
          have S4 := J4.suite he4 hd4 na nL nF
          refine store_ok (X := X.suite a ((a, oe4) :: (X.pn ++ pins))) (v := .ref a) S4 hN hi (.inl hln) rfl (fun s5 S5 => ?_) (.inr hln)
          refine wpAny_mono ((hsu a oe4 cls d (X.pn ++ pins) hz4 ⟨_, hd4⟩).run [] s5 _ H' _ S5 (hyes rfl a na)) (fun f s6 hsp => ?_) (fun _ _ z => False.elim z)
          match f, hsp with
          | .next, ⟨σ6, H6, S6, q6⟩ => exact gone_ok (S6.unsuite ok) hN hi hln fun s7 J7 => ⟨_, _, J7, q6⟩
          | .brk, ⟨σ6, H6, S6, q6⟩ => exact gone_ok (S6.unsuite ok) hN hi hln fun s7 J7 => ⟨_, _, J7, q6⟩
          | .cont, ⟨σ6, H6, S6, q6⟩ => exact gone_ok (S6.unsuite ok) hN hi hln fun s7 J7 => ⟨_, _, J7, q6⟩
          | .ret u, ⟨v6, σ6, H6, S6, r6, q6⟩ => exact gone_ok (S6.unsuite ok) hN hi hln fun s7 J7 => ⟨_, _, _, J7, r6, q6⟩
    exact go hh w
  · match f, hsp with
    | .next, ⟨σ', H', J', q⟩ => exact wpAny_execs_nil ⟨σ', H', J'.ofTry ok, q⟩
    | .brk, ⟨σ', H', J', q⟩ => exact ⟨σ', H', J'.ofTry ok, q⟩
    | .cont, ⟨σ', H', J', q⟩ => exact ⟨σ', H', J'.ofTry ok, q⟩
    | .ret u, ⟨v, σ', H', J', r, q⟩ => exact ⟨v, σ', H', J'.ofTry ok, r, q⟩
end DL

set_option maxHeartbeats 2000000
namespace DL
open PySem PySem.Spec PyProof.Rows L2 LamX

/-! ### a lambda is made: the table of the maker's code grows, nothing else that stands -/
theorem lam_make3 {X : Cx} {pins : List (Addr × Obj)} {σ : L2.St} {H : Hp} {s : Shared} {c P : Addr} {params : Arguments} {body : Expr} {scope : Scope} {pos : Pos} {E : Value → Shared → Prop} {Q : Value → Shared → Prop}
    (I : Inv X pins σ H s) (TB : TabB X.base X.mg c P) (hcode : X.env.code = .ref c) (hT : TabS H P (X.env.qual ++ "<lambda>")) (hdef : defaultsOf params X.env = ([], [])) (hfree : ∀ y ∈ scope.names, y.2 = .free → ∃ c, X.env.cells.lookup y.1 = some c)
    (h : ∀ (f c' : Addr) (pm ctv : Value) (H1 : Hp) (s' : Shared), Inv X pins σ H1 s' → (∀ b o, b ≠ P → H b = some o → H1 b = some o) → TabS H1 P (X.env.qual ++ "<lambda>") →
      s'.heap.get? f = some (PySem.W.kla_obj "<lambda>" (X.env.qual ++ "<lambda>") params body scope (cloFrom X.env.cells scope.names []) pm c' ctv) → H1 f = none → f ∉ frs X.stack → H1 c' = some (CodeO c' (X.env.qual ++ "<lambda>")) → Q (.ref f) s') :
    wpAny (model X.prog X.w) X.A (eval (.Lambda params body scope pos) X.env) Q E s := by
  have ⟨ps, hP, ht, ha⟩ := hT
  have bP : s.heap.BuiltinsAt X.mg P := TB.bm.keeps I.bk
  have hP' : s.heap.get? P = some { cls := .none, data := .fields ps } := I.hok P _ hP
  have away : ∀ f, s.heap.objs.size ≤ f → f ∉ frs X.stack := fun f hf z => by
    rcases List.mem_cons.mp (I.stkSub _ z) with e | e
    · have := I.lt
      rw [← e] at this
      exact absurd (Nat.lt_of_lt_of_le this hf) (Nat.lt_irrefl _)
    · exact I.nofs hf e
  refine PySem.W.kla_eval hdef ?_
  match hc : codeAmong pos ps.toList with
  | some cv =>
    have ⟨c', e, hco⟩ := ha pos cv hc
    subst e
    refine PySem.W.kla_makeFunctionHit (mg := X.mg) (c := c) (P := P) (ps := ps) (closure_ok hfree) I.ok.glob (I.mod.glob.keeps I.bk) hcode (TB.code.keeps I.bk) hP' ht hc bP fun ctv h' tk hx hsz => ?_
    have I1 := I.kept (h' := h'.push (PySem.W.kla_obj "<lambda>" (X.env.qual ++ "<lambda>") params body scope (cloFrom X.env.cells scope.names []) ((X.mg "__name__").getD .none) c' ctv)) (t' := tk) fun b o e => Heap.get?_push_of_some _ (hx b o e)
    exact h h'.objs.size c' ((X.mg "__name__").getD .none) ctv H _ I1 (fun _ _ _ e => e) hT (Heap.get?_push_size _ rfl) (I.hok.fresh hsz) (away _ hsz) hco
  | none =>
    refine PySem.W.kla_makeFunction (mg := X.mg) (c := c) (P := P) (ps := ps) (closure_ok hfree) I.ok.glob (I.mod.glob.keeps I.bk) hcode (TB.code.keeps I.bk) hP' ht hc TB.gP bP fun c' ctv h' tk hx hge hlt hrec htb => ?_
    have ⟨c2, oc, vs, t, e2, hoc, hd, hv⟩ := hrec
    cases e2
    have hsz : s.heap.objs.size ≤ h'.objs.size := Nat.le_trans hge (Nat.le_of_lt hlt)
    have nC : H c' = none := I.hok.fresh hge
    have nPc : P ≠ c' := ne_of_none hP nC
    have I1 := inv_table (t' := tk) (q := X.env.qual ++ "<lambda>") (more := #[rawInt pos.line, rawInt pos.col, .ref c']) (h' := h'.push (PySem.W.kla_obj "<lambda>" (X.env.qual ++ "<lambda>") params body scope (cloFrom X.env.cells scope.names []) ((X.mg "__name__").getD .none) c' ctv)) I hP
      (fun b o hb e => Heap.get?_push_of_some _ (hx b o hb e)) (Heap.get?_push_of_some _ htb) hge ⟨oc, vs, t, Heap.get?_push_of_some _ hoc, hd, hv⟩
    generalize hH1 : upd (upd H P (.tbl (ps ++ #[rawInt pos.line, rawInt pos.col, .ref c']))) c' (CodeO c' (X.env.qual ++ "<lambda>")) = H1 at I1
    have hk : ∀ b o, b ≠ P → H b = some o → H1 b = some o := fun b o nb e => by rw [← hH1, upd_ne (ne_of_none e nC), upd_ne nb]; exact e
    have atc : H1 c' = some (CodeO c' (X.env.qual ++ "<lambda>")) := by rw [← hH1, upd_same]
    have eL : (ps ++ #[rawInt pos.line, rawInt pos.col, Value.ref c']).toList = ps.toList ++ [rawInt pos.line, rawInt pos.col, .ref c'] := by simp
    refine h h'.objs.size c' ((X.mg "__name__").getD .none) ctv H1 _ I1 hk ⟨_, by rw [← hH1, upd_ne nPc, upd_same], by rw [eL]; exact PySem.TriplesOk_snoc _ _ _ _ ht, fun p' cv hcv => ?_⟩ (Heap.get?_push_size _ rfl) ?_ (away _ hsz) atc
    · rw [eL] at hcv
      rcases among_app _ ht hcv with z | z
      · have ⟨c0, e1, e2⟩ := ha p' cv z
        exact ⟨c0, e1, hk c0 _ (fun y => by rw [y, hP] at e2; exact codeO_ne _ (Option.some.inj e2).symm) e2⟩
      · exact ⟨c', z, atc⟩
    · have n2 : h'.objs.size ≠ P := Nat.ne_of_gt (Nat.lt_of_lt_of_le (Heap.lt_size hP') hsz)
      rw [← hH1, upd_ne (Nat.ne_of_gt hlt), upd_ne n2]
      exact I.hok.fresh hsz

/-! ### the lambda's body, what leaves it told with its context -/
def lamCxN (X : Cx) (A : Around) (outer : List Env) (s : Shared) (H : Hp) (E : XK) (scope : Scope) (f c' : Addr) : Cx :=
  (lamCx X A outer s H E scope f c').tr [] fun e s' => wpAny (model X.prog X.w) (A.deeper (lamEnv X scope s.heap.objs.size f c')) (leaving (lamEnv X scope s.heap.objs.size f c') e) (fun _ s'' => L2N.CX X.prog X.w outer H s E e s'') (fun e' s'' => L2N.CX X.prog X.w outer H s E e' s'') s'
theorem lam_takes {X : Cx} {A : Around} {outer : List Env} {s : Shared} {H : Hp} {E : XK} {scope : Scope} {f c' : Addr} : L2N.Takes (lamCxN X A outer s H E scope f c') (fun cls d _ H => E cls d H) := L2N.takes_of rfl rfl rfl rfl
theorem lam_passes {X : Cx} {A : Around} {outer : List Env} {s : Shared} {H : Hp} {E : XK} {scope : Scope} {f c' : Addr} : PassesOwn (model (lamCxN X A outer s H E scope f c').prog (lamCxN X A outer s H E scope f c').w) (lamCxN X A outer s H E scope f c').A (lamCxN X A outer s H E scope f c').env (lamCxN X A outer s H E scope f c').xe :=
  passes_of (X := lamCxN X A outer s H E scope f c') (K := fun e s'' => L2N.CX X.prog X.w outer H s E e s'') (E₁ := fun e' s'' => L2N.CX X.prog X.w outer H s E e' s'') rfl
section
variable {X : Cx} {pins : List (Addr × Obj)} {σ : L2.St} {H : Hp} {s : Shared}
theorem pe_actN {Eg : XK} {Ng : List Str} {qg : Str} {sg : Scope} {g f c' : Addr} {cdg pm ctv : Value} {params : Arguments} {body : Expr} {scope : Scope} {k i : Nat} {a : Str} {pn : List (Addr × Obj)} {xe : Value → Shared → Prop} {W : WX} {tb : XK → TE} {p1 p2 : Pos}
    (I : Inv X pins σ H s) (L : LamS X.env.scope scope) (hf : s.heap.get? f = some (PySem.W.kla_obj "<lambda>" (X.env.qual ++ "<lambda>") params body scope (cloFrom X.env.cells scope.names []) pm c' ctv)) (hfn : H f = none) (hfr : f ∉ frs X.stack)
    (hbind : bindArgs (PySem.W.kla_fn "<lambda>" (X.env.qual ++ "<lambda>") params body scope (cloFrom X.env.cells scope.names []) pm (.ref c') ctv) ⟨[], []⟩ = pure [])
    (tk : L2N.Takes ((cxOf (L2N.CX X.prog X.w) X.prog X.w X.K X.mg X.base Ng qg sg g cdg X.A X.stack s H Eg).tr pn xe) W) (hr : Room (k + 1) (X.A.deeper (envOfC qg sg s.heap.objs.size g cdg)))
    (hbody : ∀ (A : Around) (outer : List Env) (s : Shared) (H : Hp) (E : XK), Room k (A.deeper (lamEnv X scope s.heap.objs.size f c')) → PE (lamCxN X A outer s H E scope f c') body (tb E))
    (hN : Ng[i]? = some a) (hv : Vis sg a) (hd : (a == ("__debug__" : Str)) = false) (hcd : (a == ("__classdict__" : Str)) = false) :
    PE ((cxOf (L2N.CX X.prog X.w) X.prog X.w X.K X.mg X.base Ng qg sg g cdg X.A X.stack s H Eg).tr pn xe) (.Call (.Name a p1) [] [] p2)
      (fun σZ HZ Q => σZ[i]? = some (some (.ref f)) ∧ HZ c' = some (CodeO c' (X.env.qual ++ "<lambda>")) ∧ tb (WE W σZ) σ HZ Q) := by
  refine ⟨fun pinsZ sZ σZ HZ Q IZ h => ?_⟩
  have ⟨hs, hc, ht⟩ := h
  refine wpAny_Call_Name_kw (thn ((pe_var (pos := p1) (i := i) hN hv hd hcd).run pinsZ sZ σZ HZ (fun v H1 => v = .ref f ∧ H1 = HZ) IZ ⟨.ref f, hs, rfl, rfl⟩) fun u s1 hu => ?_)
  obtain ⟨v, H1, I1, r1, ev, eH⟩ := hu
  subst ev
  subst eH
  obtain rfl : u = Value.ref f := r1
  have of1 := I1.base.keep f _ hf hfn hfr (fun z => nomatch (show f ∈ ([] : List Addr) from z))
  refine PySem.W.callWith_F0 ⟨_, _, _, _, of1⟩ ?_
  have un : Un (frs X.stack) [] H H1 s.heap s1.heap := I1.base
  have ⟨⟨oc, vs, t, hoc, hdc, hvc⟩, _, _⟩ := I1.hok c' _ hc
  have hx : PassesAt (L2N.CX X.prog X.w) ((cxOf (L2N.CX X.prog X.w) X.prog X.w X.K X.mg X.base Ng qg sg g cdg X.A X.stack s H Eg).tr pn xe) σZ (WE W σZ) := L2N.passAt tk σZ
  have rc : codeAny (model X.prog X.w) (X.A.deeper (envOfC qg sg s.heap.objs.size g cdg)) (.call (.ref f) ⟨[], []⟩) (CR (L2N.CX X.prog X.w) (envOfC qg sg s.heap.objs.size g cdg :: X.stack) X.prog X.w H1 s1 Q (WE W σZ)) s1 := by
    refine PySem.W.kla_callFunE hr.depth of1 rfl L.co L.gen rfl ⟨c', oc, vs, t, rfl, hoc, hdc, hvc⟩ ?_
    rw [hbind]
    refine wpAny_pure (wpAny_newFunctionEnv (fun y hy => (L.own y hy).2) (fun y hy => absurd hy (by simp)) (fun h₁ hns hsb => ⟨I1.nolimit.fresh _ hsb, ?_⟩) L.kind)
    have kp : ∀ b o, s1.heap.get? b = some o → h₁.get? b = some o := fun b o e => hsb.extBut b o (Nat.ne_of_lt (Heap.lt_size e)) (Heap.get?_push_of_some _ e)
    have J0 : Inv (lamCx X (X.A.deeper (envOfC qg sg s.heap.objs.size g cdg)) (envOfC qg sg s.heap.objs.size g cdg :: X.stack) s1 H1 (WE W σZ) scope f c') [] σ H1 { s1 with heap := h₁, toks := s1.toks + ([] : List (Str × Value)).length } :=
      lam_start2 I L I1.env0 hr.hd un hns kp
    have J := J0.toTry (lamCxN X (X.A.deeper (envOfC qg sg s.heap.objs.size g cdg)) (envOfC qg sg s.heap.objs.size g cdg :: X.stack) s1 H1 (WE W σZ) scope f c').xe
    show codeAny _ _ (.expr body (lamEnv X scope s1.heap.objs.size f c')) _ _
    refine PySem.W.kla_codeExpr (wpAny_mono ((hbody _ _ s1 H1 (WE W σZ) (hr.deeper _)).run [] _ _ H1 Q J ht) (fun v s' hq => ?_) fun e s' hq => hq)
    have ⟨w', H', J', rv, q⟩ := hq
    exact ⟨w', H', J'.os, J'.bare, J'.base, J'.hok, rv, q⟩
  refine wpAny_call (codeAny_mono rc fun r s' hq => ?_)
  match r, hq with
  | .error e, hq => exact hx pinsZ H1 s1 e s' I1 hq
  | .ok (.ret u), hq => exact I1.after hq
  | .ok .next, hq => exact False.elim hq
  | .ok .brk, hq => exact False.elim hq
  | .ok .cont, hq => exact False.elim hq
end
/-- told(lambda: body): the wish of what body raises is that of told's clauses -/
def endsT (Q : VK) : Ends := { nx := fun _ H' => Q .non H', rt := Q }
def wishT (K : PySem.W.Frag) (i : Nat) (Ng : List Str) (l : List (Value × (Addr → Value → Option Addr → TS))) (f : Addr) (Q : VK) : XK := fun cls d H' => wManyAs K i (fun _ _ _ _ => False) (endsT Q) l cls d (L2.start Ng [V.ref f]) H'
def tToldL (K : PySem.W.Frag) (P : Addr) (q : Str) (i : Nat) (Ng : List Str) (l : List (Value × (Addr → Value → Option Addr → TS))) (tb : XK → TE) : TE := fun σ H Q => TabS H P q ∧ ∀ (f : Addr) (H1 : Hp), (∀ b o, b ≠ P → H b = some o → H1 b = some o) → TabS H1 P q → tb (wishT K i Ng l f Q) σ H1 Q
theorem pe_toldL {X : Cx} {x a n : Str} {g c P : Addr} {k i : Nat} {pg : Arguments} {sg : Scope} {dV kV doc pm cdv ct oc : Value} {an od : Option Addr} {osl : Array (Option Value)} {Ng : List Str} {params : Arguments} {body : Expr} {scope : Scope} {tb : XK → TE} {p lpos pos p1 p2 p3 p8 : Pos}
    {h₀ : ExceptHandler} {hds : List ExceptHandler} {l : List (Value × (Addr → Value → Option Addr → TS))} (hg : Gl X x) (hm : X.mg x = some (.ref g)) (hk : PySem.W.keepIn X.K (.ref g) = true)
    (lk : X.K.lookup g = some ⟨oc, od, .func (PySem.W.fnOf x x pg [.Try [.Return (some (.Call (.Name a p1) [] [] p2)) p3] (h₀ :: hds) [] [] p8] sg dV kV doc pm an cdv ct), osl⟩) (hcg : PySem.W.codeIn X.K cdv x = true)
    (hb : L2.Binds X.K (PySem.W.fnOf x x pg [.Try [.Return (some (.Call (.Name a p1) [] [] p2)) p3] (h₀ :: hds) [] [] p8] sg dV kV doc pm an cdv ct) [a] []) (Sg : FnScope Ng [a] sg) (hNg : Ng[0]? = some a) (hva : Vis sg a)
    (hi : Ng[i]? = some n) (hln : ∀ s A, (envOfC x sg s g cdv).kindOf n = some .local ∨ A) (hh : ∀ (A : Around) (outer : List Env) (s : Shared) (H : Hp), Room (k + 1) (A.deeper (envOfC x sg s.heap.objs.size g cdv)) → HdsAs (cxOf (L2N.CX X.prog X.w) X.prog X.w X.K X.mg X.base Ng x sg g cdv A outer s H (fun _ _ _ => False)) n (h₀ :: hds) l)
    (TB : TabB X.base X.mg c P) (hcode : X.env.code = .ref c) (hr : Room (k + 2) X.A) (L : LamS X.env.scope scope) (hdef : defaultsOf params X.env = ([], []))
    (hbind : ∀ (q : Str) (cl : List (Str × Addr)) (pm cv ctv : Value), bindArgs (PySem.W.kla_fn "<lambda>" q params body scope cl pm cv ctv) ⟨[], []⟩ = pure [])
    (hbody : ∀ (A : Around) (outer : List Env) (s : Shared) (H : Hp) (E : XK) (f c' : Addr), Room k (A.deeper (lamEnv X scope s.heap.objs.size f c')) → PE (lamCxN X A outer s H E scope f c') body (tb E))
    (hdb : (x == ("__debug__" : Str)) = false := by decide) (hd : (a == ("__debug__" : Str)) = false := by decide) (hcd : (a == ("__classdict__" : Str)) = false := by decide) :
    PE X (.Call (.Name x p) [.Lambda params body scope lpos] [] pos) (tToldL X.K P (X.env.qual ++ "<lambda>") i Ng l tb) := by
  refine ⟨fun pins s σ H Q I h => ?_⟩
  have ⟨hT, h⟩ := h
  refine wpAny_Call_Name_kw (ld_glob I hg hm (PySem.W.callWith_K (h₀ := X.base) I.ok.mod.kin hk ?_ (by rfl) (by rfl)) hdb)
  show wpAny _ _ (spliced ((false, eval (.Lambda params body scope lpos) X.env) :: backTo pos (starEach [] X.env))) _ _ s
  refine Calls.spliced_cons (lam_make3 I TB hcode hT hdef (L.has I.ok) fun f c' pm' ctv H1 s' I1 eN T1 hf hfn hfr hco => Calls.spliced_nil ⟨I1.kIn, ?_⟩)
  have rc : codeAny (model X.prog X.w) X.A (.call (.ref g) ⟨[.ref f], []⟩) (CR (L2N.CX X.prog X.w) X.stack X.prog X.w H1 s' Q (fun _ _ _ => False)) s' := by
    refine run_ofS (CX := L2N.CX X.prog X.w) (N := Ng) (ps := [a]) (us := [.ref f]) (vs := [.ref f]) lk hcg Sg hr I1.env0 (hb s' [.ref f] I1.kIn rfl) (.cons rfl .nil) rfl fun hr' => ?_
    refine ⟨_, pss_one (ps_tryManyAs (X := cxOf (L2N.CX X.prog X.w) X.prog X.w X.K X.mg X.base Ng x sg g cdv X.A X.stack s' H1 (fun _ _ _ => False)) (i := i) (n := n) (Wout := fun _ _ _ _ => False)
      (tb := fun W D σZ HZ => σZ[0]? = some (some (.ref f)) ∧ HZ c' = some (CodeO c' (X.env.qual ++ "<lambda>")) ∧ tb (WE W σZ) σ HZ D.rt) rfl rfl Sg.nd hi ((hln _ False).elim (fun z => z) (fun z => z.elim)) takes0N (fun W pn xe tk _ => pss_one (ps_ret (pe_actN I1 L hf hfn hfr (hbind _ _ _ _ _) tk hr' (fun A outer s H E hr2 => hbody A outer s H E f c' hr2) hNg hva hd hcd))) (hh X.A X.stack s' H1 hr')), ?_⟩
    refine ⟨?_, hco, ?_⟩
    · have h0 : (L2.start Ng [V.ref f])[0]? = some (some (V.ref f)) := rfl
      exact h0
    · exact h f H1 eN T1
  refine wpAny_call (codeAny_mono rc fun r s2 hq => ?_)
  match r, hq with
  | .error e, hq =>
    have ⟨_, _, _, _, _, _, _, _, _, _, _, _, z⟩ := hq
    exact z.elim
  | .ok (.ret u), hq => exact I1.after hq
  | .ok .next, hq => exact False.elim hq
  | .ok .brk, hq => exact False.elim hq
  | .ok .cont, hq => exact False.elim hq
end DL

set_option maxHeartbeats 400000
namespace DL
open PySem PySem.Spec PyProof.Rows L2 LamX

/-! ### facts of the exceptions' classes, by Bools -/
def oexB (K : PySem.W.Frag) (C : Addr) : Bool := (match K.lookup C with
  | some ⟨.type "type", _, .cls cd, sl⟩ => (match cd.mro, sl.toList with
    | .ref C' :: bm, [_, _, _, _, some (.builtin n), _] => decide (C' = C) && (decide (n = "ValueError.__new__") && (!cd.hasDel && (cd.hasDict && PySem.HandSPX.refsVE bm)))
    | _, _ => false)
  | _ => false) && (He.eqO (PySem.W.findIn K (.ref C) "__setattr__") (some (some (.builtin "object.__setattr__"))) && (decide (PySem.W.subIn K (.ref C) (.type "BaseException") = some true) && (decide (PySem.W.typeIn K (.ref C) = some (.type "type")) && PySem.W.keepIn K (.ref C))))
theorem oexB_ok {K : PySem.W.Frag} {C : Addr} (h : oexB K C = true) : OexC K C := by
  unfold oexB at h
  have ⟨h1, h⟩ := He.ba h
  have ⟨h2, h⟩ := He.ba h
  have ⟨h3, h⟩ := He.ba h
  have ⟨h4, h5⟩ := He.ba h
  refine ⟨?_, He.eqO_ok h2, of_decide_eq_true h3, of_decide_eq_true h4, h5⟩
  split at h1
  · rename_i dd cd sl ho
    split at h1
    · rename_i C' bm k0 k1 k2 k3 n k5 hm hs
      have ⟨e1, h1⟩ := He.ba h1
      have ⟨e2, h1⟩ := He.ba h1
      have ⟨e3, h1⟩ := He.ba h1
      have ⟨e4, e5⟩ := He.ba h1
      have e1 := of_decide_eq_true e1
      have e2 := of_decide_eq_true e2
      subst e1 e2
      rcases cd with ⟨nm, bs, mro, ns, qn, hd, sn, sub, ab, col, del⟩
      have hm : mro = _ := hm
      have f3 : del = false := by simpa using e3
      have f4 : hd = true := e4
      subst hm
      subst f3
      subst f4
      have hsl : sl = #[k0, k1, k2, k3, some (.builtin "ValueError.__new__"), k5] := by
        rcases sl with ⟨l⟩
        have hs : l = _ := hs
        rw [hs]
      subst hsl
      exact ⟨nm, qn, ns, bs, bm, sn, sub, ab, col, dd, k0, k1, k2, k3, k5, ho, e5⟩
    · cases h1
  · cases h1
def baseB (K : PySem.W.Frag) (C : Addr) : Bool := He.eqO (PySem.W.specialIn K (.ref C) "__getattribute__") (some (some (.builtin "type.__getattribute__"))) && (PySem.W.readsIn K C (.type "type") && (match PySem.W.findCls K (.ref C) (.type "type") "__init__" with
  | some (.val (.builtin n)) => decide (n = "ValueError.__init__")
  | _ => false))
theorem baseB_ok {K : PySem.W.Frag} {mg : Str → Option Value} {x : Str} {C : Addr} (g : mg x = some (.ref C)) (h : baseB K C = true) : BaseInit K mg x C := by
  have ⟨h1, h⟩ := He.ba h
  have ⟨h2, h3⟩ := He.ba h
  refine ⟨g, He.eqO_ok h1, h2, ?_⟩
  split at h3
  · rename_i n e
    rw [e, of_decide_eq_true h3]
  · cases h3
def fieldB (K : PySem.W.Frag) (C fI : Addr) (fld : Str) : Bool := oexB K C && (He.eqO (PySem.W.findIn K (.ref C) fld) (some none) && (He.eqO (PySem.W.findIn K (.ref C) "__init__") (some (some (.ref fI))) && decide (PySem.W.typeIn K (.ref fI) = some (.type "function"))))
/-- an exception with one field -/
structure ExcFd (P : Program) (w : World) (K : PySem.W.Frag) (mg : Str → Option Value) (base : Heap) (x : Str) (C fI : Addr) (fd : FuncData) (ps : List Str) (fld : Str) : Prop where
  ox : OexC K C
  iC : PySem.W.findIn K (.ref C) "__init__" = some (some (.ref fI))
  tI : PySem.W.typeIn K (.ref fI) = some (.type "function")
  ok : FnOk P w K mg base CX0 1 fI fd ps (spX C fld)
  B : Binds K fd ps []
  g : mg x = some (.ref C)
def excCB (K : PySem.W.Frag) (D : Addr) : Bool := He.eqO (PySem.W.findIn K (.ref D) "__getattribute__") (some (some (.builtin "BaseException.__getattribute__"))) && (He.eqO (PySem.W.findIn K (.ref D) "__getattr__") (some none) && (decide (PySem.W.subIn K (.ref D) (.type "BaseException") = some true) &&
  (PySem.W.hasDictIn K D && (He.eqO (PySem.W.findIn K (.ref D) "__class__") (some (some (.builtin "object.__class__"))) && (He.eqO (PySem.W.specialIn K (.builtin "object.__class__") "__get__") (some (some (.builtin "getset_descriptor.__get__"))) &&
  (decide (PySem.W.takesIn K (.builtin "object.__class__") = some true) && decide (PySem.W.mroIn K D (.type "object") = some true)))))))
theorem excCB_ok {K : PySem.W.Frag} {D : Addr} (h : excCB K D = true) : ExcC K D := by
  have ⟨h1, h⟩ := He.ba h
  have ⟨h2, h⟩ := He.ba h
  have ⟨h3, h⟩ := He.ba h
  have ⟨h4, h⟩ := He.ba h
  have ⟨h5, h⟩ := He.ba h
  have ⟨h6, h⟩ := He.ba h
  have ⟨h7, h8⟩ := He.ba h
  exact ⟨He.eqO_ok h1, He.eqO_ok h2, of_decide_eq_true h3, h4, He.eqO_ok h5, He.eqO_ok h6, of_decide_eq_true h7, of_decide_eq_true h8⟩

/-! ### the classes of refusals, in the order in which laws name them -/
def excN : List Str := ["BadRows", "BadRest", "BadText", "Unled", "BadRule", "BadName", "BadNumber", "Unlike", "BadPairs", "Never", "Nothing"]
def fldN : List Str := ["at", "bits", "at", "name"]
structure ToldC (K : PySem.W.Frag) : Prop where
  ex : ∀ (i : Nat) (x : Str), excN[i]? = some x → ExcC K (He.ga K x)
  kit : ∀ (i j : Nat) (x y : Str), excN[i]? = some x → excN[j]? = some y → PySem.W.kitOne K (.ref (He.ga K x)) (.ref (He.ga K y)) = some (decide (i = j))
  ve : ∀ (i : Nat) (x : Str), excN[i]? = some x → PySem.W.kitOne K (.ref (He.ga K x)) (.type "ValueError") = some true
  exm : ∀ (i j : Nat) (x y : Str), excN[i]? = some x → (excN.take 4)[j]? = some y → PySem.W.exmOne K (.ref (He.ga K x)) (.ref (He.ga K y)) = some (decide (i = j))
  me : ∀ (i : Nat) (x : Str), excN[i]? = some x → PySem.W.exmOne K (.ref (He.ga K x)) (.ref (He.ga K "MarkError")) = some true
  xf : ∀ (i : Nat) (x f : Str), excN[i]? = some x → fldN[i]? = some f → XfC K (He.ga K x) ∧ PySem.W.findIn K (.ref (He.ga K x)) f = some none
def toldB (K : PySem.W.Frag) : Bool := excN.zipIdx.all fun (x, i) => excCB K (He.ga K x) && ((excN.zipIdx.all fun (y, j) => decide (PySem.W.kitOne K (.ref (He.ga K x)) (.ref (He.ga K y)) = some (decide (i = j)))) && (decide (PySem.W.kitOne K (.ref (He.ga K x)) (.type "ValueError") = some true) &&
  (((excN.take 4).zipIdx.all fun (y, j) => decide (PySem.W.exmOne K (.ref (He.ga K x)) (.ref (He.ga K y)) = some (decide (i = j)))) && (decide (PySem.W.exmOne K (.ref (He.ga K x)) (.ref (He.ga K "MarkError")) = some true) &&
  (match fldN[i]? with
    | some f => xfB K (He.ga K x) && He.eqO (PySem.W.findIn K (.ref (He.ga K x)) f) (some none)
    | none => true)))))
theorem zip_mem {α : Type} {l : List α} {i : Nat} {x : α} (h : l[i]? = some x) : (x, i) ∈ l.zipIdx := by
  rw [List.mem_iff_getElem?]
  exact ⟨i, by rw [List.getElem?_zipIdx, h]; simp⟩
theorem toldB_ok {K : PySem.W.Frag} (h : toldB K = true) : ToldC K := by
  have one := fun (i : Nat) (x : Str) (e : excN[i]? = some x) => He.ba (List.all_eq_true.mp h (x, i) (zip_mem e))
  have two := fun i x e => He.ba (one i x e).2
  have thr := fun i x e => He.ba (two i x e).2
  have fou := fun i x e => He.ba (thr i x e).2
  have fiv := fun i x e => He.ba (fou i x e).2
  refine ⟨fun i x e => excCB_ok (one i x e).1, fun i j x y e1 e2 => of_decide_eq_true (List.all_eq_true.mp (two i x e1).1 (y, j) (zip_mem e2)), fun i x e => of_decide_eq_true (thr i x e).1,
    fun i j x y e1 e2 => of_decide_eq_true (List.all_eq_true.mp (fou i x e1).1 (y, j) (zip_mem e2)), fun i x e => of_decide_eq_true (fiv i x e).1, fun i x f e1 e2 => ?_⟩
  have z := (fiv i x e1).2
  rw [e2] at z
  have ⟨z1, z2⟩ := He.ba z
  exact ⟨xfB_ok z1, He.eqO_ok z2⟩
theorem ToldC.ne {K : PySem.W.Frag} (T : ToldC K) {i j : Nat} {x y : Str} (e1 : excN[i]? = some x) (e2 : excN[j]? = some y) (h : i ≠ j) : He.ga K x ≠ He.ga K y := fun z => by
  have h1 := T.kit i j x y e1 e2
  rw [z, show PySem.W.kitOne K (.ref (He.ga K y)) (.ref (He.ga K y)) = some true from kitOne_same] at h1
  have := Option.some.inj h1
  simp [h] at this
/-- the one class that a refusal has, told by the text -/
def isTrueAt (i : Nat) : List Bool := [decide (i = 0), decide (i = 1), decide (i = 2), decide (i = 3), decide (i = 4), decide (i = 5), decide (i = 6), decide (i = 7), decide (i = 8), decide (i = 9), decide (i = 10)]
theorem flags_sum {i : Nat} (h : i < 11) : ((isTrueAt i).map fun b => if b = true then (1 : Int) else 0).sum = 1 := by
  have : i = 0 ∨ i = 1 ∨ i = 2 ∨ i = 3 ∨ i = 4 ∨ i = 5 ∨ i = 6 ∨ i = 7 ∨ i = 8 ∨ i = 9 ∨ i = 10 := by omega
  rcases this with rfl | rfl | rfl | rfl | rfl | rfl | rfl | rfl | rfl | rfl | rfl <;> rfl
theorem flags_at {i : Nat} (h : i < 11) : ((isTrueAt i).map V.bl)[i]? = some (.bl true) := by
  have : i = 0 ∨ i = 1 ∨ i = 2 ∨ i = 3 ∨ i = 4 ∨ i = 5 ∨ i = 6 ∨ i = 7 ∨ i = 8 ∨ i = 9 ∨ i = 10 := by omega
  rcases this with rfl | rfl | rfl | rfl | rfl | rfl | rfl | rfl | rfl | rfl | rfl <;> rfl
theorem flags_ne {i m : Nat} {z : V} (h : i < 11) (hm : m < i) (e : ((isTrueAt i).map V.bl)[m]? = some z) : eqV z (.bl true) = false := by
  have : z = .bl false := by
    have hi : i = 0 ∨ i = 1 ∨ i = 2 ∨ i = 3 ∨ i = 4 ∨ i = 5 ∨ i = 6 ∨ i = 7 ∨ i = 8 ∨ i = 9 ∨ i = 10 := by omega
    have hm' : m = 0 ∨ m = 1 ∨ m = 2 ∨ m = 3 ∨ m = 4 ∨ m = 5 ∨ m = 6 ∨ m = 7 ∨ m = 8 ∨ m = 9 := by omega
    rcases hi with rfl | rfl | rfl | rfl | rfl | rfl | rfl | rfl | rfl | rfl | rfl <;>
      rcases hm' with rfl | rfl | rfl | rfl | rfl | rfl | rfl | rfl | rfl | rfl <;>
      first | (exfalso; omega) | (cases e; rfl)
  rw [this]; rfl
/-- what _law_word promises -/
def spWord (K : PySem.W.Frag) (p : Addr × Obj) : Sp := fun vs H Q _ => ∃ (i : Nat) (nm : Str) (d : Option Addr), vs = [.ref p.1] ∧ excN[i]? = some nm ∧ Zc (.ref (He.ga K nm)) d p.2 ∧ (∀ dd, d = some dd → ∃ fs, H dd = some (.xd fs)) ∧
  ∀ H' t, Same H H' → H t = none → H' t = some (.tup [.str "refused", .str nm]) → Q (.ref t) H'
/-- what _law_told's clauses promise: with a field, without one -/
def tsF (K : PySem.W.Frag) (x f : Str) : Addr → Value → Option Addr → TS := fun a cls d D σ H => ∃ i : Nat, excN[i]? = some x ∧ cls = .ref (He.ga K x) ∧ σ[1]? = some (some (.ref a)) ∧ ∃ dd v, d = some dd ∧ H dd = some (.xd [(f, v)]) ∧
  ∀ H' t, Same H H' → H t = none → H' t = some (.tup [.str "refused", .str x, v]) → D.rt (.ref t) H'
def tsM (K : PySem.W.Frag) : Addr → Value → Option Addr → TS := fun a cls d D σ H => ∃ (i : Nat) (x : Str), excN[i]? = some x ∧ cls = .ref (He.ga K x) ∧ σ[1]? = some (some (.ref a)) ∧ d = none ∧
  ∀ H' t, Same H H' → H t = none → H' t = some (.tup [.str "refused", .str x]) → D.rt (.ref t) H'
def toldL (K : PySem.W.Frag) : List (Value × (Addr → Value → Option Addr → TS)) := [(.ref (He.ga K "BadRows"), tsF K "BadRows" "at"), (.ref (He.ga K "BadRest"), tsF K "BadRest" "bits"), (.ref (He.ga K "BadText"), tsF K "BadText" "at"), (.ref (He.ga K "Unled"), tsF K "Unled" "name"), (.ref (He.ga K "MarkError"), tsM K)]
def toldN : List Str := ["_law_deed", "_law_e"]

/-! ### deep: what told tells of an exception -/
def dOfV : V → Option D
  | .non => some .non
  | .bl b => some (.bl b)
  | .int i => some (.int i)
  | .str x => some (.str x)
  | _ => none
theorem dOfV_rep {K : PySem.W.Frag} {F : Hp} {v : V} {d : D} (h : dOfV v = some d) : Rep K F d v := by
  cases v <;> first | (cases h; exact rfl) | cases h
def tellT (A : Cl) : List (Addr × Str × Option Str) := [(A.BadRows, "BadRows", some "at"), (A.BadRest, "BadRest", some "bits"), (A.BadText, "BadText", some "at"), (A.Unled, "Unled", some "name"), (A.BadRule, "BadRule", none), (A.BadName, "BadName", none), (A.BadNumber, "BadNumber", none), (A.Unlike, "Unlike", none), (A.BadPairs, "BadPairs", none), (A.Never, "Never", none), (A.Nothing, "Nothing", none)]
def tell1 : Str × Option Str → Option (Str × V) → M Exn D
  | (nm, none), none => ret (.tup [.str "refused", .str nm])
  | (nm, some f), some (f', v) => (match dOfV v with
    | some d => if f = f' then ret (.tup [.str "refused", .str nm, d]) else stuck
    | none => stuck)
  | _, _ => stuck
def tellM (A : Cl) (y : Exn) : M Exn D := match (tellT A).lookup y.cls with
  | some p => tell1 p y.fld
  | none => stuck
def toldD (A : Cl) (f : EnvD → M Exn D) : EnvD → M Exn D := fun ρ => catchE (f ρ) (tellM A)
structure DistA (A : Cl) : Prop where
  nd : ((tellT A).map (·.1)).Nodup
/-- the addresses of the refusals' classes are those of the text -/
structure ClOk (K : PySem.W.Frag) (A : Cl) : Prop where
  e : (tellT A).map (·.1) = excN.map (He.ga K)
theorem ToldC.dist {K : PySem.W.Frag} {A : Cl} (T : ToldC K) (h : ClOk K A) : DistA A := by
  refine ⟨?_⟩
  rw [h.e]
  refine List.pairwise_iff_getElem.mpr fun i j hi hj hij => ?_
  rw [List.getElem_map, List.getElem_map]
  rw [List.length_map] at hi hj
  exact T.ne (List.getElem?_eq_getElem hi) (List.getElem?_eq_getElem hj) (by omega)
theorem lookup_in {β : Type} {a : Addr} {b : β} : ∀ {l : List (Addr × β)}, l.lookup a = some b → (a, b) ∈ l
  | [], h => by cases h
  | (c, d) :: r, h => by
    by_cases q : a = c
    · subst q
      simp only [List.lookup, beq_self_eq_true] at h
      cases h; exact List.mem_cons_self
    · have q' : (a == c) = false := by simpa using q
      simp only [List.lookup, q'] at h
      exact List.mem_cons_of_mem _ (lookup_in h)
theorem told_ok {K : PySem.W.Frag} {A : Cl} (T : ToldC K) (hA : ClOk K A) {vol : Vol} {F H F' H' : Hp} {Q : VK} {e : Exn → Prop} {y : Exn} {dd : Option Addr} {f : Addr} (g : Good vol F H) (x1 : Ext vol F H F' H') (hr : XRep H' y dd)
    (h : (tellM A y).run (VF vol K F H Q) e) : wishT K 1 toldN (toldL K) f Q (.ref y.cls) dd H' := by
  -- which class it is
  have look : ∃ (i : Nat) (nm : Str) (fo : Option Str), excN[i]? = some nm ∧ y.cls = He.ga K nm ∧ fldN[i]? = fo ∧ (tell1 (nm, fo) y.fld).run (VF vol K F H Q) e := by
    unfold tellM at h
    cases hl : (tellT A).lookup y.cls with
    | none => rw [hl] at h; exact h.elim
    | some p =>
      rw [hl] at h
      have hm := lookup_in hl
      have ⟨i, hi⟩ := List.getElem?_of_mem hm
      have hA1 := congrArg (fun l : List Addr => l[i]?) hA.e
      simp only [List.getElem?_map, hi, Option.map_some] at hA1
      have hlen : i < 11 := by
        have := (List.getElem?_eq_some_iff.mp hi).1
        exact this
      have : i = 0 ∨ i = 1 ∨ i = 2 ∨ i = 3 ∨ i = 4 ∨ i = 5 ∨ i = 6 ∨ i = 7 ∨ i = 8 ∨ i = 9 ∨ i = 10 := by omega
      have e2 : excN[i]? = some p.1 ∧ fldN[i]? = p.2 := by
        rcases this with rfl | rfl | rfl | rfl | rfl | rfl | rfl | rfl | rfl | rfl | rfl <;>
          (have z := (Prod.mk.inj (Option.some.inj hi)).2; rw [← z]; exact ⟨rfl, rfl⟩)
      refine ⟨i, p.1, p.2, e2.1, ?_, e2.2, h⟩
      rw [e2.1] at hA1
      exact Option.some.inj hA1
  obtain ⟨i, nm, fo, hi, hc, hf, ht⟩ := look
  rw [hc]
  have done : ∀ (d : List D) (H2 : Hp) (t : Addr) (vs : List V), (∀ F2, RepL K F2 d vs) → d.length ≤ sizeLine → VF vol K F H Q (.tup d) → Same H' H2 → H' t = none → H2 t = some (.tup vs) → Q (.ref t) H2 := fun d H2 t vs r hl q s2 n2 e2 => by
    have nF : F' t = none := by
      cases z : F' t with
      | none => rfl
      | some o => rw [x1.g.sub _ _ z] at n2; cases n2
    have sF : Same F' (upd F' t (.tup vs)) := fun a o z => by rw [upd_ne (ne_of_none z nF)]; exact z
    have x2 : Ext vol F' H' (upd F' t (.tup vs)) H2 := ⟨⟨fun a o z => by
        by_cases ha : a = t
        · subst ha; rw [upd_same] at z; cases z; exact e2
        · rw [upd_ne ha] at z; exact s2 _ _ (x1.g.sub _ _ z), fun a hz => by
        have ⟨o, z⟩ := vol.has H' x1.g.vi a hz
        rw [upd_ne (ne_of_none z n2)]; exact x1.g.nz a hz, vol.up _ _ s2 x1.g.vi⟩, sF, fun a o z _ => s2 _ _ z, fun p o z n => by rw [upd_ne (ne_of_none z n2)]; exact n⟩
    refine q (.ref t) _ H2 (x1.trans g x2) ?_
    unfold Rep
    exact ⟨hl, t, vs, rfl, SqT.of upd_same, r _⟩
  have hlen : i < 11 := (List.getElem?_eq_some_iff.mp hi).1
  have hex : ∀ j x, (excN.take 4)[j]? = some x → PySem.W.exmOne K (.ref (He.ga K nm)) (.ref (He.ga K x)) = some (decide (i = j)) := fun j x e => T.exm i j nm x hi e
  have slot : ∀ a : Addr, ((L2.start toldN [V.ref f]).set 1 (some (.ref a)))[1]? = some (some (.ref a)) := fun a => rfl
  -- the clauses with a field
  have clause : ∀ j x fx, excN[j]? = some x → fldN[j]? = some fx → i = j → ∀ a, tsF K x fx a (.ref (He.ga K nm)) dd (endsBut 1 (endsT Q)) ((L2.start toldN [V.ref f]).set 1 (some (.ref a))) H' := fun j x fx ej ef e a => by
    subst e
    rw [hi] at ej; cases ej
    rw [ef] at hf; subst hf
    refine ⟨i, hi, rfl, slot a, ?_⟩
    cases hy : y.fld with
    | none => rw [hy] at ht; exact ht.elim
    | some p =>
      have ⟨f', v⟩ := p
      rw [hy] at ht
      unfold XRep at hr
      rw [hy] at hr
      have ⟨b, e1, e2⟩ := hr
      have ht : (match dOfV v with
        | some d => if fx = f' then ret (D.tup [.str "refused", .str nm, d]) else stuck
        | none => (stuck : M Exn D)).run (VF vol K F H Q) e := ht
      cases hv : dOfV v with
      | none => rw [hv] at ht; exact ht.elim
      | some d =>
        rw [hv] at ht
        by_cases hff : fx = f'
        · have ht2 : (if fx = f' then ret (D.tup [.str "refused", .str nm, d]) else (stuck : M Exn D)).run (VF vol K F H Q) e := ht
          rw [if_pos hff] at ht2
          clear ht
          subst hff
          exact ⟨b, v, e1, e2, fun H2 t s2 n2 e3 => done [.str "refused", .str nm, d] H2 t _ (fun F2 => ⟨_, _, rfl, rfl, _, _, rfl, rfl, _, _, rfl, dOfV_rep hv, rfl⟩) (by show 3 ≤ sizeLine; decide) ht2 s2 n2 e3⟩
        · have ht2 : (if fx = f' then ret (D.tup [.str "refused", .str nm, d]) else (stuck : M Exn D)).run (VF vol K F H Q) e := ht
          rw [if_neg hff] at ht2
          exact ht2.elim
  have last : 4 ≤ i → ∀ a, tsM K a (.ref (He.ga K nm)) dd (endsBut 1 (endsT Q)) ((L2.start toldN [V.ref f]).set 1 (some (.ref a))) H' := fun h4 a => by
    have hf0 : fo = none := by
      rw [← hf]; exact List.getElem?_eq_none h4
    subst hf0
    refine ⟨i, nm, hi, rfl, slot a, ?_⟩
    cases hy : y.fld with
    | some p => rw [hy] at ht; exact ht.elim
    | none =>
      rw [hy] at ht
      unfold XRep at hr
      rw [hy] at hr
      exact ⟨hr, fun H2 t s2 n2 e3 => done [.str "refused", .str nm] H2 t _ (fun F2 => ⟨_, _, rfl, rfl, _, _, rfl, rfl, rfl⟩) (by show 2 ≤ sizeLine; decide) ht s2 n2 e3⟩
  refine ⟨_, hex 0 _ rfl, fun hb a _ => clause 0 _ _ rfl rfl (of_decide_eq_true hb) a, fun h0 => ⟨_, hex 1 _ rfl, fun hb a _ => clause 1 _ _ rfl rfl (of_decide_eq_true hb) a, fun h1 => ⟨_, hex 2 _ rfl, fun hb a _ => clause 2 _ _ rfl rfl (of_decide_eq_true hb) a, fun h2 =>
    ⟨_, hex 3 _ rfl, fun hb a _ => clause 3 _ _ rfl rfl (of_decide_eq_true hb) a, fun h3 => ⟨true, T.me i nm hi, fun _ a _ => last ?_ a, fun z => Bool.noConfusion z⟩⟩⟩⟩⟩
  have a0 := of_decide_eq_false h0
  have a1 := of_decide_eq_false h1
  have a2 := of_decide_eq_false h2
  have a3 := of_decide_eq_false h3
  omega
end DL

set_option maxHeartbeats 400000
namespace DL
open PySem PySem.Spec PyProof.Rows L2 LamX

theorem excP_of {K : PySem.W.Frag} {mg : Str → Option Value} {x : Str} (g : mg x = some (.ref (He.ga K x))) (c : (He.Fa.exc x).ok K = true) : ExcP K mg x (He.ga K x) := by
  have ⟨h1, h2, h3, h4⟩ := He.exc_ok c
  exact ⟨g, h1, h2, h3, h4⟩
/-! ### the dice and a table of code objects, volatile -/
def volT (z P : Addr) (q : Str) : Vol where
  z := fun _ => z
  Z := fun a => a = z ∨ a = P
  I := fun H => IsDice H z ∧ TabS H P q
  has := fun H h a ha => by
    rcases ha with ha | ha
    · have ⟨i, j, e⟩ := h.1
      exact ⟨_, by rw [ha]; exact e⟩
    · have ⟨ps, e, _⟩ := h.2
      exact ⟨_, by rw [ha]; exact e⟩
  up := fun H H' s h => ⟨(volD z).up H H' s h.1, h.2.ext s⟩
  wr := fun H p o h hn ho => ⟨(volD z).wr H p o h.1 (fun e => hn (.inl e)) ho, by
    have ⟨ps, e, t, c⟩ := h.2
    refine ⟨ps, by rw [upd_ne (fun e => hn (.inr e.symm))]; exact e, t, fun pos cv hcv => ?_⟩
    have ⟨c', e1, e2⟩ := c pos cv hcv
    refine ⟨c', e1, ?_⟩
    rw [upd_ne (fun z => ?_)]
    · exact e2
    · rw [← z, e2] at ho
      exact ho⟩
/-- a volatile part within which the table at P stands -/
structure HasTab (vol : Vol) (P : Addr) (q : Str) : Prop where
  z : vol.Z P
  tab : ∀ H, vol.I H → TabS H P q
  step : ∀ H H1, vol.I H → (∀ b o, b ≠ P → H b = some o → H1 b = some o) → TabS H1 P q → vol.I H1
theorem HasTab.volT (z P : Addr) (q : Str) : HasTab (volT z P q) P q where
  z := .inr rfl
  tab := fun H h => h.2
  step := fun H H1 h k t => by
    have ⟨⟨i, j, e⟩, ps, e2, _⟩ := h
    have ne : z ≠ P := fun q => by rw [q, e2] at e; cases e
    exact ⟨⟨i, j, k _ _ ne e⟩, t⟩
theorem HasDice.volT (z P : Addr) (q : Str) : HasDice (volT z P q) := ⟨show VLe (volD z) (DL.volT z P q) from ⟨fun F H g => ⟨g.sub, fun a ha => g.nz a (.inl ha), g.vi.1⟩, fun F H F' H' g x => by
  have ⟨⟨i, j, e⟩, ps, e2, t2, c2⟩ := g.vi
  have ne : P ≠ z := fun q => by rw [q, e] at e2; cases e2
  refine ⟨⟨x.g.sub, fun a ha => ?_, x.g.vi, ps, x.sH _ _ e2 ne, t2, fun pos cv hcv => ?_⟩, x.sF, fun a o h hz => x.sH a o h (fun y => hz (.inl y)), x.nw⟩
  · rcases ha with ha | ha
    · exact x.g.nz a ha
    · rw [ha]; exact x.nw P _ e2 (g.nz P (.inr rfl))
  · have ⟨c', e3, e4⟩ := c2 pos cv hcv
    exact ⟨c', e3, x.sH _ _ e4 (fun y => by
      have y : c' = z := y
      rw [y, e] at e4; exact codeO_lst e4)⟩⟩⟩
where
  codeO_lst {c : Addr} {q : Str} {xs : List V} (h : some (HO.lst xs) = some (CodeO c q)) : False := by
    have := Option.some.inj h
    unfold CodeO at this
    cases this

/-! ### told(lambda: e) -/
/-- what the text says of the def that tells -/
def ToldOk (P : Program) (w : World) (K : PySem.W.Frag) (mg : Str → Option Value) (base : Heap) (g : Addr) : Prop :=
  ∃ (oc : Value) (od : Option Addr) (pg : Arguments) (sg : Scope) (dV kV doc pm : Value) (an : Option Addr) (cdv ct : Value) (osl : Array (Option Value)) (p1 p2 p3 p8 : Pos) (h₀ : ExceptHandler) (hds : List ExceptHandler),
    K.lookup g = some ⟨oc, od, .func (PySem.W.fnOf "_law_told" "_law_told" pg [.Try [.Return (some (.Call (.Name "_law_deed" p1) [] [] p2)) p3] (h₀ :: hds) [] [] p8] sg dV kV doc pm an cdv ct), osl⟩ ∧ PySem.W.codeIn K cdv "_law_told" = true ∧
    L2.Binds K (PySem.W.fnOf "_law_told" "_law_told" pg [.Try [.Return (some (.Call (.Name "_law_deed" p1) [] [] p2)) p3] (h₀ :: hds) [] [] p8] sg dV kV doc pm an cdv ct) ["_law_deed"] [] ∧ FnScope toldN ["_law_deed"] sg ∧ Vis sg "_law_deed" ∧ sg.names.lookup ("_law_e" : Str) = some .local ∧
    ∀ (A : Around) (outer : List Env) (s : Shared) (H : Hp), Room 1 (A.deeper (envOfC "_law_told" sg s.heap.objs.size g cdv)) → HdsAs (cxOf (L2N.CX P w) P w K mg base toldN "_law_told" sg g cdv A outer s H (fun _ _ _ => False)) "_law_e" (h₀ :: hds) (toldL K)
section
variable {X : Cx} {vol : Vol} {W : WX} {k : Nat} {g c P : Addr} {A : Cl} {params : Arguments} {body : Expr} {scope : Scope} {f : EnvD → M Exn D} {p lpos pos : Pos}
theorem df_told (T : ToldOk X.prog X.w X.K X.mg X.base g) (TC : ToldC X.K) (hA : ClOk X.K A) (cx : Ctx X W (k + 2)) (ht : HasTab vol P (X.env.qual ++ "<lambda>")) (hg : Gl X "_law_told") (hm : X.mg "_law_told" = some (.ref g)) (hk : PySem.W.keepIn X.K (.ref g) = true)
    (TB : TabB X.base X.mg c P) (hcode : X.env.code = .ref c) (hL : lamSB X.env.scope scope = true) (hdef : defaultsOf params X.env = ([], []))
    (hbind : ∀ (q : Str) (cl : List (Str × Addr)) (pm cv ctv : Value), bindArgs (PySem.W.kla_fn "<lambda>" q params body scope cl pm cv ctv) ⟨[], []⟩ = pure [])
    (hbody : ∀ (A : Around) (outer : List Env) (s : Shared) (H : Hp) (E : XK) (f' c' : Addr), Ctx (lamCxN X A outer s H E scope f' c') (fun c d _ H => E c d H) k → DF (lamCxN X A outer s H E scope f' c') vol (fun c d _ H => E c d H) body f) :
    DF X vol W (.Call (.Name "_law_told" p) [.Lambda params body scope lpos] [] pos) (toldD A f) := by
  unfold ToldOk at T
  obtain ⟨oc, od, pg, sg, dV, kV, doc, pm, an, cdv, ct, osl, p1, p2, p3, p8, h₀, hds, lk, hcg, hb, Sg, hva, hln, hh⟩ := T
  have n0 : toldN[0]? = some ("_law_deed" : Str) := rfl
  have n1 : toldN[1]? = some ("_law_e" : Str) := rfl
  have hh2 := fun (A : Around) (outer : List Env) (s : Shared) (H : Hp) (hr : Room (k + 1) (A.deeper (envOfC "_law_told" sg s.heap.objs.size g cdv))) => hh A outer s H (hr.mono (Nat.le_add_left 1 k))
  have hb2 : ∀ (A : Around) (outer : List Env) (s : Shared) (H : Hp) (E : XK) (f' c' : Addr), Room k (A.deeper (lamEnv X scope s.heap.objs.size f' c')) → PE (lamCxN X A outer s H E scope f' c') body ((fun E => tD VF vol X.K (fun c d _ H => E c d H) f) E) :=
    fun A outer s H E f' c' hr => (hbody A outer s H E f' c' ⟨lam_takes, lam_passes, rfl, cx.nd, hr⟩).run
  have main := pe_toldL (tb := fun E => tD VF vol X.K (fun c d _ H => E c d H) f) (p := p) (lpos := lpos) (pos := pos) hg hm hk lk hcg hb Sg n0 hva n1 (fun _ _ => .inl hln) hh2 TB hcode cx.room (lamS_by hL) hdef hbind hb2
  refine ⟨main.conseq fun σ H Q ⟨F, ρ, G, Er, q⟩ => ?_⟩
  refine ⟨ht.tab H G.vi, fun f' H1 k1 t1 => ?_⟩
  have x1 : Ext vol F H F H1 := ⟨⟨fun a o e => k1 a o (fun z => by rw [z, G.nz P ht.z] at e; cases e) (G.sub _ _ e), G.nz, ht.step H H1 G.vi k1 t1⟩, Same.refl _, fun a o e hz => k1 a o (fun z => hz (by rw [z]; exact ht.z)) e, fun _ _ _ n => n⟩
  have q : (f ρ).run (VF vol X.K F H Q) (fun y => (tellM A y).run (VF vol X.K F H Q) (EX vol W σ F H)) := q
  refine ⟨F, ρ, x1.g, Er.ext x1, (f ρ).mono _ _ _ _ (fun d h v F' H' x2 r => h v F' H' (x1.trans G x2) r) (fun y h dd F' H' x2 r => told_ok TC hA G (x1.trans G x2) r h) q⟩
end

/-! ### the law, its code's table at hand -/
def spLawT (K : PySem.W.Frag) (P : Addr) (q : Str) : Sp := fun vs H Q _ => ∃ (a : Addr) (ns : List Int), vs = [.ref a] ∧ SqL K H a (ns.map V.int) ∧ ns.length ≤ 63 ∧ TabS H P q ∧ ∀ H', Q (.bl true) H'
theorem fun_okC {P : Program} {w : World} {K : PySem.W.Frag} {mg : Str → Option Value} {base : Heap} {x qual : Str} {st : Stmt} {p : Str × Option Str} {N ps : List Str} {k : Nat} {sp : Sp} (F : Fun K x qual st (He.fAd K p) (fdOf K p)) (S : FnScope N ps (defScope st))
    (len : ∀ vs H Q E, sp vs H Q E → vs.length = ps.length)
    (h : ∀ cdv A outer s H vs Q E, cdv = .ref (He.codeOf K p) → Room k (A.deeper (envOfC qual (defScope st) s.heap.objs.size (He.fAd K p) cdv)) → sp vs H Q E →
      ∃ t, PSs (cxOf CX0 P w K mg base N qual (defScope st) (He.fAd K p) cdv A outer s H E).nox (defBody st) t ∧ t { nx := fun _ H' => Q .non H', rt := Q } (L2.start N vs) H) : FnOk P w K mg base CX0 (k + 1) (He.fAd K p) (fdOf K p) ps sp := by
  have ⟨oc, od, kV, doc, pm, an, cdv, ct, osl, e, lk, hcd⟩ := F.ex
  have ⟨c, hc⟩ := He.codeIn_ref hcd
  have e2 : cdv = .ref (He.codeOf K p) := by
    rw [He.codeOf_eq lk (c := c) (by rw [e]; exact hc)]; exact hc
  rw [e] at lk ⊢
  refine fn_of lk hcd S len fun A outer s H vs Q E hr hsp => ?_
  have ⟨t, h1, q⟩ := h cdv A outer s H vs Q E e2 hr hsp
  exact ⟨t, h1.nox, q⟩
section
variable {X : Cx} {K : PySem.W.Frag}
def tAnyT (P : Addr) (q : Str) (K : PySem.W.Frag) (W : WX) (n i : Nat) (g : EnvD → MS) : TS := fun Dn σ H => ∃ z F0, Good (volT z P q) F0 H ∧ (i < σ.length → σ[i]? = some (some (.ref z))) ∧ (g (rho0 n i 0)).run (OutP (volT z P q) K F0 H Dn) (XS (volT z P q) K W F0 H)
theorem pss_anyT {P : Addr} {q : Str} {W : WX} {n i : Nat} {body : List Stmt} {g : EnvD → MS} (hn : X.N.length = n) (hb : ∀ z F0 H0, Good (volT z P q) F0 H0 → DSs X (volT z P q) W F0 H0 body g) : PSs X body (tAnyT P q X.K W n i g) :=
  ⟨fun pins s σ H Dn I ⟨z, F0, g0, he, h⟩ => (hb z F0 H g0).run.run pins s σ H Dn I ⟨F0, _, srep0 (vol := volT z P q) (m := 0) g0 (I.len.trans hn) he, h⟩⟩
theorem law_turnsT {P : Addr} {q : Str} {W : WX} {n i : Nat} {g : EnvD → MS} {zs : List Addr} {p : Addr} {D : Ends} {σ : L2.St} {H : Hp} (hnp : p ∉ zs) (hp : H p = some (.lst (zs.map V.ref))) (hz : ∀ z ∈ zs, IsDice H z) (ht : TabS H P q)
    (hm : (g (rho0 n i 0)).run LawOk (fun _ => False)) (hD : ∀ σ H, D.nx σ H) :
    ∃ Wi : Nat → Nat → L2.St → Hp → Prop, (∃ m, Wi 0 m σ H) ∧ ∀ j m σ H, Wi j m σ H →
      ((Itl K p).stop j H ∧ D.nx σ H) ∨ ((Itl K p).go j H ∧ ∃ N : L2.St → Hp → Prop, (∀ σ' H', N σ' H' → ∃ m', m' < m ∧ Wi (j + 1) m' σ' H') ∧ ∀ x H', (Itl K p).yld j H x H' → gName i x σ H' fun σ2 H2 => tAnyT P q K W n i g { D with nx := N, ct := N, bk := D.nx } σ2 H2) := by
  refine for_list (K := K) (a := p) (xs := zs.map V.ref) (fun j σ H => H p = some (.lst (zs.map V.ref)) ∧ (∀ z ∈ zs, IsDice H z) ∧ TabS H P q) ⟨hp, hz, ht⟩ (fun i σ H _ h => .inl (.inl h.1)) ?_ (fun σ H _ => hD σ H)
  rintro j x σ H2 hx ⟨hp2, hz2, ht2⟩
  obtain ⟨z, hzm, rfl⟩ : ∃ z ∈ zs, x = V.ref z := by
    have ⟨z, h1, h2⟩ := List.mem_map.mp (List.mem_of_getElem? hx)
    exact ⟨z, h1, h2.symm⟩
  have gd : Good (volT z P q) (fun _ => none) H2 := ⟨fun _ _ e => (nomatch e), fun _ _ => rfl, hz2 z hzm, ht2⟩
  have ⟨ps, eP, _⟩ := ht2
  have pP : p ≠ P := fun e => by rw [e, eP] at hp2; cases hp2
  have yP : ∀ y ∈ zs, y ≠ P := fun y hy e => by
    have ⟨a, b, h⟩ := hz2 y hy
    rw [e, eP] at h; cases h
  have hnext : ∀ H3 : Hp, (∀ a o, H2 a = some o → a ≠ z → a ≠ P → H3 a = some o) → IsDice H3 z → TabS H3 P q → H3 p = some (.lst (zs.map V.ref)) ∧ (∀ z ∈ zs, IsDice H3 z) ∧ TabS H3 P q := fun H3 h1 h2 h3 =>
    ⟨h1 _ _ hp2 (fun e => hnp (e ▸ hzm)) pP, fun y hy => by
      by_cases e : y = z
      · rw [e]; exact h2
      · have ⟨a, b, h⟩ := hz2 y hy
        exact ⟨a, b, h1 _ _ h e (yP y hy)⟩, h3⟩
  refine ⟨z, _, gd, fun hi => by rw [List.length_set] at hi; rw [List.getElem?_set, if_pos rfl, if_pos hi], (g _).mono _ _ _ _ (fun o ho => ?_) (fun _ e => e.elim) hm⟩
  have nx : ∀ σ' F' H3 ρ, SRep (volT z P q) K (fun _ => none) H2 F' H3 σ' ρ → _ := fun σ' F' H3 ρ s => hnext H3 (fun a o e h1 h2 => s.x.sH a o e (fun h => h.elim h1 h2)) s.x.g.vi.1 s.x.g.vi.2
  match o, ho with
  | .nx ρ, _ => exact fun σ' F' H3 s => nx σ' F' H3 ρ s
  | .ct ρ, _ => exact fun σ' F' H3 s => nx σ' F' H3 ρ s
  | .rt d, ho => exact ho.elim
  | .bk ρ, ho => exact ho.elim
end

/-! ### the Hook, tables within -/
structure SaysL (fa : List He.Fa) (fn : List He.DefD) (tf : List He.Defn) (ex : PySem.W.Frag → Bool) (h : Heap) (K : PySem.W.Frag) : Prop where
  c : He.SaysD fa fn K
  e : ex K = true
  hd : ∀ p ∈ tf, PySem.W.codeHdIn K (He.cT K p).1 (He.cT K p).2 = true
  out : ∀ p ∈ tf, K.lookup (He.cT K p).2 = none
  empty : ∀ p ∈ tf, h.get? (He.cT K p).2 = some { cls := .none, data := .fields #[] }
def obsL (n : Nat) (fa : List He.Fa) (fn : List He.DefD) (tf : List He.Defn) (ex : PySem.W.Frag → Bool) (g : Addr → Option Obj) : He.AlD × Bool :=
  (He.obsD fa fn (He.frT g (He.asD g n ++ [PySem.cStatics])), ex (He.frT g (He.asD g n ++ [PySem.cStatics])) && He.tabsB g tf (He.frT g (He.asD g n ++ [PySem.cStatics])))
theorem saysL_of {n : Nat} {fa : List He.Fa} {fn : List He.DefD} {tf : List He.Defn} {ex : PySem.W.Frag → Bool} {h : Heap} (e : obsL n fa fn tf ex h.get? = (He.valD fn, true)) : SaysL fa fn tf ex h (He.frT h.get? (He.asD h.get? n ++ [PySem.cStatics])) := by
  have ⟨h1, h2⟩ := He.ba (congrArg Prod.snd e)
  have key : ∀ p ∈ tf, _ := fun p hp => He.ba (List.all_eq_true.mp h2 p hp)
  have there : ∀ p ∈ tf, ∃ o, h.get? (He.cT (He.frT h.get? (He.asD h.get? n ++ [PySem.cStatics])) p).2 = some o ∧ He.emptyTab o = true := fun p hp => by
    have h4 := (key p hp).2
    split at h4
    · rename_i o q
      exact ⟨o, q, h4⟩
    · cases h4
  refine ⟨congrArg Prod.fst e, h1, fun p hp => (key p hp).1, fun p hp => ?_, fun p hp => ?_⟩
  · have ⟨o, q, z⟩ := there p hp
    exact He.frT_none q z
  · have ⟨o, q, z⟩ := there p hp
    rw [q, He.emptyTab_eq z]
def hookL (n : Nat) (fa : List He.Fa) (fn : List He.DefD) (tf : List He.Defn) (ex : PySem.W.Frag → Bool) : PySem.W.Hook where
  α := He.AlD × Bool
  obs := fun s => obsL n fa fn tf ex s.heap.get?
  val := fun _ => (He.valD fn, true)
  says := fun _ h => ∃ K : PySem.W.Frag, K.In h ∧ SaysL fa fn tf ex h K
  of := fun _ _ e => ⟨_, He.frT_in, saysL_of e⟩
  keeps := fun _ _ _ ⟨K, hK, c⟩ k => ⟨K, PySem.W.Frag.In.keeps hK k, c.c, c.e, c.hd, c.out, fun p hp => k _ _ (c.empty p hp)⟩
theorem obsL_eq {n : Nat} {fa : List He.Fa} {fn : List He.DefD} {tf : List He.Defn} {ex : PySem.W.Frag → Bool} {g : Addr → Option Obj} {s : Shared} (h : ∀ a, g a = s.heap.get? a) : obsL n fa fn tf ex g = (hookL n fa fn tf ex).obs s := by
  have e : g = s.heap.get? := funext h
  rw [e] <;> rfl
end DL

/-! the combinators under names that are not opened, each with its steps: for a reckoning by rewriting from within -/
namespace DL
open PySem PySem.Spec L2
abbrev FE := EnvD → M Exn D
abbrev FB := EnvD → M Exn Bool
abbrev FL := EnvD → M Exn (List D)
abbrev FS := EnvD → MS
section
variable {ρ : EnvD} {f fa fb fc fk fv : FE} {t u : FB} {fs : FL} {g h : FS} {a b c d : D} {x y : Exn} {z : Exn × EnvD} {ds : List D} {i j n : Nat} {C : Addr} {nm : Str}
/-! ### slots -/
theorem getV_z : getV 0 (some (.im d) :: ρ) = ret d := rfl
theorem getV_s {o : Option SlotD} : getV (i + 1) (o :: ρ) = getV i ρ := rfl
theorem getB_z : getB 0 (some (.im d) :: ρ) = ret d := rfl
theorem getB_o : getB 0 (some (.own d) :: ρ) = ret d := rfl
theorem getB_s {o : Option SlotD} : getB (i + 1) (o :: ρ) = getB i ρ := rfl
theorem frz_o : frz 0 (some (.own d) :: ρ) = some (.im d) :: ρ := rfl
theorem frz_i : frz 0 (some (.im d) :: ρ) = some (.im d) :: ρ := rfl
theorem frz_n : frz 0 (none :: ρ) = none :: ρ := rfl
theorem frz_s {o : Option SlotD} : frz (i + 1) (o :: ρ) = o :: frz i ρ := by
  unfold frz
  rw [List.getElem?_cons_succ]
  cases ρ[i]? with
  | none => rfl
  | some v => cases v with
    | none => rfl
    | some v => cases v <;> rfl
def vzAt : Nat → EnvD → Bool
  | 0, some (.vz 0) :: _ => true
  | i + 1, _ :: ρ => vzAt i ρ
  | _, _ => false
theorem vzAt_z : vzAt 0 (some (.vz 0) :: ρ) = true := (Eq.refl true).trans (Eq.refl true)
theorem vzAt_s {o : Option SlotD} : vzAt (i + 1) (o :: ρ) = vzAt i ρ := by cases o <;> rfl
theorem vzAt_eq : ∀ (i : Nat) (ρ : EnvD), vzAt i ρ = true → ρ[i]? = some (some (.vz 0))
  | 0, [], h => by cases h
  | 0, none :: ρ, h => by cases h
  | 0, some (.im _) :: ρ, h => by cases h
  | 0, some (.own _) :: ρ, h => by cases h
  | 0, some (.vz 0) :: ρ, h => rfl
  | 0, some (.vz (_ + 1)) :: ρ, h => by cases h
  | i + 1, [], h => by cases h
  | i + 1, o :: ρ, h => by
    rw [vzAt_s] at h
    exact vzAt_eq i ρ h
theorem begin_z : begin_ 0 [] = [] := rfl
theorem begin_n : begin_ (n + 1) [] = none :: begin_ n [] := rfl
theorem begin_s : begin_ (n + 1) (d :: ds) = some (.im d) :: begin_ n ds := by
  unfold begin_
  rw [List.length_cons, Nat.add_sub_add_right]
  rfl
theorem wipe_z : wipeD ρ [] = ρ := rfl
theorem wipe_c {l : List Nat} : wipeD ρ (i :: l) = (wipeD ρ l).set i none := rfl

/-! ### values -/
def kcE (d : D) : FE := fun _ => ret d
theorem kcE_ap : kcE d ρ = ret d := rfl
def twoE (fa fb : FE) (g : D → D → M Exn D) : FE := two fa fb g
def tw1 (m : M Exn D) (fb : FE) (g : D → D → M Exn D) (ρ : EnvD) : M Exn D := bnd m fun x => bnd (fb ρ) fun y => g x y
def tw2 (m : M Exn D) (g : D → D → M Exn D) (x : D) : M Exn D := bnd m fun y => g x y
section
variable {g : D → D → M Exn D}
theorem twoE_ap : twoE fa fb g ρ = tw1 (fa ρ) fb g ρ := rfl
theorem tw1_ret : tw1 (ret a) fb g ρ = tw2 (fb ρ) g a := rfl
theorem tw1_raise : tw1 (raise x) fb g ρ = raise x := rfl
theorem tw2_ret : tw2 (ret b) g a = g a b := rfl
theorem tw2_raise : tw2 (raise x) g a = raise x := rfl
end
def oneE (fa : FE) (g : D → M Exn D) : FE := one fa g
def on1 (m : M Exn D) (g : D → M Exn D) : M Exn D := bnd m g
section
variable {g : D → M Exn D}
theorem oneE_ap : oneE fa g ρ = on1 (fa ρ) g := rfl
theorem on1_ret : on1 (ret a) g = g a := rfl
theorem on1_raise : on1 (raise x) g = raise x := rfl
end
/-! ### tests -/
def asK (m : M Exn D) : M Exn Bool := bnd m asB
theorem asK_ret {v : Bool} : asK (ret (.bl v)) = ret v := rfl
theorem asK_raise : asK (raise x) = raise x := rfl
def tstE (f : FE) : FB := tst f
theorem tstE_ap : tstE f ρ = asK (f ρ) := rfl
def notE (t : FB) : FB := notT t
def ntK (m : M Exn Bool) : M Exn Bool := bnd m fun c => ret !c
theorem notE_ap : notE t ρ = ntK (t ρ) := rfl
theorem ntK_ret {v : Bool} : ntK (ret v) = ret (!v) := rfl
theorem ntK_raise : ntK (raise x) = raise x := rfl
def andE (t u : FB) : FB := andT t u
def an1 (m : M Exn Bool) (u : FB) (ρ : EnvD) : M Exn Bool := bnd m fun c => if c = true then u ρ else ret false
def an2 (c : Bool) (m : M Exn Bool) : M Exn Bool := if c = true then m else ret false
theorem andE_ap : andE t u ρ = an1 (t ρ) u ρ := rfl
theorem an1_ret {v : Bool} : an1 (ret v) u ρ = an2 v (u ρ) := rfl
theorem an1_raise : an1 (raise x) u ρ = raise x := rfl
theorem an2_t {m : M Exn Bool} : an2 true m = m := rfl
theorem an2_f {m : M Exn Bool} : an2 false m = ret false := rfl
theorem an2_ret {v w : Bool} : an2 v (ret w) = ret (v && w) := by cases v <;> rfl
def orE (t u : FB) : FB := orT t u
def or1 (m : M Exn Bool) (u : FB) (ρ : EnvD) : M Exn Bool := bnd m fun c => if c = true then ret true else u ρ
def or2 (c : Bool) (m : M Exn Bool) : M Exn Bool := if c = true then ret true else m
theorem orE_ap : orE t u ρ = or1 (t ρ) u ρ := rfl
theorem or1_ret {v : Bool} : or1 (ret v) u ρ = or2 v (u ρ) := rfl
theorem or1_raise : or1 (raise x) u ρ = raise x := rfl
theorem or2_t {m : M Exn Bool} : or2 true m = ret true := rfl
theorem or2_f {m : M Exn Bool} : or2 false m = m := rfl
theorem or2_ret {v w : Bool} : or2 v (ret w) = ret (v || w) := by cases v <;> rfl
/-! and, or, not as values -/
def andVE (f g : FE) : FE := andV f g
def av1 (m : M Exn Bool) (u : FE) (ρ : EnvD) : M Exn D := bnd m fun c => if c = true then u ρ else ret (.bl false)
def av2 (c : Bool) (m : M Exn D) : M Exn D := if c = true then m else ret (.bl false)
theorem andVE_ap : andVE fa fb ρ = av1 (asK (fa ρ)) fb ρ := rfl
theorem av1_ret {v : Bool} : av1 (ret v) fb ρ = av2 v (fb ρ) := rfl
theorem av1_raise : av1 (raise x) fb ρ = raise x := rfl
theorem av2_t {m : M Exn D} : av2 true m = m := rfl
theorem av2_f {m : M Exn D} : av2 false m = ret (.bl false) := rfl
theorem av2_ret {v w : Bool} : av2 v (ret (.bl w)) = ret (.bl (v && w)) := by cases v <;> rfl
def orVE (f g : FE) : FE := orV f g
def ov1 (m : M Exn Bool) (u : FE) (ρ : EnvD) : M Exn D := bnd m fun c => if c = true then ret (.bl true) else u ρ
def ov2 (c : Bool) (m : M Exn D) : M Exn D := if c = true then ret (.bl true) else m
theorem orVE_ap : orVE fa fb ρ = ov1 (asK (fa ρ)) fb ρ := rfl
theorem ov1_ret {v : Bool} : ov1 (ret v) fb ρ = ov2 v (fb ρ) := rfl
theorem ov1_raise : ov1 (raise x) fb ρ = raise x := rfl
theorem ov2_t {m : M Exn D} : ov2 true m = ret (.bl true) := rfl
theorem ov2_f {m : M Exn D} : ov2 false m = m := rfl
theorem ov2_ret {v w : Bool} : ov2 v (ret (.bl w)) = ret (.bl (v || w)) := by cases v <;> rfl
def notVE (f : FE) : FE := notV f
def nvK (m : M Exn Bool) : M Exn D := bnd m fun c => ret (.bl !c)
theorem notVE_ap : notVE f ρ = nvK (asK (f ρ)) := rfl
theorem nvK_ret {v : Bool} : nvK (ret v) = ret (.bl !v) := rfl
theorem nvK_raise : nvK (raise x) = raise x := rfl
/-! a chain -/
def chnE (fa fb : FE) (g1 : D → D → M Exn D) (fc : FE) (g2 : D → D → M Exn D) : FE := chn fa fb g1 fc g2
def ch1 (m : M Exn D) (fb : FE) (g1 : D → D → M Exn D) (fc : FE) (g2 : D → D → M Exn D) (ρ : EnvD) : M Exn D := bnd m fun x => bnd (fb ρ) fun y => bnd (bnd (g1 x y) asB) fun c => if c = true then bnd (fc ρ) fun z => g2 y z else ret (.bl false)
def ch2 (m : M Exn D) (g1 : D → D → M Exn D) (fc : FE) (g2 : D → D → M Exn D) (ρ : EnvD) (x : D) : M Exn D := bnd m fun y => bnd (bnd (g1 x y) asB) fun c => if c = true then bnd (fc ρ) fun z => g2 y z else ret (.bl false)
def ch3 (m : M Exn Bool) (fc : FE) (g2 : D → D → M Exn D) (ρ : EnvD) (y : D) : M Exn D := bnd m fun c => if c = true then bnd (fc ρ) fun z => g2 y z else ret (.bl false)
section
variable {g1 g2 : D → D → M Exn D}
theorem chnE_ap : chnE fa fb g1 fc g2 ρ = ch1 (fa ρ) fb g1 fc g2 ρ := rfl
theorem ch1_ret : ch1 (ret a) fb g1 fc g2 ρ = ch2 (fb ρ) g1 fc g2 ρ a := rfl
theorem ch2_ret : ch2 (ret b) g1 fc g2 ρ a = ch3 (asK (g1 a b)) fc g2 ρ b := rfl
theorem ch3_ret {v : Bool} : ch3 (ret v) fc g2 ρ b = av2 v (tw2 (fc ρ) g2 b) := rfl
end
/-! if .. else -/
def ifDE (t : FB) (a b : FE) : FE := ifD t a b
def id1 (m : M Exn Bool) (fa fb : FE) (ρ : EnvD) : M Exn D := bnd m fun c => if c = true then fa ρ else fb ρ
def id2 (c : Bool) (m m' : M Exn D) : M Exn D := if c = true then m else m'
theorem ifDE_ap : ifDE t fa fb ρ = id1 (t ρ) fa fb ρ := rfl
theorem id1_ret {v : Bool} : id1 (ret v) fa fb ρ = id2 v (fa ρ) (fb ρ) := rfl
theorem id1_raise : id1 (raise x) fa fb ρ = raise x := rfl
theorem id2_t {m m' : M Exn D} : id2 true m m' = m := rfl
theorem id2_f {m m' : M Exn D} : id2 false m m' = m' := rfl
theorem id2_ret {v : Bool} : id2 v (ret a) (ret b) = ret (if v = true then a else b) := by cases v <;> rfl
/-! ### arguments, displays -/
def nilE : FL := nilA
theorem nilE_ap : nilE ρ = ret [] := rfl
def consE (fa : FE) (fs : FL) : FL := consD fa fs
def cn1 (m : M Exn D) (fs : FL) (ρ : EnvD) : M Exn (List D) := bnd m fun x => bnd (fs ρ) fun xs => ret (x :: xs)
def cn2 (m : M Exn (List D)) (x : D) : M Exn (List D) := bnd m fun xs => ret (x :: xs)
theorem consE_ap : consE fa fs ρ = cn1 (fa ρ) fs ρ := rfl
theorem cn1_ret : cn1 (ret a) fs ρ = cn2 (fs ρ) a := rfl
theorem cn1_raise : cn1 (raise x) fs ρ = raise x := rfl
theorem cn2_ret : cn2 (ret ds) a = ret (a :: ds) := rfl
theorem cn2_raise : cn2 (raise x) a = raise x := rfl
def toE (fs : FL) (g : List D → M Exn D) : FE := fun ρ => bnd (fs ρ) g
def ck (m : M Exn (List D)) (g : List D → M Exn D) : M Exn D := bnd m g
section
variable {g : List D → M Exn D}
theorem toE_ap : toE fs g ρ = ck (fs ρ) g := rfl
theorem ck_ret : ck (ret ds) g = g ds := rfl
theorem ck_raise : ck (raise x) g = raise x := rfl
end
theorem tupD_of (h : ds.length ≤ 1000) : tupD ds = ret (.tup ds) := if_pos (Nat.le_trans h (by decide))
theorem lstD_of (h : ds.length ≤ 1000) : lstD ds = ret (.lst ds) := if_pos (Nat.le_trans h (by decide))
/-- short displays, by their length -/
def lenLe : List D → Nat → Bool
  | [], _ => true
  | _ :: _, 0 => false
  | _ :: ds, n + 1 => lenLe ds n
theorem lenLe_n : lenLe [] n = true := by cases n <;> rfl
theorem lenLe_c : lenLe (d :: ds) (n + 1) = lenLe ds n := rfl
theorem lenLe_le : ∀ {ds : List D} {n : Nat}, lenLe ds n = true → ds.length ≤ n
  | [], _, _ => Nat.zero_le _
  | _ :: _, 0, h => by cases h
  | _ :: ds, n + 1, h => by
    have h := lenLe_le (ds := ds) (n := n) h
    simp only [List.length_cons]; omega
theorem tupD_s (h : lenLe ds 60 = true) : tupD ds = ret (.tup ds) := tupD_of (Nat.le_trans (lenLe_le h) (by decide))
theorem lstD_s (h : lenLe ds 60 = true) : lstD ds = ret (.lst ds) := lstD_of (Nat.le_trans (lenLe_le h) (by decide))
/-! dict displays -/
abbrev FP := EnvD → M Exn (List (Key × D))
def nilPE : FP := nilP
theorem nilPE_ap : nilPE ρ = ret [] := rfl
def consPE (key : Key) (fv : FE) (fr : FP) : FP := consP key fv fr
def cp1 (m : M Exn D) (key : Key) (fr : FP) (ρ : EnvD) : M Exn (List (Key × D)) := bnd m fun d => bnd (fr ρ) fun r => ret ((key, d) :: r)
def cp2 (m : M Exn (List (Key × D))) (p : Key × D) : M Exn (List (Key × D)) := bnd m fun r => ret (p :: r)
theorem consPE_ap {key : Key} {fr : FP} : consPE key fv fr ρ = cp1 (fv ρ) key fr ρ := rfl
theorem cp1_ret {key : Key} {fr : FP} : cp1 (ret d) key fr ρ = cp2 (fr ρ) (key, d) := rfl
theorem cp2_ret {p : Key × D} {r : List (Key × D)} : cp2 (ret r) p = ret (p :: r) := rfl
def dispE (fp : FP) : FE := dispD fp
def dpK (m : M Exn (List (Key × D))) : M Exn D := bnd m fun kvs => if kvs.length ≤ 15 then ret (.dct (mergeD [] kvs)) else stuck
theorem dispE_ap {fp : FP} : dispE fp ρ = dpK (fp ρ) := rfl
theorem dpK_1 {p1 : Key × D} : dpK (ret [p1]) = ret (.dct (mergeD [] [p1])) := rfl
theorem dpK_2 {p1 p2 : Key × D} : dpK (ret [p1, p2]) = ret (.dct (mergeD [] [p1, p2])) := rfl
theorem dpK_3 {p1 p2 p3 : Key × D} : dpK (ret [p1, p2, p3]) = ret (.dct (mergeD [] [p1, p2, p3])) := rfl
theorem dpK_4 {p1 p2 p3 p4 : Key × D} : dpK (ret [p1, p2, p3, p4]) = ret (.dct (mergeD [] [p1, p2, p3, p4])) := rfl
/-! ### calls -/
def ofE (n : Nat) (m : List D → M Exn D) : List D → M Exn D := ofN n m
section
variable {m : List D → M Exn D} {d1 d2 d3 d4 d5 d6 d7 : D}
theorem ofE_0 : ofE 0 m [] = m [] := rfl
theorem ofE_1 : ofE 1 m [d1] = m [d1] := rfl
theorem ofE_2 : ofE 2 m [d1, d2] = m [d1, d2] := rfl
theorem ofE_3 : ofE 3 m [d1, d2, d3] = m [d1, d2, d3] := rfl
theorem ofE_4 : ofE 4 m [d1, d2, d3, d4] = m [d1, d2, d3, d4] := rfl
theorem ofE_5 : ofE 5 m [d1, d2, d3, d4, d5] = m [d1, d2, d3, d4, d5] := rfl
theorem ofE_6 : ofE 6 m [d1, d2, d3, d4, d5, d6] = m [d1, d2, d3, d4, d5, d6] := rfl
theorem ofE_7 : ofE 7 m [d1, d2, d3, d4, d5, d6, d7] = m [d1, d2, d3, d4, d5, d6, d7] := rfl
/-- .. with a further argument behind, not named -/
def ofDE (n : Nat) (dd : D) (m : List D → M Exn D) : List D → M Exn D := ofN n fun ds => m (ds ++ [dd])
theorem ofDE_1 {dd : D} : ofDE 1 dd m [d1] = m [d1, dd] := rfl
def flE (n : Nat) (m : List D → M Exn D) : List D → M Exn D := fun ds => flatM (ofN n m ds)
def flK (m : M Exn D) : M Exn D := flatM m
theorem flE_ap : flE n m ds = flK (ofE n m ds) := rfl
theorem flK_i {v : Int} : flK (ret (.int v)) = ret (.int v) := rfl
theorem flK_b {v : Bool} : flK (ret (.bl v)) = ret (.bl v) := rfl
theorem flK_s {v : Str} : flK (ret (.str v)) = ret (.str v) := rfl
theorem flK_n : flK (ret .non) = ret .non := rfl
theorem flK_raise : flK (raise x) = raise x := rfl
def callZE (i : Nat) (fs : FL) (m : List D → M Exn D) : FE := callZ i fs m
def cz1 (v : Bool) (m : M Exn (List D)) (g : List D → M Exn D) : M Exn D := if v = true then bnd m g else stuck
def czE (i : Nat) (fs : FL) (g : List D → M Exn D) (ρ : EnvD) : M Exn D := callZ i fs g ρ
theorem callZE_ap (hz : vzAt i ρ = true) : callZE i fs m ρ = ck (fs ρ) m := by
  unfold callZE callZ
  rw [vzAt_eq i ρ hz]
  rfl
def makeE (fs : FL) (fk : FE) (n : Nat) (m : List D → M Exn D) : FE := makeK fs fk n m
def mk1 (q : M Exn (List D)) (fk : FE) (n : Nat) (m : List D → M Exn D) (ρ : EnvD) : M Exn D := bnd q fun ds => bnd (fk ρ) fun d => if ds.length = n then m (ds ++ [d]) else stuck
def mk2 (q : M Exn D) (n : Nat) (m : List D → M Exn D) (ds : List D) : M Exn D := bnd q fun d => if ds.length = n then m (ds ++ [d]) else stuck
theorem makeE_ap : makeE fs fk n m ρ = mk1 (fs ρ) fk n m ρ := rfl
theorem mk1_ret : mk1 (ret ds) fk n m ρ = mk2 (fk ρ) n m ds := rfl
theorem mk1_raise : mk1 (raise x) fk n m ρ = raise x := rfl
theorem mk2_ret : mk2 (ret d) 1 m [d1] = m [d1, d] := rfl
theorem mk2_raise : mk2 (raise x) n m ds = raise x := rfl
/-! methods -/
def methE (C : Addr) (nm : Str) (fo : FE) (fs : FL) (m : List D → M Exn D) : FE := methD C nm fo fs m
def mt1 (q : M Exn D) (C : Addr) (nm : Str) (fs : FL) (m : List D → M Exn D) (ρ : EnvD) : M Exn D := bnd q fun d => match d with
  | .obj C' gs => if C' = C ∧ (gs.lookup nm).isNone = true then bnd (fs ρ) fun ds => m (.obj C' gs :: ds) else stuck
  | _ => stuck
def mt2 (d : D) (C : Addr) (nm : Str) (fs : FL) (m : List D → M Exn D) (ρ : EnvD) : M Exn D := match d with
  | .obj C' gs => if C' = C ∧ (gs.lookup nm).isNone = true then bnd (fs ρ) fun ds => m (.obj C' gs :: ds) else stuck
  | _ => stuck
def mt3 (q : M Exn (List D)) (d : D) (m : List D → M Exn D) : M Exn D := bnd q fun ds => m (d :: ds)
theorem methE_ap : methE C nm fa fs m ρ = mt1 (fa ρ) C nm fs m ρ := rfl
theorem mt1_ret : mt1 (ret d) C nm fs m ρ = mt2 d C nm fs m ρ := rfl
theorem mt1_raise : mt1 (raise x) C nm fs m ρ = raise x := rfl
theorem mt2_obj {gs : List (Str × D)} (hn : (gs.lookup nm).isNone = true) : mt2 (.obj C gs) C nm fs m ρ = mt3 (fs ρ) (.obj C gs) m := if_pos ⟨rfl, hn⟩
theorem mt3_ret : mt3 (ret ds) d m = m (d :: ds) := rfl
theorem mt3_raise : mt3 (raise x) d m = raise x := rfl
def lenE (C : Addr) (m : List D → M Exn D) (f : FE) : FE := lenC C m f
end
/-! told -/
def toldE (A : Cl) (f : FE) : FE := toldD A f
def tdK (A : Cl) (m : M Exn D) : M Exn D := catchE m (tellM A)
section
variable {A : Cl}
theorem toldE_ap : toldE A f ρ = tdK A (f ρ) := rfl
theorem tdK_ret : tdK A (ret d) = ret d := rfl
theorem tdK_raise : tdK A (raise x) = tellM A x := rfl
end
/-! ### what is walked -/
def itE (f : FE) (g : D → M Exn (List D)) : FL := fun ρ => bnd (f ρ) g
def itK (m : M Exn D) (g : D → M Exn (List D)) : M Exn (List D) := bnd m g
section
variable {g : D → M Exn (List D)}
theorem itE_ap : itE f g ρ = itK (f ρ) g := rfl
theorem itK_ret : itK (ret d) g = g d := rfl
theorem itK_raise : itK (raise x) g = raise x := rfl
theorem itemsL_l : itemsL (.lst ds) = ret ds := rfl
theorem itemsL_t : itemsL (.tup ds) = ret ds := rfl
end
def itsE (fs : FL) (g : List D → M Exn (List D)) : FL := fun ρ => bnd (fs ρ) g
def isK (m : M Exn (List D)) (g : List D → M Exn (List D)) : M Exn (List D) := bnd m g
section
variable {g : List D → M Exn (List D)}
theorem itsE_ap : itsE fs g ρ = isK (fs ρ) g := rfl
theorem isK_ret : isK (ret ds) g = g ds := rfl
theorem isK_raise : isK (raise x) g = raise x := rfl
theorem enumD_l : enumD [.lst ds] = ret (enumFrom 0 ds) := rfl
end
/-! ### targets -/
theorem setS_ap : setS i d ρ = some (ρ.set i (some (.im d))) := rfl
section
variable {bs : List D → EnvD → Option EnvD} {bt : D → EnvD → Option EnvD}
theorem setNil_ap : setNil [] ρ = some ρ := rfl
theorem setConsS_ap : setCons (setS i) bs (d :: ds) ρ = bs ds (ρ.set i (some (.im d))) := rfl
theorem setTup_1 {d1 : D} : setTupN 1 bs (.tup [d1]) ρ = bs [d1] ρ := rfl
theorem setTup_2 {d1 d2 : D} : setTupN 2 bs (.tup [d1, d2]) ρ = bs [d1, d2] ρ := rfl
theorem setTup_3 {d1 d2 d3 : D} : setTupN 3 bs (.tup [d1, d2, d3]) ρ = bs [d1, d2, d3] ρ := rfl
theorem setTup_4 {d1 d2 d3 d4 : D} : setTupN 4 bs (.tup [d1, d2, d3, d4]) ρ = bs [d1, d2, d3, d4] ρ := rfl
theorem setTup_5 {d1 d2 d3 d4 d5 : D} : setTupN 5 bs (.tup [d1, d2, d3, d4, d5]) ρ = bs [d1, d2, d3, d4, d5] ρ := rfl
theorem setConsT_ap {n : Nat} {bs' : List D → EnvD → Option EnvD} : setCons (setTupN n bs') bs (d :: ds) ρ = (setTupN n bs' d ρ).bind (bs ds) := rfl
end
/-! ### statements -/
def seqE (g h : FS) : FS := seqS g h
def sq1 (m : MS) (h : FS) : MS := bnd m fun o => match o with
  | .nx ρ' => h ρ'
  | o => ret o
theorem seqE_ap : seqE g h ρ = sq1 (g ρ) h := rfl
theorem sq1_nx : sq1 (ret (.nx ρ)) h = h ρ := rfl
theorem sq1_rt : sq1 (ret (.rt d)) h = ret (.rt d) := rfl
theorem sq1_bk : sq1 (ret (.bk ρ)) h = ret (.bk ρ) := rfl
theorem sq1_ct : sq1 (ret (.ct ρ)) h = ret (.ct ρ) := rfl
theorem sq1_raise : sq1 (raise z) h = raise z := rfl
def setE (i : Nat) (f : FE) : FS := setI i f
def st1 (m : M Exn D) (i : Nat) (ρ : EnvD) : MS := bnd (lft ρ m) fun d => ret (.nx (ρ.set i (some (.im d))))
theorem setE_ap : setE i f ρ = st1 (f ρ) i ρ := rfl
theorem st1_ret : st1 (ret d) i ρ = ret (.nx (ρ.set i (some (.im d)))) := rfl
theorem st1_raise : st1 (raise x) i ρ = raise (x, ρ) := rfl
def setOE (i : Nat) (f : FE) : FS := setO i f
def so1 (m : M Exn D) (i : Nat) (ρ : EnvD) : MS := bnd (lft ρ m) fun d => ret (.nx (ρ.set i (some (.own d))))
theorem setOE_ap : setOE i f ρ = so1 (f ρ) i ρ := rfl
theorem so1_ret : so1 (ret d) i ρ = ret (.nx (ρ.set i (some (.own d)))) := rfl
theorem so1_raise : so1 (raise x) i ρ = raise (x, ρ) := rfl
def retE (f : FE) : FS := retS f
def rt1 (m : M Exn D) (ρ : EnvD) : MS := bnd (lft ρ m) fun d => ret (.rt d)
theorem retE_ap : retE f ρ = rt1 (f ρ) ρ := rfl
theorem rt1_ret : rt1 (ret d) ρ = ret (.rt d) := rfl
theorem rt1_raise : rt1 (raise x) ρ = raise (x, ρ) := rfl
def retNE : FS := fun ρ => ret (.rt .non)
theorem retNE_ap : retNE ρ = ret (.rt .non) := rfl
def breakE : FS := fun ρ => ret (.bk ρ)
theorem breakE_ap : breakE ρ = ret (.bk ρ) := rfl
def exprE (f : FE) : FS := exprS f
def ex1 (m : M Exn D) (ρ : EnvD) : MS := bnd (lft ρ m) fun _ => ret (.nx ρ)
theorem exprE_ap : exprE f ρ = ex1 (f ρ) ρ := rfl
theorem ex1_ret : ex1 (ret d) ρ = ret (.nx ρ) := rfl
theorem ex1_raise : ex1 (raise x) ρ = raise (x, ρ) := rfl
def nopE : FS := nopS
theorem nopE_ap : nopE ρ = ret (.nx ρ) := rfl
def ifE (t : FB) (g h : FS) : FS := ifS t g h
def if1 (m : M Exn Bool) (g h : FS) (ρ : EnvD) : MS := bnd (lft ρ m) fun q => if q = true then g ρ else h ρ
def if2 (v : Bool) (g h : FS) (ρ : EnvD) : MS := if v = true then g ρ else h ρ
theorem ifE_ap : ifE t g h ρ = if1 (t ρ) g h ρ := rfl
theorem if1_ret {v : Bool} : if1 (ret v) g h ρ = if2 v g h ρ := rfl
theorem if1_raise : if1 (raise x) g h ρ = raise (x, ρ) := rfl
theorem if2_t : if2 true g h ρ = g ρ := rfl
theorem if2_f : if2 false g h ρ = h ρ := rfl
def frzE (i : Nat) (g : FS) : FS := fun ρ => g (frz i ρ)
theorem frzE_ap : frzE i g ρ = g (frz i ρ) := rfl
def raisePE (C : Addr) : FS := raiseP C
theorem raisePE_ap : raisePE C ρ = raise (⟨C, none⟩, ρ) := rfl
def raiseFE (C : Addr) (nm : Str) (f : FE) : FS := raiseF C nm f
def rf1 (m : M Exn D) (C : Addr) (nm : Str) (ρ : EnvD) : MS := bnd (lft ρ m) fun d => match flatD d with
  | some v => raise (⟨C, some (nm, v)⟩, ρ)
  | none => stuck
theorem raiseFE_ap : raiseFE C nm f ρ = rf1 (f ρ) C nm ρ := rfl
theorem rf1_i {v : Int} : rf1 (ret (.int v)) C nm ρ = raise (⟨C, some (nm, .int v)⟩, ρ) := rfl
theorem rf1_s {v : Str} : rf1 (ret (.str v)) C nm ρ = raise (⟨C, some (nm, .str v)⟩, ρ) := rfl
theorem rf1_n : rf1 (ret .non) C nm ρ = raise (⟨C, some (nm, .non)⟩, ρ) := rfl
theorem rf1_raise : rf1 (raise x) C nm ρ = raise (x, ρ) := rfl
def tupSE (bt : D → EnvD → Option EnvD) (f : FE) : FS := tupS bt f
def tp1 (m : M Exn D) (bt : D → EnvD → Option EnvD) (ρ : EnvD) : MS := bnd (lft ρ m) fun d => match bt d ρ with
  | some ρ' => ret (.nx ρ')
  | none => stuck
def tp2 (o : Option EnvD) : MS := match o with
  | some ρ' => ret (.nx ρ')
  | none => stuck
section
variable {bt : D → EnvD → Option EnvD}
theorem tupSE_ap : tupSE bt f ρ = tp1 (f ρ) bt ρ := rfl
theorem tp1_ret : tp1 (ret d) bt ρ = tp2 (bt d ρ) := rfl
theorem tp1_raise : tp1 (raise x) bt ρ = raise (x, ρ) := rfl
theorem tp2_some : tp2 (some ρ) = ret (.nx ρ) := rfl
end
def parE (i j : Nat) (w1 w2 : Way) (fa fb : FE) : FS := parS i j w1 w2 fa fb
def pa1 (m : M Exn D) (i j : Nat) (w1 w2 : Way) (fb : FE) (ρ : EnvD) : MS := bnd (lft ρ m) fun d => bnd (lft ρ (fb ρ)) fun d' => ret (.nx ((ρ.set i (some (w1.slot d))).set j (some (w2.slot d'))))
def pa2 (m : M Exn D) (i j : Nat) (w1 w2 : Way) (d : D) (ρ : EnvD) : MS := bnd (lft ρ m) fun d' => ret (.nx ((ρ.set i (some (w1.slot d))).set j (some (w2.slot d'))))
section
variable {w1 w2 w3 : Way} {l : Nat}
theorem parE_ap : parE i j w1 w2 fa fb ρ = pa1 (fa ρ) i j w1 w2 fb ρ := rfl
theorem pa1_ret : pa1 (ret d) i j w1 w2 fb ρ = pa2 (fb ρ) i j w1 w2 d ρ := rfl
theorem pa1_raise : pa1 (raise x) i j w1 w2 fb ρ = raise (x, ρ) := rfl
theorem pa2_ret {d' : D} : pa2 (ret d') i j w1 w2 d ρ = ret (.nx ((ρ.set i (some (w1.slot d))).set j (some (w2.slot d')))) := rfl
theorem pa2_raise : pa2 (raise x) i j w1 w2 d ρ = raise (x, ρ) := rfl
theorem slot_im : Way.slot .im d = .im d := rfl
theorem slot_own : Way.slot .own d = .own d := rfl
def par3E (i j l : Nat) (w1 w2 w3 : Way) (fa fb fc : FE) : FS := par3S i j l w1 w2 w3 fa fb fc
def p31 (m : M Exn D) (i j l : Nat) (w1 w2 w3 : Way) (fb fc : FE) (ρ : EnvD) : MS := bnd (lft ρ m) fun d => bnd (lft ρ (fb ρ)) fun d' => bnd (lft ρ (fc ρ)) fun d'' => ret (.nx (((ρ.set i (some (w1.slot d))).set j (some (w2.slot d'))).set l (some (w3.slot d''))))
def p32 (m : M Exn D) (i j l : Nat) (w1 w2 w3 : Way) (fc : FE) (d : D) (ρ : EnvD) : MS := bnd (lft ρ m) fun d' => bnd (lft ρ (fc ρ)) fun d'' => ret (.nx (((ρ.set i (some (w1.slot d))).set j (some (w2.slot d'))).set l (some (w3.slot d''))))
def p33 (m : M Exn D) (i j l : Nat) (w1 w2 w3 : Way) (d d' : D) (ρ : EnvD) : MS := bnd (lft ρ m) fun d'' => ret (.nx (((ρ.set i (some (w1.slot d))).set j (some (w2.slot d'))).set l (some (w3.slot d''))))
theorem par3E_ap : par3E i j l w1 w2 w3 fa fb fc ρ = p31 (fa ρ) i j l w1 w2 w3 fb fc ρ := rfl
theorem p31_ret : p31 (ret d) i j l w1 w2 w3 fb fc ρ = p32 (fb ρ) i j l w1 w2 w3 fc d ρ := rfl
theorem p32_ret {d' : D} : p32 (ret d') i j l w1 w2 w3 fc d ρ = p33 (fc ρ) i j l w1 w2 w3 d d' ρ := rfl
theorem p33_ret {d' d'' : D} : p33 (ret d'') i j l w1 w2 w3 d d' ρ = ret (.nx (((ρ.set i (some (w1.slot d))).set j (some (w2.slot d'))).set l (some (w3.slot d'')))) := rfl
end
def forE (fs : FL) (bt : D → EnvD → Option EnvD) (g : FS) : FS := forS fs bt g
def fo1 (m : M Exn (List D)) (bt : D → EnvD → Option EnvD) (g : FS) (ρ : EnvD) : MS := bnd (lft ρ m) fun ds => forM bt g ds ρ
section
variable {bt : D → EnvD → Option EnvD}
theorem forE_ap : forE fs bt g ρ = fo1 (fs ρ) bt g ρ := rfl
theorem fo1_ret : fo1 (ret ds) bt g ρ = forM bt g ds ρ := rfl
theorem fo1_raise : fo1 (raise x) bt g ρ = raise (x, ρ) := rfl
end
/-! comprehensions -/
def lcE (fs : FL) (bt : D → EnvD → Option EnvD) (sl : List Nat) (t : FB) (f : FE) : FE := lcD fs bt sl t f
def lc1 (m : M Exn (List D)) (bt : D → EnvD → Option EnvD) (sl : List Nat) (t : FB) (f : FE) (ρ : EnvD) : M Exn D := bnd m fun ds => bnd (lcGo bt t f (wipeD ρ sl) ds []) fun ys => ret (.lst ys)
def yesE : FB := fun _ => ret true
theorem yesE_ap : yesE ρ = ret true := rfl
section
variable {bt : D → EnvD → Option EnvD} {sl : List Nat}
theorem lcE_ap : lcE fs bt sl t f ρ = lc1 (fs ρ) bt sl t f ρ := rfl
theorem lc1_eq {α : Type} {xs : List α} (δ : α → D) (tt : α → Bool) (r : α → D)
    (h : ∀ x ∈ xs, ∃ ρ', bt (δ x) (wipeD ρ sl) = some ρ' ∧ t ρ' = ret (tt x) ∧ (tt x = true → f ρ' = ret (r x))) : lc1 (ret (xs.map δ)) bt sl t f ρ = ret (.lst ((xs.filter tt).map r)) :=
  lcD_eq (fs := fun _ => ret (xs.map δ)) δ tt r rfl h
/-- .. without a test -/
theorem lc1_map {α : Type} {xs : List α} (δ : α → D) (r : α → D)
    (h : ∀ x ∈ xs, ∃ ρ', bt (δ x) (wipeD ρ sl) = some ρ' ∧ f ρ' = ret (r x)) : lc1 (ret (xs.map δ)) bt sl yesE f ρ = ret (.lst (xs.map r)) := by
  rw [lc1_eq δ (fun _ => true) r fun x hx => by obtain ⟨ρ', h1, h2⟩ := h x hx; exact ⟨ρ', h1, rfl, fun _ => h2⟩, filter_true]
end
/-! ### a def -/
def runE (n : Nat) (g : FS) : List D → M Exn D := runD n g
def rd1 (m : MS) : M Exn D := bnd (mapE Prod.fst m) fun o => match o with
  | .nx _ => ret .non
  | .rt d => ret d
  | _ => stuck
theorem runE_ap : runE n g ds = rd1 (g (begin_ n ds)) := rfl
theorem rd1_nx : rd1 (ret (.nx ρ)) = ret .non := rfl
theorem rd1_rt : rd1 (ret (.rt d)) = ret d := rfl
theorem rd1_raise : rd1 (raise (x, ρ)) = raise x := rfl
def runZE (n : Nat) (g : FS) : List D → M Exn D := runZ n g
theorem runZE_ap : runZE n g ds = rd1 (g (some (.vz 0) :: begin_ (n - 1) ds)) := rfl
end
end DL

/-! an __init__: what it stores at its self, one behind another -/
namespace DL
open PySem PySem.Spec L2

def putFD (f : Str) (v : D) : List (Str × D) → List (Str × D)
  | [] => [(f, v)]
  | (g, x) :: r => if g = f then (g, v) :: r else (g, x) :: putFD f v r
theorem putFD_len (f : Str) (v : D) : ∀ fs : List (Str × D), (putFD f v fs).length ≤ fs.length + 1
  | [] => Nat.le_refl _
  | (g, x) :: r => by
    unfold putFD
    split
    · simp
    · have := putFD_len f v r
      simp only [List.length_cons]; omega
theorem RepF.put {K : PySem.W.Frag} {F : Hp} {f : Str} {d : D} {v : V} (h : Rep K F d v) : ∀ {fs : List (Str × D)} {ws : List (Str × V)}, RepF K F fs ws → RepF K F (putFD f d fs) (putF f v ws)
  | [], _, r => by cases r; exact ⟨v, _, rfl, h, rfl⟩
  | (g, x) :: fs, _, r => by
    obtain ⟨w, r, rfl, a, b⟩ := r
    unfold putFD putF
    by_cases e : g = f
    · rw [if_pos e, if_pos e]; exact ⟨v, _, rfl, h, b⟩
    · rw [if_neg e, if_neg e]; exact ⟨w, _, rfl, a, RepF.put h b⟩
theorem RepF.length {K : PySem.W.Frag} {F : Hp} : ∀ {fs : List (Str × D)} {ws : List (Str × V)}, RepF K F fs ws → ws.length = fs.length
  | [], _, r => by cases r; rfl
  | (g, x) :: fs, _, r => by
    obtain ⟨w, r, rfl, a, b⟩ := r
    simp [RepF.length b]

/-- the object at a stands in slot 0 -/
def OutI (vol : Vol) (K : PySem.W.Frag) (F0 H0 : Hp) (a : Addr) (Dn : Ends) : Out → Prop
  | .nx ρ => ∀ σ F H, SRep vol K F0 H0 F H σ ρ → σ[0]? = some (some (.ref a)) → Dn.nx σ H
  | _ => False
def tSI (vol : Vol) (K : PySem.W.Frag) (W : WX) (F0 H0 : Hp) (a : Addr) (g : EnvD → MS) : TS := fun Dn σ H =>
  ∃ F ρ, SRep vol K F0 H0 F H σ ρ ∧ σ[0]? = some (some (.ref a)) ∧ (g ρ).run (OutI vol K F0 H0 a Dn) (XS vol K W F0 H0)
structure DI (X : Cx) (vol : Vol) (W : WX) (F0 H0 : Hp) (a : Addr) (st : Stmt) (g : EnvD → MS) : Prop where
  run : PS X st (tSI vol X.K W F0 H0 a g)
structure DIs (X : Cx) (vol : Vol) (W : WX) (F0 H0 : Hp) (a : Addr) (st : List Stmt) (g : EnvD → MS) : Prop where
  run : PSs X st (tSI vol X.K W F0 H0 a g)
def at0 (ρ : EnvD) : Option (Option SlotD) := ρ[0]?
/-- self.nm = e -/
def attS (C : Addr) (nm : Str) (f : EnvD → M Exn D) : EnvD → MS := fun ρ => bnd (lft ρ (f ρ)) fun d => match at0 ρ with
  | some (some (.own (.obj C' fs))) => if C' = C ∧ fs.length < 900 then ret (.nx (ρ.set 0 (some (.own (.obj C (putFD nm d fs)))))) else stuck
  | _ => stuck
/-- if c: raise .. -/
def ifRS (t : EnvD → M Exn Bool) (g : EnvD → MS) : EnvD → MS := fun ρ => bnd (lft ρ (t ρ)) fun c => if c = true then bnd (g ρ) (fun _ => stuck) else ret (.nx ρ)
section
variable {X : Cx} {vol : Vol} {W : WX} {F0 H0 : Hp} {p : Addr} {e c : Expr} {f : EnvD → M Exn D} {pos apos npos : Pos} {k : Nat} {st : Stmt} {sts rest : List Stmt} {g h : EnvD → MS} {x nm : Str} {C : Addr}
theorem dis_nil : DIs X vol W F0 H0 p [] (fun ρ => ret (.nx ρ)) := ⟨pss_nil.conseq fun Dn σ H ⟨F, ρ, s, hs, q⟩ => q σ F H s hs⟩
theorem dis_cons (h1 : DI X vol W F0 H0 p st g) (h2 : DIs X vol W F0 H0 p rest h) : DIs X vol W F0 H0 p (st :: rest) (seqS g h) :=
  ⟨(pss_cons h1.run h2.run).conseq fun Dn σ H ⟨F, ρ, s, hs, q⟩ => ⟨F, ρ, s, hs, (g ρ).mono _ _ _ _ (fun o q1 => by
    cases o with
    | nx ρ' => exact fun σ' F' H' s' hs' => ⟨F', ρ', s', hs', q1⟩
    | rt d => exact q1.elim
    | bk ρ' => exact q1.elim
    | ct ρ' => exact q1.elim) (fun _ z => z) q⟩⟩
theorem dis_one (h1 : DI X vol W F0 H0 p st g) : DIs X vol W F0 H0 p [st] g := ⟨pss_one h1.run⟩
theorem di_expr (g0 : Good vol F0 H0) (he : DB X vol W e f) (hs : swapsWith e none pos.line X.env = pure false := by rfl) : DI X vol W F0 H0 p (.Expr e pos) (fun ρ => bnd (lft ρ (f ρ)) fun _ => ret (.nx ρ)) :=
  ⟨(ps_expr he.run hs).conseq fun Dn σ H ⟨F, ρ, s, h0, q⟩ => go_b g0 s q fun d q1 v F' H' x s' r => q1 σ F' H' s' h0⟩
theorem di_ifR {t : EnvD → M Exn Bool} (g0 : Good vol F0 H0) (hc : DT X vol W c t) (ha : DSs X vol W F0 H0 sts g) : DI X vol W F0 H0 p (.If c sts [] pos) (ifRS t g) :=
  ⟨(ps_if hc.run ha.run (dis_nil (vol := vol) (W := W) (F0 := F0) (H0 := H0) (p := p)).run).conseq fun Dn σ H ⟨F, ρ, s, h0, q⟩ => go_t g0 s q fun d q1 F' H' x s' => by
    cases d with
    | true => exact ⟨F', ρ, s', (g ρ).mono _ _ _ _ (fun o z => z.elim) (fun _ z => z) q1⟩
    | false => exact ⟨F', ρ, s', h0, q1⟩⟩
theorem di_att (g0 : Good vol F0 H0) (hv : PE X (.Name x npos) (tVar 0)) (he : DF X vol W e f) (cl : Cls X.K C) (na : NoAttr X.K C nm) (hs : swapsWith e (some (.Attribute (.Name x npos) nm apos)) pos.line X.env = pure false := by rfl) :
    DI X vol W F0 H0 p (.Assign [.Attribute (.Name x npos) nm apos] e pos) (attS C nm f) :=
  ⟨(ps_fld hv he.run hs).conseq fun Dn σ H ⟨F, ρ, s, h0, q⟩ => go_f g0 s q fun d q1 v F' H' x s' r => by
    replace q1 : (match at0 ρ with
      | some (some (.own (.obj C' fs))) => if C' = C ∧ fs.length < 900 then ret (.nx (ρ.set 0 (some (.own (.obj C (putFD nm d fs)))))) else stuck
      | _ => stuck : MS).run (OutI vol X.K F0 H0 p Dn) (XS vol X.K W F0 H0) := q1
    split at q1
    · rename_i C' fs e0
      split at q1
      · rename_i hc
        obtain ⟨rfl, hl⟩ := hc
        obtain ⟨p', hp', ow, hn⟩ := s'.addr e0
        rw [h0] at hp'
        cases hp'
        obtain ⟨hz, dx, ws, hH, rf⟩ := ow.rep
        refine ⟨_, h0, p, _, dx, ws, rfl, hH, cl, na, by rw [rf.length]; omega, ?_⟩
        refine q1 σ F' _ (s'.write e0 h0 ⟨?_, dx, _, upd_same, rf.put r⟩) h0
        have := putFD_len nm d fs
        omega
      · exact q1.elim
    · exact q1.elim⟩
end
/-! the whole __init__ -/
def runI (C : Addr) (n : Nat) (g : EnvD → MS) : List D → M Exn D := fun ds => bnd (mapE Prod.fst (g (some (.own (.obj C [])) :: begin_ (n - 1) ds))) fun o => match o with
  | .nx ρ => (match at0 ρ with
    | some (some (.own d)) => ret d
    | _ => stuck)
  | _ => stuck
theorem SRep.beginI {C a dx : Addr} {K : PySem.W.Frag} {F H₀ H : Hp} {N : List Str} {ds : List D} {vs : List V} (sF : Same F H₀) (sH : Same H₀ H) (ha : H a = some (.ins C dx [])) (h0 : H₀ a = none) (r : RepL K F ds vs) :
    SRep vol0 K F H₀ F H (L2.start N (.ref a :: vs)) (some (.own (.obj C [])) :: begin_ (N.length - 1) ds) := by
  have nF : F a = none := by
    cases e : F a with
    | none => rfl
    | some o => have := sF _ _ e; rw [h0] at this; cases this
  have x : Ext vol0 F H₀ F H := ⟨good0 (sF.trans sH), Same.refl _, fun a o e _ => sH a o e, fun _ _ _ n => n⟩
  have hl := r.length
  have ow : OwnAt vol0 K F H a (.obj C []) := ⟨nF, fun z => z.elim, by
    refine ⟨Nat.zero_le _, dx, [], ha, rfl⟩⟩
  have get : ∀ (i : Nat) (c : SlotD), (begin_ (N.length - 1) ds)[i]? = some (some c) → ∃ d, c = .im d ∧ ds[i]? = some d := fun i c e => by
    unfold begin_ at e
    by_cases hi : i < ds.length
    · rw [List.getElem?_append_left (by simpa using hi), List.getElem?_map] at e
      cases q : ds[i]? with
      | none => rw [q] at e; cases e
      | some d' => rw [q] at e; cases e; exact ⟨d', rfl, rfl⟩
    · rw [List.getElem?_append_right (by simpa using hi), List.getElem?_replicate] at e
      split at e <;> cases e
  have st : ∀ i, (L2.start N (.ref a :: vs))[i + 1]? = (L2.start N (.ref a :: vs)).tail[i]? := fun i => by
    unfold L2.start
    simp
  refine ⟨x, ⟨?_, fun i d e => ?_, fun i d e => ?_, fun i n e => ?_⟩, fun i d e => ?_, fun i j d d' q e1 e2 h1 h2 => ?_⟩
  · unfold L2.start begin_
    simp [hl]
    omega
  · cases i with
    | zero => cases e
    | succ i =>
      rw [List.getElem?_cons_succ] at e
      obtain ⟨d', e1, e2⟩ := get i _ e
      cases e1
      obtain ⟨v, ev, rv⟩ := r.get e2
      refine ⟨v, ?_, rv⟩
      unfold L2.start
      have hi : i < vs.length := (List.getElem?_eq_some_iff.mp ev).1
      rw [List.getElem?_append_left (by simpa using hi), List.getElem?_map, List.getElem?_cons_succ, ev]
      rfl
  · cases i with
    | zero => cases e; exact ⟨a, rfl, ow⟩
    | succ i =>
      rw [List.getElem?_cons_succ] at e
      obtain ⟨d', e1, e2⟩ := get i _ e
      cases e1
  · cases i with
    | zero => cases e
    | succ i =>
      rw [List.getElem?_cons_succ] at e
      obtain ⟨d', e1, e2⟩ := get i _ e
      cases e1
  · cases i with
    | zero => exact ⟨a, rfl, h0⟩
    | succ i =>
      rw [List.getElem?_cons_succ] at e
      obtain ⟨d', e1, e2⟩ := get i _ e
      cases e1
  · cases i with
    | succ i =>
      rw [List.getElem?_cons_succ] at e1
      obtain ⟨d', e1, e2⟩ := get i _ e1
      cases e1
    | zero =>
      cases j with
      | zero => rfl
      | succ j =>
        rw [List.getElem?_cons_succ] at e2
        obtain ⟨d', e1, e2⟩ := get j _ e2
        cases e1
section
variable {P : Program} {w : World} {K : PySem.W.Frag} {mg : Str → Option Value} {base : Heap}
theorem fn_okI {x qual : Str} {st : Stmt} {f C : Addr} {fd : FuncData} {N ps : List Str} {k n : Nat} {g : EnvD → MS} (F : Fun K x qual st f fd) (S : FnScope N ps (defScope st)) (hn : n + 1 = ps.length)
    (hbody : ∀ (cdv : Value) (A : Around) (outer : List Env) (s : Shared) (H : Hp) (E : XK) (F0 H0 : Hp) (a : Addr), Good vol0 F0 H0 → Ctx (cxOf (L2N.CX P w) P w K mg base N qual (defScope st) f cdv A outer s H E) (fun c d _ H => E c d H) k →
      DIs (cxOf (L2N.CX P w) P w K mg base N qual (defScope st) f cdv A outer s H E) vol0 (fun c d _ H => E c d H) F0 H0 a (defBody st) g) :
    FnOk P w K mg base (L2N.CX P w) (k + 1) f fd ps (spI K C n (runI C N.length g)) := by
  refine fun_okN F S (fun vs H Q E h => ?_) (fun cdv A outer s H vs Q E hr h => ?_)
  · obtain ⟨a, dx, F, H₀, ds, ws, rfl, _, _, _, hl, _, r, _⟩ := h
    rw [List.length_cons, r.length, hl, hn]
  obtain ⟨a, dx, F0, H₀, ds, ws, rfl, ha, h0, sH, hl, sF, r, q⟩ := h
  have g0 : Good vol0 F0 H₀ := good0 sF
  refine ⟨_, (hbody cdv A outer s H E F0 H₀ a g0 ⟨L2N.takes_of rfl rfl rfl rfl, passes_of rfl, rfl, S.nd, hr⟩).run, F0, _, SRep.beginI sF sH ha h0 r, rfl, ?_⟩
  refine (g (some (.own (.obj C [])) :: begin_ (N.length - 1) ds)).mono _ _ _ _ (fun o q1 => ?_) (fun y z dd σ F H s r => z dd F H s.x r) q
  cases o with
  | nx ρ =>
    intro σ F' H' s' hs
    replace q1 : (match at0 ρ with
      | some (some (.own d)) => ret d
      | _ => stuck : M Exn D).run (fun d => ∀ F' H', Ext vol0 F0 H₀ F' H' → Rep K F' d (.ref a) → Q .non H') (EXd vol0 E F0 H₀) := q1
    split at q1
    · rename_i d e0
      obtain ⟨F2, s2⟩ := s'.frz 0
      have hi : 0 < ρ.length := (List.getElem?_eq_some_iff.mp e0).1
      have e2 : (frz 0 ρ)[0]? = some (some (.im d)) := by
        unfold frz
        unfold at0 at e0
        rw [e0]
        exact List.getElem?_set_self hi
      obtain ⟨v, hv, rv⟩ := s2.r.im 0 d e2
      rw [hs] at hv
      cases hv
      exact q1 F2 H' s2.x rv
    · exact q1.elim
  | rt d => exact q1.elim
  | bk ρ => exact q1.elim
  | ct ρ => exact q1.elim
end
/-! ### a method of an object of one's own: what it tells has no object of its class -/
mutual
def noC (C : Addr) : D → Bool
  | .lst ds => noCs C ds
  | .tup ds => noCs C ds
  | .dct kvs => noCk C kvs
  | .obj C' fs => decide (C' ≠ C) && noCf C fs
  | _ => true
def noCs (C : Addr) : List D → Bool
  | [] => true
  | d :: ds => noC C d && noCs C ds
def noCk (C : Addr) : List (Key × D) → Bool
  | [] => true
  | (_, d) :: ds => noC C d && noCk C ds
def noCf (C : Addr) : List (Str × D) → Bool
  | [] => true
  | (_, d) :: ds => noC C d && noCf C ds
end
def without (F : Hp) (p : Addr) : Hp := fun a => if a = p then none else F a
theorem without_ne {F : Hp} {p a : Addr} (h : a ≠ p) : without F p a = F a := if_neg h
theorem without_same {F : Hp} {p : Addr} : without F p p = none := if_pos rfl
section
variable {K : PySem.W.Frag} {F : Hp} {p C dx : Addr} {gs : List (Str × V)}
theorem seqT_wo {a : Addr} {vs : List V} (hp : F p = some (.ins C dx gs)) (h : SqT K F a vs) : SqT K (without F p) a vs := by
  rcases h with (h | ⟨o, h⟩) | h
  · exact .inl (.inl (by rw [without_ne (fun z => by rw [z, hp] at h; cases h)]; exact h))
  · exact .inl (.inr ⟨o, by rw [without_ne (fun z => by rw [z, hp] at h; cases h)]; exact h⟩)
  · exact .inr h
mutual
theorem Rep.wo (hp : F p = some (.ins C dx gs)) : ∀ (d : D) (v : V), noC C d = true → Rep K F d v → Rep K (without F p) d v
  | .non, _, _, h => h
  | .bl _, _, _, h => h
  | .int _, _, _, h => h
  | .str _, _, _, h => h
  | .fn _, _, _, h => h
  | .lst ds, v, n, h => by
    obtain ⟨z, a, vs, rfl, s, r⟩ := h
    exact ⟨z, a, vs, rfl, by rw [without_ne (fun z => by rw [z, hp] at s; cases s)]; exact s, RepL.wo hp ds vs n r⟩
  | .tup ds, v, n, h => by
    obtain ⟨z, a, vs, rfl, s, r⟩ := h
    exact ⟨z, a, vs, rfl, seqT_wo hp s, RepL.wo hp ds vs n r⟩
  | .dct kvs, v, n, h => by
    obtain ⟨z, a, ws, rfl, s, r⟩ := h
    exact ⟨z, a, ws, rfl, by rw [without_ne (fun z => by rw [z, hp] at s; cases s)]; exact s, RepK.wo hp kvs ws n r⟩
  | .obj C' fs, v, n, h => by
    obtain ⟨a, dx', ws, rfl, s, r⟩ := h
    have ⟨n1, n2⟩ := He.ba n
    have n1 : C' ≠ C := of_decide_eq_true n1
    exact ⟨a, dx', ws, rfl, by rw [without_ne (fun z => by rw [z, hp] at s; cases s; exact n1 rfl)]; exact s, RepF.wo hp fs ws n2 r⟩
theorem RepL.wo (hp : F p = some (.ins C dx gs)) : ∀ (ds : List D) (vs : List V), noCs C ds = true → RepL K F ds vs → RepL K (without F p) ds vs
  | [], _, _, h => h
  | d :: ds, _, n, h => by
    obtain ⟨v, r, rfl, x, y⟩ := h
    have ⟨n1, n2⟩ := He.ba n
    exact ⟨v, r, rfl, Rep.wo hp d v n1 x, RepL.wo hp ds r n2 y⟩
theorem RepK.wo (hp : F p = some (.ins C dx gs)) : ∀ (ds : List (Key × D)) (vs : List (Key × V)), noCk C ds = true → RepK K F ds vs → RepK K (without F p) ds vs
  | [], _, _, h => h
  | (k, d) :: ds, _, n, h => by
    obtain ⟨v, r, rfl, x, y⟩ := h
    have ⟨n1, n2⟩ := He.ba n
    exact ⟨v, r, rfl, Rep.wo hp d v n1 x, RepK.wo hp ds r n2 y⟩
theorem RepF.wo (hp : F p = some (.ins C dx gs)) : ∀ (ds : List (Str × D)) (vs : List (Str × V)), noCf C ds = true → RepF K F ds vs → RepF K (without F p) ds vs
  | [], _, _, h => h
  | (k, d) :: ds, _, n, h => by
    obtain ⟨v, r, rfl, x, y⟩ := h
    have ⟨n1, n2⟩ := He.ba n
    exact ⟨v, r, rfl, Rep.wo hp d v n1 x, RepF.wo hp ds r n2 y⟩
end
end
@[reducible] def noCM (C : Addr) (m : M Exn D) : M Exn D := bnd m fun d => if noC C d = true then ret d else stuck
/-- o.nm(..), o an object of one's own, or frozen -/
def methO (C : Addr) (nm : Str) (fo : EnvD → M Exn D) (fs : EnvD → M Exn (List D)) (m : List D → M Exn D) : EnvD → M Exn D := fun ρ => bnd (fo ρ) fun d => match d with
  | .obj C' gs => if C' = C ∧ (gs.lookup nm).isNone = true then bnd (fs ρ) fun ds => noCM C (m (.obj C' gs :: ds)) else stuck
  | _ => stuck
section
variable {X : Cx} {vol : Vol} {W : WX} {e o : Expr} {es : List Expr} {fo : EnvD → M Exn D} {fs : EnvD → M Exn (List D)} {pos apos : Pos} {k n : Nat} {g C : Addr} {fd : FuncData} {ps : List Str} {m : List D → M Exn D} {nm : Str}
theorem callO_go {E : XK} {σ : St} {F H F1 H1 : Hp} {Q : VK} {gs : List (Str × D)} {ds : List D} {vs : List V} {a : Addr} (G : Good vol F H) (x1 : Ext vol F H F1 H1) (hE : ∀ c d H, W c d σ H → E c d H) (hl : ds.length + 1 = n) (rb : RepB vol X.K F1 H1 (.obj C gs) (.ref a)) (r : RepL X.K F1 ds vs) (q : (noCM C (m (.obj C gs :: ds))).run (VF vol X.K F H Q) (EX vol W σ F H)) : spD vol0 X.K n m (.ref a :: vs) H1 Q E := by
  rcases rb with rb | ⟨p, e, ow⟩
  · refine ⟨F1, .obj C gs :: ds, hl, (VLe.zero vol).good _ _ x1.g, ⟨_, _, rfl, rb, r⟩, (m (.obj C gs :: ds)).mono _ _ _ _ (fun d h u F' H' x2 ru => ?_) (fun y h dd F' H' x2 xr => hE _ _ _ (h dd F' H' (x1.trans G ((VLe.zero vol).ext _ _ _ _ x1.g x2)) xr)) q⟩
    replace h : (if noC C d = true then ret d else stuck : M Exn D).run (VF vol X.K F H Q) (EX vol W σ F H) := h
    by_cases hc : noC C d = true
    · rw [if_pos hc] at h
      exact h u F' H' (x1.trans G ((VLe.zero vol).ext _ _ _ _ x1.g x2)) ru
    · rw [if_neg hc] at h; exact h.elim
  · cases e
    obtain ⟨hz, dx, ws, hH, rf⟩ := ow.rep
    have sF : Same F1 (upd F1 a (.ins C dx ws)) := fun b o e => by rw [upd_ne (ne_of_none e ow.nF)]; exact e
    have g2 : Good vol0 (upd F1 a (.ins C dx ws)) H1 := good0 fun b o e => by
      by_cases z : b = a
      · subst z; rw [upd_same] at e; cases e; exact hH
      · rw [upd_ne z] at e; exact x1.g.sub _ _ e
    have back : ∀ F' H', Ext vol0 (upd F1 a (.ins C dx ws)) H1 F' H' → Ext vol F1 H1 (without F' a) H' := fun F' H' x2 => by
      have s : Same H1 H' := fun b o e => x2.sH b o e fun h => h.elim
      refine ⟨⟨fun b o e => ?_, fun b hb => ?_, vol.up _ _ s x1.g.vi⟩, fun b o e => ?_, fun b o e _ => s b o e, fun b o e1 e2 => ?_⟩
      · by_cases z : b = a
        · subst z; rw [without_same] at e; cases e
        · rw [without_ne z] at e; exact x2.g.sub _ _ e
      · obtain ⟨o, e⟩ := vol.has H1 x1.g.vi b hb
        by_cases z : b = a
        · subst z; exact without_same
        · rw [without_ne z]
          exact x2.nw b o e (by rw [upd_ne z]; exact x1.g.nz b hb)
      · rw [without_ne (ne_of_none e ow.nF)]; exact x2.sF _ _ (sF _ _ e)
      · by_cases z : b = a
        · subst z; exact without_same
        · rw [without_ne z]
          exact x2.nw b o e1 (by rw [upd_ne z]; exact e2)
    refine ⟨upd F1 a (.ins C dx ws), .obj C gs :: ds, hl, g2, ⟨_, _, rfl, ⟨a, dx, ws, rfl, upd_same, RepF.up sF _ _ rf⟩, RepL.up sF _ _ r⟩, (m (.obj C gs :: ds)).mono _ _ _ _ (fun d h u F' H' x2 ru => ?_) (fun y h dd F' H' x2 xr => hE _ _ _ (h dd _ H' (x1.trans G (back _ _ x2)) xr)) q⟩
    replace h : (if noC C d = true then ret d else stuck : M Exn D).run (VF vol X.K F H Q) (EX vol W σ F H) := h
    by_cases hc : noC C d = true
    · rw [if_pos hc] at h
      exact h u _ H' (x1.trans G (back _ _ x2)) (Rep.wo (x2.sF _ _ upd_same) d u hc ru)
    · rw [if_neg hc] at h; exact h.elim
theorem df_methO {pl : Sem Bool} (F : FnOk X.prog X.w X.K X.mg X.base (L2N.CX X.prog X.w) k g fd ps (spD vol0 X.K n m)) (cx : Ctx X W k) (cl : Cls X.K C) (hm : Meth X.K C nm g) (hb : Binds X.K fd ps []) (ho : DB X vol W o fo) (ha : AF X vol W (e :: es) fs)
    (hst : starEach (e :: es) X.env = (false, eval e X.env) :: starEach es X.env := by rfl) (hpl : (backTo pos (starEach es X.env)).any (·.1) = false := by rfl)
    (ht : eval (.Call (.Attribute o nm apos) (e :: es) [] pos) X.env = (do
      let ov ← eval o X.env
      standAt apos.atName
      let (f, first) ← holding [ov] (getMethod ov nm pl)
      callWith pos f first (backTo pos (starEach (e :: es) X.env)) (backToKw pos (keywordEach [] X.env))) := by rfl) :
    DF X vol W (.Call (.Attribute o nm apos) (e :: es) [] pos) (methO C nm fo fs (ofN n m)) :=
  ⟨(pe_methS ho.run cl hm F cx.room hb (fun σ => L2N.passAt cx.tk σ) ha.run hst hpl ht).conseq fun σ H Q ⟨F0, ρ, G, E, q⟩ => tD.goB G E q fun d q1 v F1 H1 x1 r1 => by
    cases d with
    | obj C' gs =>
      simp only at q1
      split at q1
      · rename_i hC
        obtain ⟨rfl, hN⟩ := hC
        have rr := id r1
        obtain ⟨a, dx, ws, rfl, ea, ra⟩ := r1.obj x1.g
        refine ⟨a, dx, ws, rfl, ea, ra.none (Option.isNone_iff_eq_none.mp hN), ?_⟩
        refine tAF.go x1.g (E.ext x1) (MonoEX G x1 q1 fun _ z => z) fun ds q2 vs F2 H2 x2 r2 => ?_
        have q3 : (noCM C' (ofN n m (D.obj C' gs :: ds))).run (VF vol X.K F0 H Q) (EX vol W σ F0 H) := q2
        by_cases hl : (D.obj C' gs :: ds).length = n
        · have e1 : ofN n m (D.obj C' gs :: ds) = m (.obj C' gs :: ds) := if_pos hl
          rw [e1] at q3
          exact callO_go (n := n) G (x1.trans G x2) (fun _ _ _ h => h) hl (rr.ext x2) r2 q3
        · have e1 : ofN n m (D.obj C' gs :: ds) = stuck := if_neg hl
          rw [e1] at q3
          exact q3.elim
      · exact q1.elim
    | _ => exact q1.elim⟩
theorem df_methO0 {pl : Sem Bool} (F : FnOk X.prog X.w X.K X.mg X.base (L2N.CX X.prog X.w) k g fd ps (spD vol0 X.K 1 m)) (cx : Ctx X W k) (cl : Cls X.K C) (hm : Meth X.K C nm g) (hb : Binds X.K fd ps []) (ho : DB X vol W o fo)
    (ht : eval (.Call (.Attribute o nm apos) [] [] pos) X.env = (do
      let ov ← eval o X.env
      standAt apos.atName
      let (f, first) ← holding [ov] (getMethod ov nm pl)
      callWith pos f first (backTo pos (starEach [] X.env)) (backToKw pos (keywordEach [] X.env))) := by rfl) :
    DF X vol W (.Call (.Attribute o nm apos) [] [] pos) (methO C nm fo (fun _ => ret []) m) :=
  ⟨(pe_meth0S ho.run cl hm F cx.room hb (fun σ => L2N.passAt cx.tk σ) ht).conseq fun σ H Q ⟨F0, ρ, G, E, q⟩ => tD.goB G E q fun d q1 v F1 H1 x1 r1 => by
    cases d with
    | obj C' gs =>
      simp only at q1
      split at q1
      · rename_i hC
        obtain ⟨rfl, hN⟩ := hC
        have rr := id r1
        obtain ⟨a, dx, ws, rfl, ea, ra⟩ := r1.obj x1.g
        refine ⟨a, dx, ws, rfl, ea, ra.none (Option.isNone_iff_eq_none.mp hN), ?_⟩
        exact callO_go (ds := []) (vs := []) (n := 1) G x1 (fun _ _ _ h => h) rfl rr rfl q1
      · exact q1.elim
    | _ => exact q1.elim⟩
end
/-! a suite whose entry is told late; slots without an object of one's own -/
theorem pss_any {X : Cx} {vol : Vol} {W : WX} {body : List Stmt} {g : EnvD → MS} (hb : ∀ F0 H0, Good vol F0 H0 → DSs X vol W F0 H0 body g) : PSs X body (fun Dn σ H => ∃ F0 H0, Good vol F0 H0 ∧ tS vol X.K W F0 H0 g Dn σ H) :=
  ⟨fun pins s σ H Dn I ⟨F0, H0, g', h⟩ => (hb F0 H0 g').run.run pins s σ H Dn I h⟩
theorem SRep.plain {vol : Vol} {K : PySem.W.Frag} {F H : Hp} {σ : St} {ρ : EnvD} (g : Good vol F H) (e : ERep vol K F H σ ρ) (no : ∀ (i : Nat) (d : D), ρ[i]? ≠ some (some (.own d))) : SRep vol K F H F H σ ρ :=
  ⟨g.ext, e, fun i d z => (no i d z).elim, fun i j d d' p z => (no i d z).elim⟩
/-- what is left of Kind.__init__ behind its rows -/
def kindFin2 (A : Cl) (due : Due) (rest : D) : Bool → M Exn D := fun b => if b = true then raise ⟨A.BadRule, none⟩ else match rest with
  | .str r => ret (kindD A.Kind due r)
  | _ => stuck
def kindFin (A : Cl) (cond : EnvD → M Exn Bool) (rows rest : D) : D → M Exn D
  | .lst ds => (match dueOf ds with
    | some due => if due.length ≤ 900 then bnd (cond [none, some (.im rows), some (.im rest), none, none]) (kindFin2 A due rest) else stuck
    | none => stuck)
  | _ => stuck
theorem same_new {H : Hp} {p : Addr} {o : HO} (h : H p = none) : Same H (upd H p o) := fun b u e => by rw [upd_ne (ne_of_none e h)]; exact e
end DL

/-! steps, continued; the operators at values -/
namespace DL
open PySem PySem.Spec L2
section
variable {ρ : EnvD} {f fa fb fc fk fv : FE} {t u : FB} {fs : FL} {g h : FS} {a b c d : D} {x y : Exn} {z : Exn × EnvD} {ds : List D} {i j n : Nat} {C : Addr} {nm : Str} {m : List D → M Exn D}
def fsLe : List (Str × D) → Nat → Bool
  | [], _ => true
  | _ :: _, 0 => false
  | _ :: ds, n + 1 => fsLe ds n
theorem fsLe_n : fsLe [] n = true := by cases n <;> rfl
theorem fsLe_c {p : Str × D} {l : List (Str × D)} : fsLe (p :: l) (n + 1) = fsLe l n := rfl
theorem fsLe_le : ∀ {ds : List (Str × D)} {n : Nat}, fsLe ds n = true → ds.length ≤ n
  | [], _, _ => Nat.zero_le _
  | _ :: _, 0, h => by cases h
  | _ :: ds, n + 1, h => by
    have h := fsLe_le (ds := ds) (n := n) h
    simp only [List.length_cons]; omega
def attE (C : Addr) (nm : Str) (f : FE) : FS := attS C nm f
def at1 (q : M Exn D) (C : Addr) (nm : Str) (ρ : EnvD) : MS := bnd (lft ρ q) fun d => match at0 ρ with
  | some (some (.own (.obj C' fs))) => if C' = C ∧ fs.length < 900 then ret (.nx (ρ.set 0 (some (.own (.obj C (putFD nm d fs)))))) else stuck
  | _ => stuck
theorem attE_ap : attE C nm f ρ = at1 (f ρ) C nm ρ := rfl
theorem at1_ret {fl : List (Str × D)} (h : fsLe fl 60 = true) : at1 (ret d) C nm (some (.own (.obj C fl)) :: ρ) = ret (.nx (some (.own (.obj C (putFD nm d fl))) :: ρ)) :=
  if_pos ⟨rfl, Nat.lt_of_le_of_lt (fsLe_le h) (by decide)⟩
theorem at1_raise : at1 (raise x) C nm ρ = raise (x, ρ) := rfl
theorem putFD_n : putFD nm d [] = [(nm, d)] := rfl
theorem putFD_c {k : Str} {l : List (Str × D)} (hk : decide (k = nm) = false) : putFD nm d ((k, a) :: l) = (k, a) :: putFD nm d l := if_neg (of_decide_eq_false hk)
def ifRE (t : FB) (g : FS) : FS := ifRS t g
def ir1 (q : M Exn Bool) (g : FS) (ρ : EnvD) : MS := bnd (lft ρ q) fun c => if c = true then bnd (g ρ) (fun _ => stuck) else ret (.nx ρ)
def ir2 (v : Bool) (g : FS) (ρ : EnvD) : MS := if v = true then bnd (g ρ) (fun _ => stuck) else ret (.nx ρ)
def ir3 (q : MS) : MS := bnd q (fun _ => stuck)
theorem ifRE_ap : ifRE t g ρ = ir1 (t ρ) g ρ := rfl
theorem ir1_ret {v : Bool} : ir1 (ret v) g ρ = ir2 v g ρ := rfl
theorem ir1_raise : ir1 (raise x) g ρ = raise (x, ρ) := rfl
theorem ir2_t : ir2 true g ρ = ir3 (g ρ) := rfl
theorem ir2_f : ir2 false g ρ = ret (.nx ρ) := rfl
theorem ir3_raise : ir3 (raise z) = raise z := rfl
def runIE (C : Addr) (n : Nat) (g : FS) : List D → M Exn D := runI C n g
def ri1 (q : MS) : M Exn D := bnd (mapE Prod.fst q) fun o => match o with
  | .nx ρ => (match at0 ρ with
    | some (some (.own d)) => ret d
    | _ => stuck)
  | _ => stuck
theorem runIE_ap : runIE C (n + 1) g ds = ri1 (g (some (.own (.obj C [])) :: begin_ n ds)) := rfl
theorem ri1_nx : ri1 (ret (.nx (some (.own d) :: ρ))) = ret d := rfl
theorem ri1_raise : ri1 (raise (x, ρ)) = raise x := rfl
theorem runZE_n : runZE (n + 1) g ds = rd1 (g (some (.vz 0) :: begin_ n ds)) := rfl
def methOE (C : Addr) (nm : Str) (fo : FE) (fs : FL) (m : List D → M Exn D) : FE := methO C nm fo fs m
def mo1 (q : M Exn D) (C : Addr) (nm : Str) (fs : FL) (m : List D → M Exn D) (ρ : EnvD) : M Exn D := bnd q fun d => match d with
  | .obj C' gs => if C' = C ∧ (gs.lookup nm).isNone = true then bnd (fs ρ) fun ds => noCM C (m (.obj C' gs :: ds)) else stuck
  | _ => stuck
def mo2 (d : D) (C : Addr) (nm : Str) (fs : FL) (m : List D → M Exn D) (ρ : EnvD) : M Exn D := match d with
  | .obj C' gs => if C' = C ∧ (gs.lookup nm).isNone = true then bnd (fs ρ) fun ds => noCM C (m (.obj C' gs :: ds)) else stuck
  | _ => stuck
def mo3 (q : M Exn (List D)) (d : D) (C : Addr) (m : List D → M Exn D) : M Exn D := bnd q fun ds => noCM C (m (d :: ds))
def mo4 (q : M Exn D) (C : Addr) : M Exn D := noCM C q
theorem methOE_ap : methOE C nm fa fs m ρ = mo1 (fa ρ) C nm fs m ρ := rfl
theorem mo1_ret : mo1 (ret d) C nm fs m ρ = mo2 d C nm fs m ρ := rfl
theorem mo1_raise : mo1 (raise x) C nm fs m ρ = raise x := rfl
theorem mo2_obj {gs : List (Str × D)} (hn : (gs.lookup nm).isNone = true) : mo2 (.obj C gs) C nm fs m ρ = mo3 (fs ρ) (.obj C gs) C m := if_pos ⟨rfl, hn⟩
theorem mo3_ret : mo3 (ret ds) d C m = mo4 (m (d :: ds)) C := rfl
theorem mo3_raise : mo3 (raise x) d C m = raise x := rfl
theorem mo4_ret (h : noC C d = true) : mo4 (ret d) C = ret d := if_pos h
theorem mo4_raise : mo4 (raise x) C = raise x := rfl
def getDE (fa fb : FE) : FE := getD fa fb
def gd1 (q : M Exn D) (fb : FE) (ρ : EnvD) : M Exn D := bnd q fun x => match x with
  | .dct kvs => bnd (fb ρ) fun y => match keyD y with
    | some k => ret ((valD kvs k).getD .non)
    | none => stuck
  | _ => stuck
def gd2 (kvs : List (Key × D)) (q : M Exn D) : M Exn D := bnd q fun y => match keyD y with
    | some k => ret ((valD kvs k).getD .non)
    | none => stuck
def gd3 (kvs : List (Key × D)) : Option Key → M Exn D
    | some k => ret ((valD kvs k).getD .non)
    | none => stuck
theorem getDE_ap : getDE fa fb ρ = gd1 (fa ρ) fb ρ := rfl
theorem gd1_ret {kvs : List (Key × D)} : gd1 (ret (.dct kvs)) fb ρ = gd2 kvs (fb ρ) := rfl
theorem gd2_ret {kvs : List (Key × D)} : gd2 kvs (ret d) = gd3 kvs (keyD d) := rfl
theorem gd3_some {kvs : List (Key × D)} {k : Key} : gd3 kvs (some k) = ret ((valD kvs k).getD .non) := rfl
theorem keyD_i {v : Int} : keyD (.int v) = some (.inl v) := rfl
theorem keyD_s {v : Str} : keyD (.str v) = some (.inr v) := rfl
/-! slices -/
abbrev FO := EnvD → M Exn (Option Int)
def noE : FO := noO
theorem noE_ap : noE ρ = ret none := rfl
def someE (f : FE) : FO := someO f
def sm1 (q : M Exn D) : M Exn (Option Int) := bnd q asI
theorem someE_ap : someE f ρ = sm1 (f ρ) := rfl
theorem sm1_ret {v : Int} : sm1 (ret (.int v)) = ret (some v) := rfl
def slE (q : Option Int → Option Int → D → M Exn D) (fa : FE) (fl fh : FO) : FE := slD q fa fl fh
def sl1 (r : M Exn D) (q : Option Int → Option Int → D → M Exn D) (fl fh : FO) (ρ : EnvD) : M Exn D := bnd r fun x => bnd (fl ρ) fun lo => bnd (fh ρ) fun hi => q lo hi x
def sl2 (r : M Exn (Option Int)) (q : Option Int → Option Int → D → M Exn D) (fh : FO) (x : D) (ρ : EnvD) : M Exn D := bnd r fun lo => bnd (fh ρ) fun hi => q lo hi x
def sl3 (r : M Exn (Option Int)) (q : Option Int → Option Int → D → M Exn D) (x : D) (lo : Option Int) : M Exn D := bnd r fun hi => q lo hi x
section
variable {q : Option Int → Option Int → D → M Exn D} {fl fh : FO} {lo hi : Option Int}
theorem slE_ap : slE q fa fl fh ρ = sl1 (fa ρ) q fl fh ρ := rfl
theorem sl1_ret : sl1 (ret a) q fl fh ρ = sl2 (fl ρ) q fh a ρ := rfl
theorem sl2_ret : sl2 (ret lo) q fh a ρ = sl3 (fh ρ) q a lo := rfl
theorem sl3_ret : sl3 (ret hi) q a lo = q lo hi a := rfl
theorem slL_ap : slL lo hi (.lst ds) = ret (.lst (cutD ds lo hi)) := rfl
end
def revE (fa : FE) (fs : FO) : FE := revD fa fs
/-! own lists and dicts -/
def ownAt : Nat → EnvD → Option D
  | 0, some (.own d) :: _ => some d
  | i + 1, _ :: ρ => ownAt i ρ
  | _, _ => none
theorem ownAt_z : ownAt 0 (some (.own d) :: ρ) = some d := rfl
theorem ownAt_s {o : Option SlotD} : ownAt (i + 1) (o :: ρ) = ownAt i ρ := by cases o <;> rfl
theorem ownAt_eq : ∀ (i : Nat) (ρ : EnvD) (d : D), ownAt i ρ = some d → ρ[i]? = some (some (.own d))
  | 0, [], d, h => by cases h
  | 0, none :: ρ, d, h => by cases h
  | 0, some (.im _) :: ρ, d, h => by cases h
  | 0, some (.own _) :: ρ, d, h => by cases h; rfl
  | 0, some (.vz _) :: ρ, d, h => by cases h
  | i + 1, [], d, h => by cases h
  | i + 1, o :: ρ, d, h => by
    rw [ownAt_s] at h
    exact ownAt_eq i ρ d h
def appE (i : Nat) (f : FE) : FS := appS i f
def ap1 (q : M Exn D) (ds : List D) (i : Nat) (ρ : EnvD) : MS := bnd (lft ρ q) fun d => if ds.length < sizeLine then ret (.nx (ρ.set i (some (.own (.lst (ds ++ [d])))))) else stuck
theorem ownAt_get : ∀ (i : Nat) (ρ : EnvD), ownAt i ρ = match ρ[i]? with
    | some (some (.own d)) => some d
    | _ => none
  | 0, [] => rfl
  | 0, none :: ρ => rfl
  | 0, some (.im _) :: ρ => rfl
  | 0, some (.own _) :: ρ => rfl
  | 0, some (.vz _) :: ρ => rfl
  | i + 1, [] => rfl
  | i + 1, o :: ρ => by
    rw [ownAt_s, ownAt_get i ρ, List.getElem?_cons_succ]
def ap0 (o : Option D) (q : M Exn D) (i : Nat) (ρ : EnvD) : MS := match o with
  | some (.lst ds) => ap1 q ds i ρ
  | _ => stuck
theorem appE_ap : appE i f ρ = ap0 (ownAt i ρ) (f ρ) i ρ := by
  unfold appE appS
  rw [ownAt_get]
  cases ρ[i]? with
  | none => rfl
  | some o => cases o with
    | none => rfl
    | some s => cases s with
      | im d => rfl
      | vz n => rfl
      | own d => cases d <;> rfl
theorem ap0_l {q : M Exn D} : ap0 (some (.lst ds)) q i ρ = ap1 q ds i ρ := rfl
theorem ap1_ret (h : ds.length < sizeLine) : ap1 (ret d) ds i ρ = ret (.nx (ρ.set i (some (.own (.lst (ds ++ [d])))))) := if_pos h
theorem ap1_raise : ap1 (raise x) ds i ρ = raise (x, ρ) := rfl
def putE (i : Nat) (fk fv : FE) : FS := putS i fk fv
def pu1 (q : M Exn D) (fk : FE) (kvs : List (Key × D)) (i : Nat) (ρ : EnvD) : MS := bnd (lft ρ q) fun d => bnd (lft ρ (fk ρ)) fun kd => match keyD kd with
    | some key => if kvs.length < sizeLine then ret (.nx (ρ.set i (some (.own (.dct (putD kvs key d)))))) else stuck
    | none => stuck
def pu2 (q : M Exn D) (d : D) (kvs : List (Key × D)) (i : Nat) (ρ : EnvD) : MS := bnd (lft ρ q) fun kd => match keyD kd with
    | some key => if kvs.length < sizeLine then ret (.nx (ρ.set i (some (.own (.dct (putD kvs key d)))))) else stuck
    | none => stuck
def pu3 (d : D) (kvs : List (Key × D)) (i : Nat) (ρ : EnvD) : Option Key → MS
    | some key => if kvs.length < sizeLine then ret (.nx (ρ.set i (some (.own (.dct (putD kvs key d)))))) else stuck
    | none => stuck
def pu0 (o : Option D) (q : M Exn D) (fk : FE) (i : Nat) (ρ : EnvD) : MS := match o with
  | some (.dct kvs) => pu1 q fk kvs i ρ
  | _ => stuck
theorem putE_ap : putE i fk fv ρ = pu0 (ownAt i ρ) (fv ρ) fk i ρ := by
  unfold putE putS
  rw [ownAt_get]
  cases ρ[i]? with
  | none => rfl
  | some o => cases o with
    | none => rfl
    | some s => cases s with
      | im d => rfl
      | vz n => rfl
      | own d => cases d <;> rfl
theorem pu0_d {q : M Exn D} {kvs : List (Key × D)} : pu0 (some (.dct kvs)) q fk i ρ = pu1 q fk kvs i ρ := rfl
theorem pu1_ret {kvs : List (Key × D)} : pu1 (ret d) fk kvs i ρ = pu2 (fk ρ) d kvs i ρ := rfl
theorem pu2_ret {kvs : List (Key × D)} : pu2 (ret a) d kvs i ρ = pu3 d kvs i ρ (keyD a) := rfl
theorem pu3_some {kvs : List (Key × D)} {key : Key} (h : kvs.length < sizeLine) : pu3 d kvs i ρ (some key) = ret (.nx (ρ.set i (some (.own (.dct (putD kvs key d)))))) := if_pos h
def whileE (t : FB) (g : FS) : FS := whileS t g
def forPinE (j n : Nat) (bt : D → EnvD → Option EnvD) (g : FS) : FS := forPin j n bt g
def le1 (q : M Exn D) (C : Addr) (m : List D → M Exn D) : M Exn D := bnd q fun d => match d with
  | .obj C' gs => if C' = C then bnd (m [.obj C' gs]) fun r => (match r with
    | .int n => if 0 ≤ n ∧ n < 2 ^ 63 then ret (.int n) else stuck
    | _ => stuck) else stuck
  | _ => stuck
def le2 (q : M Exn D) : M Exn D := bnd q fun r => (match r with
    | .int n => if 0 ≤ n ∧ n < 2 ^ 63 then ret (.int n) else stuck
    | _ => stuck)
theorem lenE_ap : lenE C m f ρ = le1 (f ρ) C m := rfl
theorem le1_obj {gs : List (Str × D)} : le1 (ret (.obj C gs)) C m = le2 (m [.obj C gs]) := if_pos rfl
theorem le2_int {v : Int} (h0 : 0 ≤ v) (h : v < 2 ^ 63) : le2 (ret (.int v)) = ret (.int v) := if_pos ⟨h0, h⟩
theorem le2_nat {v : Nat} (h : v ≤ 1000) : le2 (ret (.int (v : Nat))) = ret (.int (v : Nat)) := le2_int (Int.natCast_nonneg v) (by omega)
/-! ### operators -/
variable {v w : Int}
theorem addD_i : addD (.int v) (.int w) = ret (.int (v + w)) := rfl
theorem subD_i : subD (.int v) (.int w) = ret (.int (v - w)) := rfl
theorem andD_i : andD (.int v) (.int w) = ret (.int (Builtin.bitAnd v w)) := rfl
theorem orD_i : orD (.int v) (.int w) = ret (.int (Builtin.bitOr v w)) := rfl
theorem xorD_i : xorD (.int v) (.int w) = ret (.int (Builtin.bitXor v w)) := rfl
theorem ltD_i : ltD (.int v) (.int w) = ret (.bl (decide (v < w))) := rfl
theorem leD_i : leD (.int v) (.int w) = ret (.bl (decide (v ≤ w))) := rfl
theorem gtD_i : gtD (.int v) (.int w) = ret (.bl (decide (w < v))) := rfl
theorem geD_i : geD (.int v) (.int w) = ret (.bl (decide (w ≤ v))) := rfl
theorem negD_i : negD (.int v) = ret (.int (-v)) := rfl
theorem eqF_i : eqD false (.int v) (.int w) = ret (.bl (decide (v = w))) := eqD_int false v w
theorem eqT_i : eqD true (.int v) (.int w) = ret (.bl (!decide (v = w))) := eqD_int true v w
theorem len_l : lenD [.lst ds] = ret (.int (ds.length : Nat)) := rfl
theorem len_t : lenD [.tup ds] = ret (.int (ds.length : Nat)) := rfl
theorem len_t0 : lenD [.tup []] = ret (.int 0) := rfl
theorem len_t1 : lenD [.tup [a]] = ret (.int 1) := rfl
theorem len_t2 : lenD [.tup [a, b]] = ret (.int 2) := rfl
theorem len_t3 : lenD [.tup [a, b, c]] = ret (.int 3) := rfl
theorem len_l0 : lenD [.lst []] = ret (.int 0) := rfl
theorem len_l1 : lenD [.lst [a]] = ret (.int 1) := rfl
theorem len_l2 : lenD [.lst [a, b]] = ret (.int 2) := rfl
theorem ix_tupN {n : Nat} (h : ds[n]? = some d) : ixD (.tup ds) (.int (n : Nat)) = ret d := by
  show (match atI ds (n : Nat) with | some d => ret d | none => stuck) = _
  rw [atI_nat h]
theorem ix_lstN {n : Nat} (h : ds[n]? = some d) : ixD (.lst ds) (.int (n : Nat)) = ret d := by
  show (match atI ds (n : Nat) with | some d => ret d | none => stuck) = _
  rw [atI_nat h]
theorem ix_t0 {r : List D} : ixD (.tup (a :: r)) (.int 0) = ret a := ix_tupN (n := 0) rfl
theorem ix_t1 {r : List D} : ixD (.tup (a :: b :: r)) (.int 1) = ret b := ix_tupN (n := 1) rfl
theorem ix_t2 {r : List D} : ixD (.tup (a :: b :: c :: r)) (.int 2) = ret c := ix_tupN (n := 2) rfl
theorem ix_l0 {r : List D} : ixD (.lst (a :: r)) (.int 0) = ret a := ix_lstN (n := 0) rfl
theorem ix_l1 {r : List D} : ixD (.lst (a :: b :: r)) (.int 1) = ret b := ix_lstN (n := 1) rfl
theorem ix_l2 {r : List D} : ixD (.lst (a :: b :: c :: r)) (.int 2) = ret c := ix_lstN (n := 2) rfl
theorem ix_l3 {r : List D} : ixD (.lst (a :: b :: c :: d :: r)) (.int 3) = ret d := ix_lstN (n := 3) rfl
theorem all_nil : allD [.lst []] = ret (.bl true) := rfl
theorem list_l : listD [.lst ds] = ret (.lst ds) := rfl
theorem list_t : listD [.tup ds] = ret (.lst ds) := rfl
theorem tuple_l : tupleD [.lst ds] = ret (.tup ds) := rfl
theorem tuple_t : tupleD [.tup ds] = ret (.tup ds) := rfl
theorem pow_220 : powD (.int 2) (.int 20) = ret (.int 1048576) := rfl
theorem pow_221 : powD (.int 2) (.int 21) = ret (.int 2097152) := rfl
theorem pow_240 : powD (.int 2) (.int 40) = ret (.int 1099511627776) := rfl
theorem pow_219 : powD (.int 2) (.int 19) = ret (.int 524288) := rfl
theorem pow_250 : powD (.int 2) (.int 50) = ret (.int 1125899906842624) := rfl
theorem isN_n : isNonD false .non .non = ret (.bl true) := rfl
theorem notN_n : isNonD true .non .non = ret (.bl false) := rfl
variable {s r : Str} {v1 : Bool} {kvs : List (Key × D)} {gs : List (Str × D)}

theorem isN_b : isNonD false (.bl v1) .non = ret (.bl false) := rfl
theorem notN_b : isNonD true (.bl v1) .non = ret (.bl true) := rfl
theorem isN_i : isNonD false (.int v) .non = ret (.bl false) := rfl
theorem notN_i : isNonD true (.int v) .non = ret (.bl true) := rfl
theorem isN_s : isNonD false (.str s) .non = ret (.bl false) := rfl
theorem notN_s : isNonD true (.str s) .non = ret (.bl true) := rfl
theorem isN_l : isNonD false (.lst ds) .non = ret (.bl false) := rfl
theorem notN_l : isNonD true (.lst ds) .non = ret (.bl true) := rfl
theorem isN_t : isNonD false (.tup ds) .non = ret (.bl false) := rfl
theorem notN_t : isNonD true (.tup ds) .non = ret (.bl true) := rfl
theorem isN_d : isNonD false (.dct kvs) .non = ret (.bl false) := rfl
theorem notN_d : isNonD true (.dct kvs) .non = ret (.bl true) := rfl
theorem isN_o : isNonD false (.obj C gs) .non = ret (.bl false) := rfl
theorem notN_o : isNonD true (.obj C gs) .non = ret (.bl true) := rfl
theorem isi_of {T : String} {v2 : Bool} (ho : isObjD d = false) (h : kitB (tyN d) T = some v2) : isiD T d = ret (.bl v2) := by
  unfold isiD
  rw [if_neg (by rw [ho]; exact Bool.false_ne_true), h]
theorem isi2_of {T U : String} {v2 v3 : Bool} (ho : isObjD d = false) (h : kitB (tyN d) T = some v2) (h3 : kitB (tyN d) U = some v3) : isi2D T U d = ret (.bl (v2 || v3)) := by
  unfold isi2D
  rw [if_neg (by rw [ho]; exact Bool.false_ne_true), h, h3]
theorem isi_int_non : isiD "int" .non = ret (.bl false) := isi_of rfl (show kitB "NoneType" "int" = some false by decide +kernel)
theorem isi_int_b : isiD "int" (.bl v1) = ret (.bl true) := isi_of rfl (show kitB "bool" "int" = some true by decide +kernel)
theorem isi_int_i : isiD "int" (.int v) = ret (.bl true) := isi_of rfl (show kitB "int" "int" = some true by decide +kernel)
theorem isi_int_s : isiD "int" (.str s) = ret (.bl false) := isi_of rfl (show kitB "str" "int" = some false by decide +kernel)
theorem isi_int_l : isiD "int" (.lst ds) = ret (.bl false) := isi_of rfl (show kitB "list" "int" = some false by decide +kernel)
theorem isi_int_t : isiD "int" (.tup ds) = ret (.bl false) := isi_of rfl (show kitB "tuple" "int" = some false by decide +kernel)
theorem isi_int_d : isiD "int" (.dct kvs) = ret (.bl false) := isi_of rfl (show kitB "dict" "int" = some false by decide +kernel)
theorem isi_bool_non : isiD "bool" .non = ret (.bl false) := isi_of rfl (show kitB "NoneType" "bool" = some false by decide +kernel)
theorem isi_bool_b : isiD "bool" (.bl v1) = ret (.bl true) := isi_of rfl (show kitB "bool" "bool" = some true by decide +kernel)
theorem isi_bool_i : isiD "bool" (.int v) = ret (.bl false) := isi_of rfl (show kitB "int" "bool" = some false by decide +kernel)
theorem isi_bool_s : isiD "bool" (.str s) = ret (.bl false) := isi_of rfl (show kitB "str" "bool" = some false by decide +kernel)
theorem isi_bool_l : isiD "bool" (.lst ds) = ret (.bl false) := isi_of rfl (show kitB "list" "bool" = some false by decide +kernel)
theorem isi_bool_t : isiD "bool" (.tup ds) = ret (.bl false) := isi_of rfl (show kitB "tuple" "bool" = some false by decide +kernel)
theorem isi_bool_d : isiD "bool" (.dct kvs) = ret (.bl false) := isi_of rfl (show kitB "dict" "bool" = some false by decide +kernel)
theorem isi_str_non : isiD "str" .non = ret (.bl false) := isi_of rfl (show kitB "NoneType" "str" = some false by decide +kernel)
theorem isi_str_b : isiD "str" (.bl v1) = ret (.bl false) := isi_of rfl (show kitB "bool" "str" = some false by decide +kernel)
theorem isi_str_i : isiD "str" (.int v) = ret (.bl false) := isi_of rfl (show kitB "int" "str" = some false by decide +kernel)
theorem isi_str_s : isiD "str" (.str s) = ret (.bl true) := isi_of rfl (show kitB "str" "str" = some true by decide +kernel)
theorem isi_str_l : isiD "str" (.lst ds) = ret (.bl false) := isi_of rfl (show kitB "list" "str" = some false by decide +kernel)
theorem isi_str_t : isiD "str" (.tup ds) = ret (.bl false) := isi_of rfl (show kitB "tuple" "str" = some false by decide +kernel)
theorem isi_str_d : isiD "str" (.dct kvs) = ret (.bl false) := isi_of rfl (show kitB "dict" "str" = some false by decide +kernel)
theorem isi_list_non : isiD "list" .non = ret (.bl false) := isi_of rfl (show kitB "NoneType" "list" = some false by decide +kernel)
theorem isi_list_b : isiD "list" (.bl v1) = ret (.bl false) := isi_of rfl (show kitB "bool" "list" = some false by decide +kernel)
theorem isi_list_i : isiD "list" (.int v) = ret (.bl false) := isi_of rfl (show kitB "int" "list" = some false by decide +kernel)
theorem isi_list_s : isiD "list" (.str s) = ret (.bl false) := isi_of rfl (show kitB "str" "list" = some false by decide +kernel)
theorem isi_list_l : isiD "list" (.lst ds) = ret (.bl true) := isi_of rfl (show kitB "list" "list" = some true by decide +kernel)
theorem isi_list_t : isiD "list" (.tup ds) = ret (.bl false) := isi_of rfl (show kitB "tuple" "list" = some false by decide +kernel)
theorem isi_list_d : isiD "list" (.dct kvs) = ret (.bl false) := isi_of rfl (show kitB "dict" "list" = some false by decide +kernel)
theorem isi_tuple_non : isiD "tuple" .non = ret (.bl false) := isi_of rfl (show kitB "NoneType" "tuple" = some false by decide +kernel)
theorem isi_tuple_b : isiD "tuple" (.bl v1) = ret (.bl false) := isi_of rfl (show kitB "bool" "tuple" = some false by decide +kernel)
theorem isi_tuple_i : isiD "tuple" (.int v) = ret (.bl false) := isi_of rfl (show kitB "int" "tuple" = some false by decide +kernel)
theorem isi_tuple_s : isiD "tuple" (.str s) = ret (.bl false) := isi_of rfl (show kitB "str" "tuple" = some false by decide +kernel)
theorem isi_tuple_l : isiD "tuple" (.lst ds) = ret (.bl false) := isi_of rfl (show kitB "list" "tuple" = some false by decide +kernel)
theorem isi_tuple_t : isiD "tuple" (.tup ds) = ret (.bl true) := isi_of rfl (show kitB "tuple" "tuple" = some true by decide +kernel)
theorem isi_tuple_d : isiD "tuple" (.dct kvs) = ret (.bl false) := isi_of rfl (show kitB "dict" "tuple" = some false by decide +kernel)
theorem isi_dict_non : isiD "dict" .non = ret (.bl false) := isi_of rfl (show kitB "NoneType" "dict" = some false by decide +kernel)
theorem isi_dict_b : isiD "dict" (.bl v1) = ret (.bl false) := isi_of rfl (show kitB "bool" "dict" = some false by decide +kernel)
theorem isi_dict_i : isiD "dict" (.int v) = ret (.bl false) := isi_of rfl (show kitB "int" "dict" = some false by decide +kernel)
theorem isi_dict_s : isiD "dict" (.str s) = ret (.bl false) := isi_of rfl (show kitB "str" "dict" = some false by decide +kernel)
theorem isi_dict_l : isiD "dict" (.lst ds) = ret (.bl false) := isi_of rfl (show kitB "list" "dict" = some false by decide +kernel)
theorem isi_dict_t : isiD "dict" (.tup ds) = ret (.bl false) := isi_of rfl (show kitB "tuple" "dict" = some false by decide +kernel)
theorem isi_dict_d : isiD "dict" (.dct kvs) = ret (.bl true) := isi_of rfl (show kitB "dict" "dict" = some true by decide +kernel)
theorem isi2_non : isi2D "list" "tuple" .non = ret (.bl false) := isi2_of (d := .non) (T := "list") (U := "tuple") (v2 := false) (v3 := false) rfl (show kitB "NoneType" "list" = some false by decide +kernel) (show kitB "NoneType" "tuple" = some false by decide +kernel)
theorem isi2_b : isi2D "list" "tuple" (.bl v1) = ret (.bl false) := isi2_of (d := (.bl v1)) (T := "list") (U := "tuple") (v2 := false) (v3 := false) rfl (show kitB "bool" "list" = some false by decide +kernel) (show kitB "bool" "tuple" = some false by decide +kernel)
theorem isi2_i : isi2D "list" "tuple" (.int v) = ret (.bl false) := isi2_of (d := (.int v)) (T := "list") (U := "tuple") (v2 := false) (v3 := false) rfl (show kitB "int" "list" = some false by decide +kernel) (show kitB "int" "tuple" = some false by decide +kernel)
theorem isi2_s : isi2D "list" "tuple" (.str s) = ret (.bl false) := isi2_of (d := (.str s)) (T := "list") (U := "tuple") (v2 := false) (v3 := false) rfl (show kitB "str" "list" = some false by decide +kernel) (show kitB "str" "tuple" = some false by decide +kernel)
theorem isi2_l : isi2D "list" "tuple" (.lst ds) = ret (.bl true) := isi2_of (d := (.lst ds)) (T := "list") (U := "tuple") (v2 := true) (v3 := false) rfl (show kitB "list" "list" = some true by decide +kernel) (show kitB "list" "tuple" = some false by decide +kernel)
theorem isi2_t : isi2D "list" "tuple" (.tup ds) = ret (.bl true) := isi2_of (d := (.tup ds)) (T := "list") (U := "tuple") (v2 := false) (v3 := true) rfl (show kitB "tuple" "list" = some false by decide +kernel) (show kitB "tuple" "tuple" = some true by decide +kernel)
theorem isi2_d : isi2D "list" "tuple" (.dct kvs) = ret (.bl false) := isi2_of (d := (.dct kvs)) (T := "list") (U := "tuple") (v2 := false) (v3 := false) rfl (show kitB "dict" "list" = some false by decide +kernel) (show kitB "dict" "tuple" = some false by decide +kernel)
theorem isiC_non : isiC C .non = ret (.bl false) := rfl
theorem isiC_b : isiC C (.bl v1) = ret (.bl false) := rfl
theorem isiC_i : isiC C (.int v) = ret (.bl false) := rfl
theorem isiC_s : isiC C (.str s) = ret (.bl false) := rfl
theorem isiC_l : isiC C (.lst ds) = ret (.bl false) := rfl
theorem isiC_t : isiC C (.tup ds) = ret (.bl false) := rfl
theorem isiC_d : isiC C (.dct kvs) = ret (.bl false) := rfl
theorem isiC_o : isiC C (.obj C gs) = ret (.bl true) := if_pos rfl
theorem dget_s (h : valD kvs (.inr s) = some d) : dgetD (.dct kvs) (.str s) = ret d := by
  show (match valD kvs (.inr s) with | some d => ret d | none => stuck) = _
  rw [h]
theorem dget_i (h : valD kvs (.inl v) = some d) : dgetD (.dct kvs) (.int v) = ret d := by
  show (match valD kvs (.inl v) with | some d => ret d | none => stuck) = _
  rw [h]
theorem inDct_sF : inDct false (.str s) (.dct kvs) = ret (.bl (valD kvs (.inr s)).isSome) := rfl
theorem inDct_sT : inDct true (.str s) (.dct kvs) = ret (.bl (!(valD kvs (.inr s)).isSome)) := rfl
theorem inDct_iF : inDct false (.int v) (.dct kvs) = ret (.bl (valD kvs (.inl v)).isSome) := rfl
theorem inDct_iT : inDct true (.int v) (.dct kvs) = ret (.bl (!(valD kvs (.inl v)).isSome)) := rfl
/-! ### a kind's methods, those of a value -/
def valueD (A : Cl) (kd : D) (n : Int) : D := .obj A.Value [("own", kd), ("own_bits", .int n)]
section
variable {A : Cl} {kd : D} {due : Due}
theorem val_own : fldD A.Value "own" (valueD A kd v) = ret kd := fld_if rfl
theorem val_bits : fldD A.Value "own_bits" (valueD A kd v) = ret (.int v) := fld_if rfl
theorem val_isi : isiC A.Value (valueD A kd v) = ret (.bl true) := if_pos rfl
theorem kind_isi : isiC A.Kind (kindD A.Kind due r) = ret (.bl true) := if_pos rfl
theorem kd_lines : fldD A.Kind "lines" (kindD A.Kind due r) = ret (.lst (dueD due)) := fld_if rfl
theorem kd_rule : fldD A.Kind "rule" (kindD A.Kind due r) = ret (.str r) := fld_if rfl
theorem kd_table : fldD A.Kind "table" (kindD A.Kind due r) = ret (.dct (tabD due)) := fld_if rfl
theorem kd_firsts : fldD A.Kind "firsts" (kindD A.Kind due r) = ret (.dct (firstsD due)) := fld_if rfl
theorem kd_all : fldD A.Kind "all_bits" (kindD A.Kind due r) = ret (.int (orAll due)) := fld_if rfl
theorem le1_val : le1 (ret (valueD A kd v)) A.Value m = le2 (m [valueD A kd v]) := if_pos rfl
theorem le1_kind : le1 (ret (kindD A.Kind due r)) A.Kind m = le2 (m [kindD A.Kind due r]) := if_pos rfl
theorem km_rows : mt2 (kindD A.Kind due r) A.Kind "rows" fs m ρ = mt3 (fs ρ) (kindD A.Kind due r) m := mt2_obj rfl
theorem km_number : mt2 (kindD A.Kind due r) A.Kind "number" fs m ρ = mt3 (fs ρ) (kindD A.Kind due r) m := mt2_obj rfl
theorem km_names : mt2 (kindD A.Kind due r) A.Kind "names" fs m ρ = mt3 (fs ρ) (kindD A.Kind due r) m := mt2_obj rfl
theorem km_aliases : mt2 (kindD A.Kind due r) A.Kind "aliases" fs m ρ = mt3 (fs ρ) (kindD A.Kind due r) m := mt2_obj rfl
theorem km_marks : mt2 (kindD A.Kind due r) A.Kind "marks" fs m ρ = mt3 (fs ρ) (kindD A.Kind due r) m := mt2_obj rfl
theorem km_mark_bits : mt2 (kindD A.Kind due r) A.Kind "mark_bits" fs m ρ = mt3 (fs ρ) (kindD A.Kind due r) m := mt2_obj rfl
theorem km_name_of : mt2 (kindD A.Kind due r) A.Kind "name_of" fs m ρ = mt3 (fs ρ) (kindD A.Kind due r) m := mt2_obj rfl
theorem km_known : mt2 (kindD A.Kind due r) A.Kind "known" fs m ρ = mt3 (fs ρ) (kindD A.Kind due r) m := mt2_obj rfl
theorem km_rest : mt2 (kindD A.Kind due r) A.Kind "rest" fs m ρ = mt3 (fs ρ) (kindD A.Kind due r) m := mt2_obj rfl
theorem vm_kind : mt2 (valueD A kd v) A.Value "kind" fs m ρ = mt3 (fs ρ) (valueD A kd v) m := mt2_obj rfl
theorem vm_number : mt2 (valueD A kd v) A.Value "number" fs m ρ = mt3 (fs ρ) (valueD A kd v) m := mt2_obj rfl
theorem vm_marks : mt2 (valueD A kd v) A.Value "marks" fs m ρ = mt3 (fs ρ) (valueD A kd v) m := mt2_obj rfl
theorem vm_rest : mt2 (valueD A kd v) A.Value "rest" fs m ρ = mt3 (fs ρ) (valueD A kd v) m := mt2_obj rfl
end
end
end DL

/-! each step under a wish: what it waits for comes first -/
namespace DL
open PySem PySem.Spec L2
theorem run_ret {ε α : Type} {a : α} {k : α → Prop} {e : ε → Prop} : (ret a : M ε α).run k e = k a := rfl
theorem run_raise {ε α : Type} {x : ε} {k : α → Prop} {e : ε → Prop} : (raise x : M ε α).run k e = e x := rfl
theorem forM_nil {bt : D → EnvD → Option EnvD} {g : FS} {ρ : EnvD} : forM bt g [] ρ = ret (.nx ρ) := rfl
theorem roll_ok {n : Int} {k : D → Prop} {e : Exn → Prop} (h0 : 0 < n) (h1 : n < 1267650600228229401496703205376) (H : ∀ r : Int, 0 ≤ r → r < n → k (.int r)) : (m_law_roll [.int n]).run k e := by
  show (if n < 1267650600228229401496703205376 then bnd (pick n) (fun r => ret (D.int r)) else stuck).run k e
  rw [if_pos h1]
  exact ⟨h0, H⟩
theorem tw1_run {p0 : M Exn D} {p1 : FE} {p2 : D → D → M Exn D} {p3 : EnvD} {k : D → Prop} {e : Exn → Prop} : (tw1 p0 p1 p2 p3).run k e = p0.run (fun a => (tw1 (ret a) p1 p2 p3).run k e) (fun x => (tw1 (raise x) p1 p2 p3).run k e) := rfl
theorem tw2_run {p0 : M Exn D} {p1 : D → D → M Exn D} {p2 : D} {k : D → Prop} {e : Exn → Prop} : (tw2 p0 p1 p2).run k e = p0.run (fun a => (tw2 (ret a) p1 p2).run k e) (fun x => (tw2 (raise x) p1 p2).run k e) := rfl
theorem on1_run {p0 : M Exn D} {p1 : D → M Exn D} {k : D → Prop} {e : Exn → Prop} : (on1 p0 p1).run k e = p0.run (fun a => (on1 (ret a) p1).run k e) (fun x => (on1 (raise x) p1).run k e) := rfl
def asKR (p0 : D) : M Exn Bool := asK (ret p0)
theorem asK_run {p0 : M Exn D} {k : Bool → Prop} {e : Exn → Prop} : (asK p0).run k e = p0.run (fun a => (asKR a).run k e) (fun x => (asK (raise x)).run k e) := rfl
theorem ntK_run {p0 : M Exn Bool} {k : Bool → Prop} {e : Exn → Prop} : (ntK p0).run k e = p0.run (fun a => (ntK (ret a)).run k e) (fun x => (ntK (raise x)).run k e) := rfl
theorem an1_run {p0 : M Exn Bool} {p1 : FB} {p2 : EnvD} {k : Bool → Prop} {e : Exn → Prop} : (an1 p0 p1 p2).run k e = p0.run (fun a => (an1 (ret a) p1 p2).run k e) (fun x => (an1 (raise x) p1 p2).run k e) := rfl
theorem or1_run {p0 : M Exn Bool} {p1 : FB} {p2 : EnvD} {k : Bool → Prop} {e : Exn → Prop} : (or1 p0 p1 p2).run k e = p0.run (fun a => (or1 (ret a) p1 p2).run k e) (fun x => (or1 (raise x) p1 p2).run k e) := rfl
theorem av1_run {p0 : M Exn Bool} {p1 : FE} {p2 : EnvD} {k : D → Prop} {e : Exn → Prop} : (av1 p0 p1 p2).run k e = p0.run (fun a => (av1 (ret a) p1 p2).run k e) (fun x => (av1 (raise x) p1 p2).run k e) := rfl
theorem ov1_run {p0 : M Exn Bool} {p1 : FE} {p2 : EnvD} {k : D → Prop} {e : Exn → Prop} : (ov1 p0 p1 p2).run k e = p0.run (fun a => (ov1 (ret a) p1 p2).run k e) (fun x => (ov1 (raise x) p1 p2).run k e) := rfl
theorem nvK_run {p0 : M Exn Bool} {k : D → Prop} {e : Exn → Prop} : (nvK p0).run k e = p0.run (fun a => (nvK (ret a)).run k e) (fun x => (nvK (raise x)).run k e) := rfl
theorem ch1_run {p0 : M Exn D} {p1 : FE} {p2 : D → D → M Exn D} {p3 : FE} {p4 : D → D → M Exn D} {p5 : EnvD} {k : D → Prop} {e : Exn → Prop} : (ch1 p0 p1 p2 p3 p4 p5).run k e = p0.run (fun a => (ch1 (ret a) p1 p2 p3 p4 p5).run k e) (fun x => (ch1 (raise x) p1 p2 p3 p4 p5).run k e) := rfl
theorem ch2_run {p0 : M Exn D} {p1 : D → D → M Exn D} {p2 : FE} {p3 : D → D → M Exn D} {p4 : EnvD} {p5 : D} {k : D → Prop} {e : Exn → Prop} : (ch2 p0 p1 p2 p3 p4 p5).run k e = p0.run (fun a => (ch2 (ret a) p1 p2 p3 p4 p5).run k e) (fun x => (ch2 (raise x) p1 p2 p3 p4 p5).run k e) := rfl
theorem ch3_run {p0 : M Exn Bool} {p1 : FE} {p2 : D → D → M Exn D} {p3 : EnvD} {p4 : D} {k : D → Prop} {e : Exn → Prop} : (ch3 p0 p1 p2 p3 p4).run k e = p0.run (fun a => (ch3 (ret a) p1 p2 p3 p4).run k e) (fun x => (ch3 (raise x) p1 p2 p3 p4).run k e) := rfl
theorem id1_run {p0 : M Exn Bool} {p1 : FE} {p2 : FE} {p3 : EnvD} {k : D → Prop} {e : Exn → Prop} : (id1 p0 p1 p2 p3).run k e = p0.run (fun a => (id1 (ret a) p1 p2 p3).run k e) (fun x => (id1 (raise x) p1 p2 p3).run k e) := rfl
theorem cn1_run {p0 : M Exn D} {p1 : FL} {p2 : EnvD} {k : (List D) → Prop} {e : Exn → Prop} : (cn1 p0 p1 p2).run k e = p0.run (fun a => (cn1 (ret a) p1 p2).run k e) (fun x => (cn1 (raise x) p1 p2).run k e) := rfl
theorem cn2_run {p0 : M Exn (List D)} {p1 : D} {k : (List D) → Prop} {e : Exn → Prop} : (cn2 p0 p1).run k e = p0.run (fun a => (cn2 (ret a) p1).run k e) (fun x => (cn2 (raise x) p1).run k e) := rfl
theorem ck_run {p0 : M Exn (List D)} {p1 : List D → M Exn D} {k : D → Prop} {e : Exn → Prop} : (ck p0 p1).run k e = p0.run (fun a => (ck (ret a) p1).run k e) (fun x => (ck (raise x) p1).run k e) := rfl
theorem cp1_run {p0 : M Exn D} {p1 : Key} {p2 : FP} {p3 : EnvD} {k : (List (Key × D)) → Prop} {e : Exn → Prop} : (cp1 p0 p1 p2 p3).run k e = p0.run (fun a => (cp1 (ret a) p1 p2 p3).run k e) (fun x => (cp1 (raise x) p1 p2 p3).run k e) := rfl
def flKR (p0 : D) : M Exn D := flK (ret p0)
theorem flK_run {p0 : M Exn D} {k : D → Prop} {e : Exn → Prop} : (flK p0).run k e = p0.run (fun a => (flKR a).run k e) (fun x => (flK (raise x)).run k e) := rfl
theorem mk1_run {p0 : M Exn (List D)} {p1 : FE} {p2 : Nat} {p3 : List D → M Exn D} {p4 : EnvD} {k : D → Prop} {e : Exn → Prop} : (mk1 p0 p1 p2 p3 p4).run k e = p0.run (fun a => (mk1 (ret a) p1 p2 p3 p4).run k e) (fun x => (mk1 (raise x) p1 p2 p3 p4).run k e) := rfl
def mk2R (p0 : D) (p1 : Nat) (p2 : List D → M Exn D) (p3 : List D) : M Exn D := mk2 (ret p0) p1 p2 p3
theorem mk2_run {p0 : M Exn D} {p1 : Nat} {p2 : List D → M Exn D} {p3 : List D} {k : D → Prop} {e : Exn → Prop} : (mk2 p0 p1 p2 p3).run k e = p0.run (fun a => (mk2R a p1 p2 p3).run k e) (fun x => (mk2 (raise x) p1 p2 p3).run k e) := rfl
theorem mt1_run {p0 : M Exn D} {p1 : Addr} {p2 : Str} {p3 : FL} {p4 : List D → M Exn D} {p5 : EnvD} {k : D → Prop} {e : Exn → Prop} : (mt1 p0 p1 p2 p3 p4 p5).run k e = p0.run (fun a => (mt1 (ret a) p1 p2 p3 p4 p5).run k e) (fun x => (mt1 (raise x) p1 p2 p3 p4 p5).run k e) := rfl
theorem mt3_run {p0 : M Exn (List D)} {p1 : D} {p2 : List D → M Exn D} {k : D → Prop} {e : Exn → Prop} : (mt3 p0 p1 p2).run k e = p0.run (fun a => (mt3 (ret a) p1 p2).run k e) (fun x => (mt3 (raise x) p1 p2).run k e) := rfl
theorem tdK_run {p0 : Cl} {p1 : M Exn D} {k : D → Prop} {e : Exn → Prop} : (tdK p0 p1).run k e = p1.run (fun a => (tdK p0 (ret a)).run k e) (fun x => (tdK p0 (raise x)).run k e) := rfl
theorem itK_run {p0 : M Exn D} {p1 : D → M Exn (List D)} {k : (List D) → Prop} {e : Exn → Prop} : (itK p0 p1).run k e = p0.run (fun a => (itK (ret a) p1).run k e) (fun x => (itK (raise x) p1).run k e) := rfl
theorem isK_run {p0 : M Exn (List D)} {p1 : List D → M Exn (List D)} {k : (List D) → Prop} {e : Exn → Prop} : (isK p0 p1).run k e = p0.run (fun a => (isK (ret a) p1).run k e) (fun x => (isK (raise x) p1).run k e) := rfl
def sq1R (p0 : Out) (p1 : FS) : MS := sq1 (ret p0) p1
theorem sq1_run {p0 : MS} {p1 : FS} {k : Out → Prop} {e : Exn × EnvD → Prop} : (sq1 p0 p1).run k e = p0.run (fun a => (sq1R a p1).run k e) (fun x => (sq1 (raise x) p1).run k e) := rfl
theorem st1_run {p0 : M Exn D} {p1 : Nat} {p2 : EnvD} {k : Out → Prop} {e : Exn × EnvD → Prop} : (st1 p0 p1 p2).run k e = p0.run (fun a => (st1 (ret a) p1 p2).run k e) (fun x => (st1 (raise x) p1 p2).run k e) := rfl
theorem so1_run {p0 : M Exn D} {p1 : Nat} {p2 : EnvD} {k : Out → Prop} {e : Exn × EnvD → Prop} : (so1 p0 p1 p2).run k e = p0.run (fun a => (so1 (ret a) p1 p2).run k e) (fun x => (so1 (raise x) p1 p2).run k e) := rfl
theorem rt1_run {p0 : M Exn D} {p1 : EnvD} {k : Out → Prop} {e : Exn × EnvD → Prop} : (rt1 p0 p1).run k e = p0.run (fun a => (rt1 (ret a) p1).run k e) (fun x => (rt1 (raise x) p1).run k e) := rfl
theorem ex1_run {p0 : M Exn D} {p1 : EnvD} {k : Out → Prop} {e : Exn × EnvD → Prop} : (ex1 p0 p1).run k e = p0.run (fun a => (ex1 (ret a) p1).run k e) (fun x => (ex1 (raise x) p1).run k e) := rfl
theorem if1_run {p0 : M Exn Bool} {p1 : FS} {p2 : FS} {p3 : EnvD} {k : Out → Prop} {e : Exn × EnvD → Prop} : (if1 p0 p1 p2 p3).run k e = p0.run (fun a => (if1 (ret a) p1 p2 p3).run k e) (fun x => (if1 (raise x) p1 p2 p3).run k e) := rfl
def rf1R (p0 : D) (p1 : Addr) (p2 : Str) (p3 : EnvD) : MS := rf1 (ret p0) p1 p2 p3
theorem rf1_run {p0 : M Exn D} {p1 : Addr} {p2 : Str} {p3 : EnvD} {k : Out → Prop} {e : Exn × EnvD → Prop} : (rf1 p0 p1 p2 p3).run k e = p0.run (fun a => (rf1R a p1 p2 p3).run k e) (fun x => (rf1 (raise x) p1 p2 p3).run k e) := rfl
theorem tp1_run {p0 : M Exn D} {p1 : D → EnvD → Option EnvD} {p2 : EnvD} {k : Out → Prop} {e : Exn × EnvD → Prop} : (tp1 p0 p1 p2).run k e = p0.run (fun a => (tp1 (ret a) p1 p2).run k e) (fun x => (tp1 (raise x) p1 p2).run k e) := rfl
theorem pa1_run {p0 : M Exn D} {p1 : Nat} {p2 : Nat} {p3 : Way} {p4 : Way} {p5 : FE} {p6 : EnvD} {k : Out → Prop} {e : Exn × EnvD → Prop} : (pa1 p0 p1 p2 p3 p4 p5 p6).run k e = p0.run (fun a => (pa1 (ret a) p1 p2 p3 p4 p5 p6).run k e) (fun x => (pa1 (raise x) p1 p2 p3 p4 p5 p6).run k e) := rfl
theorem pa2_run {p0 : M Exn D} {p1 : Nat} {p2 : Nat} {p3 : Way} {p4 : Way} {p5 : D} {p6 : EnvD} {k : Out → Prop} {e : Exn × EnvD → Prop} : (pa2 p0 p1 p2 p3 p4 p5 p6).run k e = p0.run (fun a => (pa2 (ret a) p1 p2 p3 p4 p5 p6).run k e) (fun x => (pa2 (raise x) p1 p2 p3 p4 p5 p6).run k e) := rfl
theorem p31_run {p0 : M Exn D} {p1 : Nat} {p2 : Nat} {p3 : Nat} {p4 : Way} {p5 : Way} {p6 : Way} {p7 : FE} {p8 : FE} {p9 : EnvD} {k : Out → Prop} {e : Exn × EnvD → Prop} : (p31 p0 p1 p2 p3 p4 p5 p6 p7 p8 p9).run k e = p0.run (fun a => (p31 (ret a) p1 p2 p3 p4 p5 p6 p7 p8 p9).run k e) (fun x => (p31 (raise x) p1 p2 p3 p4 p5 p6 p7 p8 p9).run k e) := rfl
theorem p32_run {p0 : M Exn D} {p1 : Nat} {p2 : Nat} {p3 : Nat} {p4 : Way} {p5 : Way} {p6 : Way} {p7 : FE} {p8 : D} {p9 : EnvD} {k : Out → Prop} {e : Exn × EnvD → Prop} : (p32 p0 p1 p2 p3 p4 p5 p6 p7 p8 p9).run k e = p0.run (fun a => (p32 (ret a) p1 p2 p3 p4 p5 p6 p7 p8 p9).run k e) (fun x => (p32 (raise x) p1 p2 p3 p4 p5 p6 p7 p8 p9).run k e) := rfl
theorem p33_run {p0 : M Exn D} {p1 : Nat} {p2 : Nat} {p3 : Nat} {p4 : Way} {p5 : Way} {p6 : Way} {p7 : D} {p8 : D} {p9 : EnvD} {k : Out → Prop} {e : Exn × EnvD → Prop} : (p33 p0 p1 p2 p3 p4 p5 p6 p7 p8 p9).run k e = p0.run (fun a => (p33 (ret a) p1 p2 p3 p4 p5 p6 p7 p8 p9).run k e) (fun x => (p33 (raise x) p1 p2 p3 p4 p5 p6 p7 p8 p9).run k e) := rfl
theorem fo1_run {p0 : M Exn (List D)} {p1 : D → EnvD → Option EnvD} {p2 : FS} {p3 : EnvD} {k : Out → Prop} {e : Exn × EnvD → Prop} : (fo1 p0 p1 p2 p3).run k e = p0.run (fun a => (fo1 (ret a) p1 p2 p3).run k e) (fun x => (fo1 (raise x) p1 p2 p3).run k e) := rfl
def lc1R (p0 : (List D)) (p1 : D → EnvD → Option EnvD) (p2 : List Nat) (p3 : FB) (p4 : FE) (p5 : EnvD) : M Exn D := lc1 (ret p0) p1 p2 p3 p4 p5
theorem lc1_run {p0 : M Exn (List D)} {p1 : D → EnvD → Option EnvD} {p2 : List Nat} {p3 : FB} {p4 : FE} {p5 : EnvD} {k : D → Prop} {e : Exn → Prop} : (lc1 p0 p1 p2 p3 p4 p5).run k e = p0.run (fun a => (lc1R a p1 p2 p3 p4 p5).run k e) (fun x => (lc1 (raise x) p1 p2 p3 p4 p5).run k e) := rfl
def rd1R (p0 : Out) : M Exn D := rd1 (ret p0)
theorem rd1_run {p0 : MS} {k : D → Prop} {e : Exn → Prop} : (rd1 p0).run k e = p0.run (fun a => (rd1R a).run k e) (fun x => (rd1 (raise x)).run k e) := rfl
def at1R (p0 : D) (p1 : Addr) (p2 : Str) (p3 : EnvD) : MS := at1 (ret p0) p1 p2 p3
theorem at1_run {p0 : M Exn D} {p1 : Addr} {p2 : Str} {p3 : EnvD} {k : Out → Prop} {e : Exn × EnvD → Prop} : (at1 p0 p1 p2 p3).run k e = p0.run (fun a => (at1R a p1 p2 p3).run k e) (fun x => (at1 (raise x) p1 p2 p3).run k e) := rfl
theorem ir1_run {p0 : M Exn Bool} {p1 : FS} {p2 : EnvD} {k : Out → Prop} {e : Exn × EnvD → Prop} : (ir1 p0 p1 p2).run k e = p0.run (fun a => (ir1 (ret a) p1 p2).run k e) (fun x => (ir1 (raise x) p1 p2).run k e) := rfl
def ir3R (p0 : Out) : MS := ir3 (ret p0)
theorem ir3_run {p0 : MS} {k : Out → Prop} {e : Exn × EnvD → Prop} : (ir3 p0).run k e = p0.run (fun a => (ir3R a).run k e) (fun x => (ir3 (raise x)).run k e) := rfl
def ri1R (p0 : Out) : M Exn D := ri1 (ret p0)
theorem ri1_run {p0 : MS} {k : D → Prop} {e : Exn → Prop} : (ri1 p0).run k e = p0.run (fun a => (ri1R a).run k e) (fun x => (ri1 (raise x)).run k e) := rfl
theorem mo1_run {p0 : M Exn D} {p1 : Addr} {p2 : Str} {p3 : FL} {p4 : List D → M Exn D} {p5 : EnvD} {k : D → Prop} {e : Exn → Prop} : (mo1 p0 p1 p2 p3 p4 p5).run k e = p0.run (fun a => (mo1 (ret a) p1 p2 p3 p4 p5).run k e) (fun x => (mo1 (raise x) p1 p2 p3 p4 p5).run k e) := rfl
theorem mo3_run {p0 : M Exn (List D)} {p1 : D} {p2 : Addr} {p3 : List D → M Exn D} {k : D → Prop} {e : Exn → Prop} : (mo3 p0 p1 p2 p3).run k e = p0.run (fun a => (mo3 (ret a) p1 p2 p3).run k e) (fun x => (mo3 (raise x) p1 p2 p3).run k e) := rfl
def mo4R (p0 : D) (p1 : Addr) : M Exn D := mo4 (ret p0) p1
theorem mo4_run {p0 : M Exn D} {p1 : Addr} {k : D → Prop} {e : Exn → Prop} : (mo4 p0 p1).run k e = p0.run (fun a => (mo4R a p1).run k e) (fun x => (mo4 (raise x) p1).run k e) := rfl
def gd1R (p0 : D) (p1 : FE) (p2 : EnvD) : M Exn D := gd1 (ret p0) p1 p2
theorem gd1_run {p0 : M Exn D} {p1 : FE} {p2 : EnvD} {k : D → Prop} {e : Exn → Prop} : (gd1 p0 p1 p2).run k e = p0.run (fun a => (gd1R a p1 p2).run k e) (fun x => (gd1 (raise x) p1 p2).run k e) := rfl
theorem gd2_run {p0 : List (Key × D)} {p1 : M Exn D} {k : D → Prop} {e : Exn → Prop} : (gd2 p0 p1).run k e = p1.run (fun a => (gd2 p0 (ret a)).run k e) (fun x => (gd2 p0 (raise x)).run k e) := rfl
def sm1R (p0 : D) : M Exn (Option Int) := sm1 (ret p0)
theorem sm1_run {p0 : M Exn D} {k : (Option Int) → Prop} {e : Exn → Prop} : (sm1 p0).run k e = p0.run (fun a => (sm1R a).run k e) (fun x => (sm1 (raise x)).run k e) := rfl
theorem sl1_run {p0 : M Exn D} {p1 : Option Int → Option Int → D → M Exn D} {p2 : FO} {p3 : FO} {p4 : EnvD} {k : D → Prop} {e : Exn → Prop} : (sl1 p0 p1 p2 p3 p4).run k e = p0.run (fun a => (sl1 (ret a) p1 p2 p3 p4).run k e) (fun x => (sl1 (raise x) p1 p2 p3 p4).run k e) := rfl
theorem sl2_run {p0 : M Exn (Option Int)} {p1 : Option Int → Option Int → D → M Exn D} {p2 : FO} {p3 : D} {p4 : EnvD} {k : D → Prop} {e : Exn → Prop} : (sl2 p0 p1 p2 p3 p4).run k e = p0.run (fun a => (sl2 (ret a) p1 p2 p3 p4).run k e) (fun x => (sl2 (raise x) p1 p2 p3 p4).run k e) := rfl
theorem sl3_run {p0 : M Exn (Option Int)} {p1 : Option Int → Option Int → D → M Exn D} {p2 : D} {p3 : Option Int} {k : D → Prop} {e : Exn → Prop} : (sl3 p0 p1 p2 p3).run k e = p0.run (fun a => (sl3 (ret a) p1 p2 p3).run k e) (fun x => (sl3 (raise x) p1 p2 p3).run k e) := rfl
def ap1R (p0 : D) (p1 : List D) (p2 : Nat) (p3 : EnvD) : MS := ap1 (ret p0) p1 p2 p3
theorem ap1_run {p0 : M Exn D} {p1 : List D} {p2 : Nat} {p3 : EnvD} {k : Out → Prop} {e : Exn × EnvD → Prop} : (ap1 p0 p1 p2 p3).run k e = p0.run (fun a => (ap1R a p1 p2 p3).run k e) (fun x => (ap1 (raise x) p1 p2 p3).run k e) := rfl
theorem pu1_run {p0 : M Exn D} {p1 : FE} {p2 : List (Key × D)} {p3 : Nat} {p4 : EnvD} {k : Out → Prop} {e : Exn × EnvD → Prop} : (pu1 p0 p1 p2 p3 p4).run k e = p0.run (fun a => (pu1 (ret a) p1 p2 p3 p4).run k e) (fun x => (pu1 (raise x) p1 p2 p3 p4).run k e) := rfl
theorem pu2_run {p0 : M Exn D} {p1 : D} {p2 : List (Key × D)} {p3 : Nat} {p4 : EnvD} {k : Out → Prop} {e : Exn × EnvD → Prop} : (pu2 p0 p1 p2 p3 p4).run k e = p0.run (fun a => (pu2 (ret a) p1 p2 p3 p4).run k e) (fun x => (pu2 (raise x) p1 p2 p3 p4).run k e) := rfl
def le1R (p0 : D) (p1 : Addr) (p2 : List D → M Exn D) : M Exn D := le1 (ret p0) p1 p2
theorem le1_run {p0 : M Exn D} {p1 : Addr} {p2 : List D → M Exn D} {k : D → Prop} {e : Exn → Prop} : (le1 p0 p1 p2).run k e = p0.run (fun a => (le1R a p1 p2).run k e) (fun x => (le1 (raise x) p1 p2).run k e) := rfl
def le2R (p0 : D) : M Exn D := le2 (ret p0)
theorem le2_run {p0 : M Exn D} {k : D → Prop} {e : Exn → Prop} : (le2 p0).run k e = p0.run (fun a => (le2R a).run k e) (fun x => (le2 (raise x)).run k e) := rfl
section
variable {ρ : EnvD} {f fa fb fc fk fv : FE} {t u : FB} {fs : FL} {g h : FS} {a b c d : D} {x y : Exn} {z : Exn × EnvD} {ds : List D} {i j n : Nat} {C : Addr} {nm : Str} {m : List D → M Exn D} {v w : Int} {v1 : Bool} {s r : Str} {kvs : List (Key × D)} {gs : List (Str × D)} {A : Cl} {kd : D} {due : Due} {d1 : D}
theorem asK_retR {v : Bool} : asKR (.bl v) = ret v := asK_ret 
theorem flK_iR {v : Int} : flKR (.int v) = ret (.int v) := flK_i 
theorem flK_bR {v : Bool} : flKR (.bl v) = ret (.bl v) := flK_b 
theorem flK_sR {v : Str} : flKR (.str v) = ret (.str v) := flK_s 
theorem flK_nR : flKR .non = ret .non := flK_n 
theorem mk2_retR : mk2R (d) 1 m [d1] = m [d1, d] := mk2_ret 
theorem sq1_nxR : sq1R (.nx ρ) h = h ρ := sq1_nx 
theorem sq1_rtR : sq1R (.rt d) h = ret (.rt d) := sq1_rt 
theorem sq1_bkR : sq1R (.bk ρ) h = ret (.bk ρ) := sq1_bk 
theorem sq1_ctR : sq1R (.ct ρ) h = ret (.ct ρ) := sq1_ct 
theorem rf1_iR {v : Int} : rf1R (.int v) C nm ρ = raise (⟨C, some (nm, .int v)⟩, ρ) := rf1_i 
theorem rf1_sR {v : Str} : rf1R (.str v) C nm ρ = raise (⟨C, some (nm, .str v)⟩, ρ) := rf1_s 
theorem rf1_nR : rf1R .non C nm ρ = raise (⟨C, some (nm, .non)⟩, ρ) := rf1_n 
theorem rd1_nxR : rd1R (.nx ρ) = ret .non := rd1_nx 
theorem rd1_rtR : rd1R (.rt d) = ret d := rd1_rt 
theorem at1_retR {fl : List (Str × D)} (h : fsLe fl 60 = true) : at1R (d) C nm (some (.own (.obj C fl)) :: ρ) = ret (.nx (some (.own (.obj C (putFD nm d fl))) :: ρ)) := at1_ret h
theorem ri1_nxR : ri1R (.nx (some (.own d) :: ρ)) = ret d := ri1_nx 
theorem mo4_retR (h : noC C d = true) : mo4R (d) C = ret d := mo4_ret h
theorem gd1_retR {kvs : List (Key × D)} : gd1R (.dct kvs) fb ρ = gd2 kvs (fb ρ) := gd1_ret 
theorem sm1_retR {v : Int} : sm1R (.int v) = ret (some v) := sm1_ret 
theorem ap1_retR (h : ds.length < sizeLine) : ap1R (d) ds i ρ = ret (.nx (ρ.set i (some (.own (.lst (ds ++ [d])))))) := ap1_ret h
theorem le1_objR {gs : List (Str × D)} : le1R (.obj C gs) C m = le2 (m [.obj C gs]) := le1_obj 
theorem le2_natR {v : Nat} (h : v ≤ 1000) : le2R (.int (v : Nat)) = ret (.int (v : Nat)) := le2_nat h
theorem le1_valR : le1R (valueD A kd v) A.Value m = le2 (m [valueD A kd v]) := le1_val 
theorem le1_kindR : le1R (kindD A.Kind due r) A.Kind m = le2 (m [kindD A.Kind due r]) := le1_kind 

end
end DL

/-! == of what may be an own object or data; insert; try of what raises nothing; function values -/
namespace DL
open PySem PySem.Spec L2
/-! ### == where the left one may be an own object, or data -/
def eqG (C : Addr) (neg : Bool) (m : List D → M Exn D) : D → D → M Exn D
  | .obj C' gs, y => eqC C neg m (.obj C' gs) y
  | x, y => eqD neg x y
section
variable {X : Cx} {vol v : Vol} {W : WX} {F0 H0 : Hp} {a b : Expr} {fa fb : EnvD → M Exn D} {pos : Pos} {k j : Nat} {C g : Addr} {fd : FuncData} {ps : List Str} {m : List D → M Exn D}
def rEqG (X : Cx) (C : Addr) (sp : Sp) (neg : Bool) : R2 := fun x y H Q => rEqC X.K C sp neg x y H Q ∨ (if neg = true then rNeD X.K x y H Q else rEqD X.K x y H Q)
theorem op_eqG (F : FnOk X.prog X.w X.K X.mg X.base (L2N.CX X.prog X.w) j g fd ps (spD vol0 X.K 2 m)) (c : EqCls X.K C g) (hr : Room (j + 1) X.A) (hb : Binds X.K fd ps []) : OpR X (compareOp .Eq) (rEqG X C (spD vol0 X.K 2 m) false) :=
  fun pins s σ H x y v u Q I rx ry h => h.elim (fun h => op_eqC F c hr hb pins s σ H x y v u Q I rx ry h) (fun h => op_eqD hr.units pins s σ H x y v u Q I rx ry (by rw [if_neg Bool.false_ne_true] at h; exact h))
theorem op_neG (F : FnOk X.prog X.w X.K X.mg X.base (L2N.CX X.prog X.w) j g fd ps (spD vol0 X.K 2 m)) (c : EqCls X.K C g) (hr : Room (j + 1) X.A) (hb : Binds X.K fd ps []) : OpR X (compareOp .NotEq) (rEqG X C (spD vol0 X.K 2 m) true) :=
  fun pins s σ H x y v u Q I rx ry h => h.elim (fun h => op_neC F c hr hb pins s σ H x y v u Q I rx ry h) (fun h => op_neD hr.units pins s σ H x y v u Q I rx ry (by rw [if_pos rfl] at h; exact h))
theorem eqG_go {F H F1 H1 F2 H2 : Hp} {Q : VK} {x y : D} {v w : V} {neg : Bool} {e : Exn → Prop} (G : Good vol F H) (x1 : Ext vol F H F1 H1) (x2 : Ext vol F1 H1 F2 H2) (rx : Rep X.K F1 x v) (ry : Rep X.K F2 y w) (q : (eqG C neg m x y).run (VF vol X.K F H Q) e) : rEqG X C (spD vol0 X.K 2 m) neg v w H2 Q := by
  have data : (eqD neg x y).run (VF vol X.K F H Q) e → rEqG X C (spD vol0 X.K 2 m) neg v w H2 Q := fun q => by
    refine .inr ?_
    have x12 := x1.trans G x2
    have q2 : (eqD neg x y).run (VF vol X.K F2 H2 Q) e := (eqD neg x y).mono _ _ _ _ (fun d h v F' H' x3 r => h v F' H' (x12.trans G x3) r) (fun _ z => z) q
    cases neg with
    | true => rw [if_pos rfl]; exact agr_ne (vol := vol) (K := X.K) F2 H2 x y v w Q e x2.g (.inl (Rep.up x2.sF _ _ rx)) (.inl ry) q2
    | false => rw [if_neg Bool.false_ne_true]; exact agr_eq (vol := vol) (K := X.K) F2 H2 x y v w Q e x2.g (.inl (Rep.up x2.sF _ _ rx)) (.inl ry) q2
  cases x with
  | obj C' gs => exact .inl (eqC_go G x1 x2 rx ry q)
  | _ => exact data q
theorem df_eqG (F : FnOk X.prog X.w X.K X.mg X.base (L2N.CX X.prog X.w) j g fd ps (spD vol0 X.K 2 m)) (cx : Ctx X W k) (hj : j + 1 ≤ k) (c : EqCls X.K C g) (hb : Binds X.K fd ps []) (ha : DF X vol W a fa) (hb' : DF X vol W b fb) : DF X vol W (.Compare a [.Eq] [b] pos) (two fa fb (eqG C false m)) :=
  ⟨(pe_cmpR (op_eqG F c (cx.room.mono hj) hb) ha.run hb'.run (nomark _)).conseq fun σ H Q ⟨F0, ρ, G, E, q⟩ => tD.go G E q fun x q1 v F1 H1 x1 r1 => tD.go x1.g (E.ext x1) (MonoEX G x1 q1 fun _ z => z) fun y q2 w F2 H2 x2 r2 => eqG_go G x1 x2 r1 r2 q2⟩
theorem df_neG (F : FnOk X.prog X.w X.K X.mg X.base (L2N.CX X.prog X.w) j g fd ps (spD vol0 X.K 2 m)) (cx : Ctx X W k) (hj : j + 1 ≤ k) (c : EqCls X.K C g) (hb : Binds X.K fd ps []) (ha : DF X vol W a fa) (hb' : DF X vol W b fb) : DF X vol W (.Compare a [.NotEq] [b] pos) (two fa fb (eqG C true m)) :=
  ⟨(pe_cmpR (op_neG F c (cx.room.mono hj) hb) ha.run hb'.run (nomark _)).conseq fun σ H Q ⟨F0, ρ, G, E, q⟩ => tD.go G E q fun x q1 v F1 H1 x1 r1 => tD.go x1.g (E.ext x1) (MonoEX G x1 q1 fun _ z => z) fun y q2 w F2 H2 x2 r2 => eqG_go G x1 x2 r1 r2 q2⟩
theorem dt_eqG (F : FnOk X.prog X.w X.K X.mg X.base (L2N.CX X.prog X.w) j g fd ps (spD vol0 X.K 2 m)) (cx : Ctx X W k) (hj : j + 1 ≤ k) (c : EqCls X.K C g) (hb : Binds X.K fd ps []) (ha : DF X vol W a fa) (hb' : DF X vol W b fb) : DT X vol W (.Compare a [.Eq] [b] pos) (tst (two fa fb (eqG C false m))) :=
  ⟨(pt_cmpR (op_eqG F c (cx.room.mono hj) hb) ha.run hb'.run (nomark _)).conseq fun σ H Q ⟨F0, ρ, G, E, q⟩ => tD.go G E ((two fa fb (eqG C false m) ρ).mono (fun d => VF vol X.K F0 H (fun v H' => ∃ b, v = .bl b ∧ Q b H') d) _ _ _ (fun d h => h) (fun _ z => z) ((two fa fb (eqG C false m) ρ).mono _ _ _ _ (fun d q1 v F1 H1 x1 r1 => by
      unfold asB at q1
      split at q1
      · cases r1; exact ⟨_, rfl, q1 F1 H1 x1⟩
      · exact q1.elim) (fun _ z => z) q)) fun x q1 v F1 H1 x1 r1 => tD.go x1.g (E.ext x1) (MonoEX G x1 q1 fun _ z => z) fun y q2 w F2 H2 x2 r2 => eqG_go G x1 x2 r1 r2 q2⟩
theorem dt_neG (F : FnOk X.prog X.w X.K X.mg X.base (L2N.CX X.prog X.w) j g fd ps (spD vol0 X.K 2 m)) (cx : Ctx X W k) (hj : j + 1 ≤ k) (c : EqCls X.K C g) (hb : Binds X.K fd ps []) (ha : DF X vol W a fa) (hb' : DF X vol W b fb) : DT X vol W (.Compare a [.NotEq] [b] pos) (tst (two fa fb (eqG C true m))) :=
  ⟨(pt_cmpR (op_neG F c (cx.room.mono hj) hb) ha.run hb'.run (nomark _)).conseq fun σ H Q ⟨F0, ρ, G, E, q⟩ => tD.go G E ((two fa fb (eqG C true m) ρ).mono (fun d => VF vol X.K F0 H (fun v H' => ∃ b, v = .bl b ∧ Q b H') d) _ _ _ (fun d h => h) (fun _ z => z) ((two fa fb (eqG C true m) ρ).mono _ _ _ _ (fun d q1 v F1 H1 x1 r1 => by
      unfold asB at q1
      split at q1
      · cases r1; exact ⟨_, rfl, q1 F1 H1 x1⟩
      · exact q1.elim) (fun _ z => z) q)) fun x q1 v F1 H1 x1 r1 => tD.go x1.g (E.ext x1) (MonoEX G x1 q1 fun _ z => z) fun y q2 w F2 H2 x2 r2 => eqG_go G x1 x2 r1 r2 q2⟩
end
section
variable {C : Addr} {neg : Bool} {m : List D → M Exn D} {y : D}
theorem eqG_o {gs : List (Str × D)} : eqG C neg m (.obj C gs) y = eqC C neg m (.obj C gs) y := rfl
theorem eqG_t {ds : List D} : eqG C neg m (.tup ds) y = eqD neg (.tup ds) y := rfl
theorem eqG_i {v : Int} : eqG C neg m (.int v) y = eqD neg (.int v) y := rfl
theorem eqG_n : eqG C neg m .non y = eqD neg .non y := rfl
theorem eqG_val {A : Cl} {kd : D} {n : Int} : eqG C neg m (valueD A kd n) y = eqC C neg m (valueD A kd n) y := rfl
end

/-! ### own.insert(i, x) -/
def insK (ds : List D) (i : Nat) (ρ : EnvD) (d : D) : D → MS
  | .int n => if ds.length < sizeLine ∧ 0 ≤ n ∧ n < 2 ^ 63 then ret (.nx (ρ.set i (some (.own (.lst (ds.take n.toNat ++ [d] ++ ds.drop n.toNat)))))) else stuck
  | _ => stuck
def insS (i : Nat) (fa fb : EnvD → M Exn D) : EnvD → MS := fun ρ => match ρ[i]? with
  | some (some (.own (.lst ds))) => bnd (lft ρ (fa ρ)) fun k => bnd (lft ρ (fb ρ)) fun d => insK ds i ρ d k
  | _ => stuck
def rIns : V → List V → Hp → VK → Prop := fun x vs H Q => ∃ (l : Addr) (xs : List V) (i : Int) (y : V), x = .ref l ∧ vs = [.int i, y] ∧ H l = some (.lst xs) ∧ xs.length < sizeLine ∧ 0 ≤ i ∧ i < 2 ^ 63 ∧
    Q .non (upd H l (.lst (xs.take i.toNat ++ [y] ++ xs.drop i.toNat)))
section
variable {X : Cx} {vol : Vol} {W : WX} {F0 H0 : Hp} {a b : Expr} {fa fb : EnvD → M Exn D} {pos : Pos} {k n : Nat} {x : Str} {st : Stmt}
theorem ds_insert {npos : Pos} (i : Nat) (g0 : Good vol F0 H0) (hn : PE X (.Name x npos) (tVar i)) (ha : DF X vol W a fa) (hb : DF X vol W b fb)
    (h : ∀ to ta tb, PE X (.Name x npos) to → PE X a ta → PE X b tb → PS X st (tDrop (tBM X.K "list" rIns to (tCons ta (tCons tb tNil))))) : DS X vol W F0 H0 st (insS i fa fb) :=
  ⟨(h _ _ _ hn ha.run hb.run).conseq fun Dn σ H ⟨F, ρ, s, q⟩ => by
    unfold insS at q
    split at q
    · rename_i ds e0
      obtain ⟨p, hp, ow, n0⟩ := s.addr e0
      obtain ⟨zl, vs, hv, rv⟩ := id ow.rep
      refine ⟨_, hp, .inl ⟨rfl, _, .inl (.inl hv)⟩, go_f g0 s q fun kd q1 v F' H' x s' r => go_f g0 s' q1 fun d q2 w F2 H2 x2 s2 r2 => ?_⟩
      unfold insK at q2
      split at q2
      · split at q2
        · rename_i _ n hz
          cases r
          obtain ⟨p', hp', ow', _⟩ := s2.addr e0
          rw [hp] at hp'; cases hp'
          obtain ⟨zl', vs', hv', rv'⟩ := id ow'.rep
          refine ⟨p, vs', n, w, rfl, rfl, hv', by rw [rv'.length]; exact hz.1, hz.2.1, hz.2.2, q2 σ F2 _ (s2.write e0 hp ⟨?_, _, upd_same, ((rv'.take _).append (show RepL X.K F2 [d] [w] from ⟨w, [], rfl, r2, rfl⟩)).append (rv'.drop _)⟩)⟩
          rw [List.length_append, List.length_append, List.length_take, List.length_drop, List.length_singleton]
          omega
        · exact q2.elim
      · exact q2.elim
    · exact q.elim⟩
end
def insE (i : Nat) (fa fb : FE) : FS := insS i fa fb
def in0 (o : Option D) (q : M Exn D) (fb : FE) (i : Nat) (ρ : EnvD) : MS := match o with
  | some (.lst ds) => bnd (lft ρ q) fun k => bnd (lft ρ (fb ρ)) fun d => insK ds i ρ d k
  | _ => stuck
def in1 (q : M Exn D) (fb : FE) (ds : List D) (i : Nat) (ρ : EnvD) : MS := bnd (lft ρ q) fun k => bnd (lft ρ (fb ρ)) fun d => insK ds i ρ d k
def in2 (q : M Exn D) (k : D) (ds : List D) (i : Nat) (ρ : EnvD) : MS := bnd (lft ρ q) fun d => insK ds i ρ d k
section
variable {ρ : EnvD} {fa fb : FE} {g : FS} {d kd : D} {ds : List D} {i : Nat} {v : Int} {k : Out → Prop} {e : Exn × EnvD → Prop} {x : Exn}
theorem insE_ap : insE i fa fb ρ = in0 (ownAt i ρ) (fa ρ) fb i ρ := by
  unfold insE insS
  rw [ownAt_get]
  cases ρ[i]? with
  | none => rfl
  | some o => cases o with
    | none => rfl
    | some s => cases s with
      | im d => rfl
      | vz n => rfl
      | own d => cases d <;> rfl
theorem in0_l {q : M Exn D} : in0 (some (.lst ds)) q fb i ρ = in1 q fb ds i ρ := rfl
theorem in1_ret : in1 (ret kd) fb ds i ρ = in2 (fb ρ) kd ds i ρ := rfl
theorem in1_raise : in1 (raise x) fb ds i ρ = raise (x, ρ) := rfl
theorem in2_ret : in2 (ret d) kd ds i ρ = insK ds i ρ d kd := rfl
theorem in2_raise : in2 (raise x) kd ds i ρ = raise (x, ρ) := rfl
theorem insK_ok (h : ds.length < 1000) (h0 : 0 ≤ v) (h1 : v < 2 ^ 62) : insK ds i ρ d (.int v) = ret (.nx (ρ.set i (some (.own (.lst (ds.take v.toNat ++ [d] ++ ds.drop v.toNat)))))) :=
  if_pos ⟨small1000 (Nat.le_of_lt h), h0, by omega⟩
theorem in1_run {q : M Exn D} : (in1 q fb ds i ρ).run k e = q.run (fun a => (in1 (ret a) fb ds i ρ).run k e) (fun x => (in1 (raise x) fb ds i ρ).run k e) := rfl
theorem in2_run {q : M Exn D} : (in2 q kd ds i ρ).run k e = q.run (fun a => (in2 (ret a) kd ds i ρ).run k e) (fun x => (in2 (raise x) kd ds i ρ).run k e) := rfl
end

/-! ### try: what raises nothing -/
section
variable {X : Cx} {vol : Vol} {W : WX} {F0 H0 : Hp} {pos : Pos} {k : Nat} {body : List Stmt} {h₀ : ExceptHandler} {hs : List ExceptHandler} {g : EnvD → MS}
theorem Ctx.nox (cx : Ctx X W k) : Ctx X.nox (fun _ _ _ _ => False) k := ⟨takes0N, PassesOwn.never, cx.calm, cx.nd, cx.room⟩
theorem ds_tryN (hb : DSs X.nox vol (fun _ _ _ _ => False) F0 H0 body g) : DS X vol W F0 H0 (.Try body (h₀ :: hs) [] [] pos) (fun ρ => noXS (g ρ)) :=
  ⟨(ps_try_thru0 hb.run).conseq fun Dn σ H ⟨F, ρ, s, q⟩ => ⟨F, ρ, s, (g ρ).mono _ _ _ _ (fun _ z => z) (fun _ z => z.elim) q⟩⟩
end
def tryNE (g : FS) : FS := fun ρ => noXS (g ρ)
def ty1 (q : MS) : MS := noXS q
section
variable {ρ : EnvD} {g : FS} {o : Out} {k : Out → Prop} {e : Exn × EnvD → Prop}
theorem tryNE_ap : tryNE g ρ = ty1 (g ρ) := rfl
theorem ty1_ret : ty1 (ret o) = ret o := rfl
theorem ty1_run {q : MS} : (ty1 q).run k e = q.run k (fun _ => False) := rfl
end
end DL

/-! what each def of the text makes of its arguments: printed by emit2.py and union.py -/
namespace DL
open PySem PySem.Spec L2

def c_CAPITAL : D := .str "ABCDEFGHIJKLMNOPQRSTUVWXYZ"
def c_MOST_ROWS : D := .int 10
def c_GREATEST : D := .int 1048575
def c_RULES : D := .tup ((["bar", "drop", "keep", "leave"] : List Str).map D.str)
def c_FARTHEST : D := .int 1099511627775

def m_is_word (A : Cl) : List D → M Exn D := runD 4 (retS (andV (one (getV 0) (isiD "str")) (andV (chn (kc (.int 1)) (call (consD (getV 0) nilA) lenD) leD (getV 2) leD) (call (consD (lcD (fun ρ => bnd ((getV 0) ρ) itemsT) (setS 3) [3] (fun _ => ret true) (two (getV 3) (getV 1) (inS false))) nilA) allD))))

def m_is_number (A : Cl) : List D → M Exn D := runD 3 (retS (andV (one (getV 0) (isiD "int")) (andV (notV (one (getV 0) (isiD "bool"))) (chn (getV 1) (getV 0) leD (getV 2) leD))))

def m_next_bit (A : Cl) : List D → M Exn D := runD 4 (seqS (setI 1 (kc (.int 1))) (seqS (whileS (tst (call (consD (lcD (fun ρ => bnd ((getV 0) ρ) itemsL) (setTupN 2 (setCons (setS 2) (setCons (setS 3) setNil))) [2, 3] (fun _ => ret true) (two (getV 3) (getV 1) geD)) nilA) anyD)) (setI 1 (two (getV 1) (kc (.int 2)) mulD))) (retS (getV 1))))

def m_number_by (A : Cl) : List D → M Exn D := runD 5 (seqS (ifS (tst (two (getV 0) (kc .non) (isNonD false))) (seqS (setI 2 (call (consD (getV 1) nilA) (ofN 1 (m_next_bit A)))) (retS (ifD (tst (two (getV 2) (kc c_GREATEST) leD)) (getV 2) (one (kc (.int 1)) negD)))) nopS) (seqS (ifS (tst (one (getV 0) (isiD "tuple"))) (seqS (setI 3 (call (consD (getV 1) nilA) dictD)) (seqS (ifS (orT (tst (two (getV 0) (fun ρ => bnd (nilA ρ) tupD) (eqD false))) (notT (tst (call (consD (lcD (fun ρ => bnd ((getV 0) ρ) itemsL) (setS 4) [4] (fun _ => ret true) (andV (one (getV 4) (isiD "str")) (two (getV 4) (getV 3) (inDct false)))) nilA) allD)))) (retS (one (kc (.int 1)) negD)) nopS) (seqS (setI 2 (kc (.int 0))) (seqS (forS (fun ρ => bnd ((getV 0) ρ) itemsL) (setS 4) (setI 2 (two (getV 2) (two (getV 3) (getV 4) dgetD) orD))) (retS (getV 2)))))) nopS) (retS (ifD (tst (call (consD (getV 0) (consD (kc (.int 0)) (consD (kc c_GREATEST) nilA))) (ofN 3 (m_is_number A)))) (getV 0) (one (kc (.int 1)) negD)))))

def m_read_rows (A : Cl) : List D → M Exn D := runE 6 (seqE (ifE (orE (notE (tstE (oneE (getV 0) (isiD "list")))) (notE (tstE (chnE (kcE (.int 1)) (toE (consE (getV 0) nilE) lenD) leD (kcE c_MOST_ROWS) leD)))) (raiseFE A.BadRows "at" (kcE .non)) nopE) (seqE (setOE 1 (toE nilE lstD)) (seqE (forE (itsE (consE (getV 0) nilE) enumD) (setTupN 2 (setCons (setS 2) (setCons (setS 3) setNil))) (seqE (ifE (orE (notE (tstE (oneE (getV 3) (isiD "tuple")))) (orE (tstE (twoE (toE (consE (getV 3) nilE) lenD) (kcE (.int 2)) (eqD true))) (notE (tstE (toE (consE (twoE (getV 3) (kcE (.int 0)) ixD) (consE (kcE c_CAPITAL) (consE (kcE (.int 6)) nilE))) (ofE 3 (m_is_word A))))))) (raiseFE A.BadRows "at" (getV 2)) nopE) (seqE (ifE (tstE (twoE (twoE (getV 3) (kcE (.int 0)) ixD) (lcE (itE (getB 1) itemsL) (setTupN 2 (setCons (setS 5) (setCons (setS 4) setNil))) [5, 4] yesE (getV 5)) (inD false))) (raiseFE A.BadRows "at" (getV 2)) nopE) (seqE (setE 4 (toE (consE (twoE (getV 3) (kcE (.int 1)) ixD) (consE (getB 1) nilE)) (flE 2 (m_number_by A)))) (seqE (ifE (tstE (twoE (getV 4) (kcE (.int 0)) ltD)) (raiseFE A.BadRows "at" (getV 2)) nopE) (appE 1 (toE (consE (twoE (getV 3) (kcE (.int 0)) ixD) (consE (getV 4) nilE)) tupD))))))) (frzE 1 (retE (getV 1))))))

def cond_Kind : EnvD → M Exn Bool := (orT (notT (tst (one (getV 2) (isiD "str")))) (tst (two (getV 2) (kc c_RULES) (inD true))))

def m_Kind___init__ (A : Cl) : List D → M Exn D
  | [rows, rest] => bnd (m_read_rows A [rows]) (kindFin A cond_Kind rows rest)
  | _ => stuck

def m_is_bit (A : Cl) : List D → M Exn D := runD 1 (retS (andV (two (getV 0) (kc (.int 0)) gtD) (two (two (getV 0) (two (getV 0) (kc (.int 1)) subD) andD) (kc (.int 0)) (eqD false))))

def m_Kind_marks (A : Cl) : List D → M Exn D := runD 2 (retS (lcD (fun ρ => bnd ((call (consD (one (getV 0) (fldD A.Kind "firsts")) nilA) sortedD) ρ) itemsL) (setS 1) [1] (tst (call (consD (getV 1) nilA) (ofN 1 (m_is_bit A)))) (fun ρ => bnd ((consD (two (one (getV 0) (fldD A.Kind "firsts")) (getV 1) dgetD) (consD (getV 1) nilA)) ρ) tupD)))

def m_Kind___len__ (A : Cl) : List D → M Exn D := runD 1 (retS (call (consD (methD A.Kind "marks" (getV 0) nilA (m_Kind_marks A)) nilA) lenD))

def m_Kind___eq__ (A : Cl) : List D → M Exn D := runD 2 (retS (andV (one (getV 1) (isiC A.Kind)) (andV (two (one (getV 0) (fldD A.Kind "lines")) (one (getV 1) (fldD A.Kind "lines")) (eqD false)) (two (one (getV 0) (fldD A.Kind "rule")) (one (getV 1) (fldD A.Kind "rule")) (eqD false)))))

def m_Kind_number (A : Cl) : List D → M Exn D := runD 2 (seqS (ifS (orT (notT (tst (one (getV 1) (isiD "str")))) (tst (two (getV 1) (one (getV 0) (fldD A.Kind "table")) (inDct true)))) (raiseP A.BadName) nopS) (retS (two (one (getV 0) (fldD A.Kind "table")) (getV 1) dgetD)))

def m_Kind_known (A : Cl) : List D → M Exn D := runD 1 (retS (one (getV 0) (fldD A.Kind "all_bits")))

def m_Kind_rest (A : Cl) : List D → M Exn D := runD 1 (retS (one (getV 0) (fldD A.Kind "rule")))

def m_Value___init__ (A : Cl) : List D → M Exn D := runIE A.Value 3 (seqE (ifRE (notE (tstE (toE (consE (getV 2) (consE (kcE (.int 0)) (consE (kcE c_FARTHEST) nilE))) (ofE 3 (m_is_number A))))) (raisePE A.BadNumber)) (seqE (ifRE (andE (tstE (twoE (methE A.Kind "rest" (getV 1) nilE (m_Kind_rest A)) (kcE (.str "keep")) (eqD true))) (tstE (twoE (twoE (getV 2) (methE A.Kind "known" (getV 1) nilE (m_Kind_known A)) andD) (getV 2) (eqD true)))) (raisePE A.BadNumber)) (seqE (attE A.Value "own" (getV 1)) (attE A.Value "own_bits" (getV 2)))))

def m_Value_marks (A : Cl) : List D → M Exn D := runE 3 (retE (lcE (itE (methE A.Kind "marks" (oneE (getV 0) (fldD A.Value "own")) nilE (m_Kind_marks A)) itemsL) (setTupN 2 (setCons (setS 1) (setCons (setS 2) setNil))) [1, 2] (tstE (twoE (twoE (oneE (getV 0) (fldD A.Value "own_bits")) (getV 2) andD) (kcE (.int 0)) (eqD true))) (getV 1)))

def m_Value___len__ (A : Cl) : List D → M Exn D := runE 1 (retE (toE (consE (methE A.Value "marks" (getV 0) nilE (m_Value_marks A)) nilE) lenD))

def m_Value___eq__ (A : Cl) : List D → M Exn D := runE 2 (retE (andVE (oneE (getV 1) (isiC A.Value)) (andVE (twoE (oneE (getV 0) (fldD A.Value "own")) (oneE (getV 1) (fldD A.Value "own")) (eqC A.Kind false (m_Kind___eq__ A))) (twoE (oneE (getV 0) (fldD A.Value "own_bits")) (oneE (getV 1) (fldD A.Value "own_bits")) (eqD false)))))

def m_Value_kind (A : Cl) : List D → M Exn D := runE 1 (retE (oneE (getV 0) (fldD A.Value "own")))

def m_Value_number (A : Cl) : List D → M Exn D := runE 1 (retE (oneE (getV 0) (fldD A.Value "own_bits")))

def m_Kind_mark_bits (A : Cl) : List D → M Exn D := runE 3 (retE (toE (consE (lcE (itE (methE A.Kind "marks" (getV 0) nilE (m_Kind_marks A)) itemsL) (setTupN 2 (setCons (setS 1) (setCons (setS 2) setNil))) [1, 2] yesE (getV 2)) nilE) sumD))

def m_without_bits (A : Cl) : List D → M Exn D := runD 2 (retS (two (getV 0) (two (getV 0) (getV 1) andD) subD))

def m_Value_rest (A : Cl) : List D → M Exn D := runE 1 (retE (toE (consE (oneE (getV 0) (fldD A.Value "own_bits")) (consE (methE A.Kind "mark_bits" (oneE (getV 0) (fldD A.Value "own")) nilE (m_Kind_mark_bits A)) nilE)) (ofE 2 (m_without_bits A))))

def m_made (A : Cl) : List D → M Exn D := runE 6 (seqE (ifE (notE (tstE (toE (consE (getV 1) (consE (twoE (oneE (kcE c_FARTHEST) negD) (kcE (.int 1)) subD) (consE (kcE c_FARTHEST) nilE))) (ofE 3 (m_is_number A))))) (raisePE A.BadNumber) nopE) (seqE (parE 4 5 .im .im (methE A.Kind "known" (getV 0) nilE (m_Kind_known A)) (methE A.Kind "rest" (getV 0) nilE (m_Kind_rest A))) (seqE (setE 2 (ifDE (tstE (twoE (getV 1) (kcE (.int 0)) geD)) (getV 1) (twoE (oneE (getV 1) negD) (kcE (.int 1)) subD))) (seqE (setE 3 (toE (consE (getV 2) (consE (getV 4) nilE)) (ofE 2 (m_without_bits A)))) (seqE (ifE (andE (tstE (twoE (getV 3) (kcE (.int 0)) gtD)) (tstE (twoE (getV 5) (kcE (.str "bar")) (eqD false)))) (raiseFE A.BadRest "bits" (getV 3)) nopE) (seqE (ifE (tstE (twoE (getV 1) (kcE (.int 0)) ltD)) (retE (toE (consE (getV 0) (consE (toE (consE (getV 4) (consE (getV 2) nilE)) (ofE 2 (m_without_bits A))) nilE)) (ofE 2 (m_Value___init__ A)))) nopE) (seqE (ifE (andE (tstE (twoE (getV 3) (kcE (.int 0)) gtD)) (tstE (twoE (getV 5) (kcE (.str "leave")) (eqD false)))) (retE (getV 1)) nopE) (retE (toE (consE (getV 0) (consE (ifDE (tstE (twoE (getV 5) (kcE (.str "keep")) (eqD false))) (getV 1) (twoE (getV 1) (getV 4) andD)) nilE)) (ofE 2 (m_Value___init__ A)))))))))))

def m__law_rule_of (A : Cl) : List D → M Exn D := runZ 1 (retS (two (fun ρ => bnd ((consD (kc (.str "bar")) (consD (kc (.str "drop")) (consD (kc (.str "keep")) (consD (kc (.str "leave")) nilA)))) ρ) lstD) (callZ 0 (consD (kc (.int 4)) nilA) (ofN 1 m_law_roll)) ixD))

def m__law_lines (A : Cl) : List D → M Exn D := runZ 13 (seqS (par3S 3 4 5 .im .own .own (fun ρ => bnd ((consD (kc (.str "A")) (consD (kc (.str "B")) (consD (kc (.str "CD")) (consD (kc (.str "EFG")) (consD (kc (.str "H")) (consD (kc (.str "IJKLMN")) (consD (kc (.str "O")) (consD (kc (.str "P")) (consD (kc (.str "Q")) (consD (kc (.str "R")) nilA)))))))))) ρ) lstD) (fun ρ => bnd (nilA ρ) lstD) (fun ρ => bnd (nilA ρ) lstD)) (seqS (forS (fun ρ => bnd ((consD (two (kc (.int 1)) (callZ 0 (consD (getV 1) nilA) (ofN 1 m_law_roll)) addD) nilA) ρ) range1D) (setS 2) (seqS (setI 6 (two (lcD (fun ρ => bnd ((getB 5) ρ) itemsL) (setTupN 2 (setCons (setS 10) (setCons (setS 9) setNil))) [10, 9] (fun _ => ret true) (getV 9)) (kc (.int 0)) maxD)) (seqS (setI 7 (callZ 0 (consD (kc (.int 8)) nilA) (ofN 1 m_law_roll))) (seqS (parS 8 9 .im .im (kc .non) (kc (.int 1))) (seqS (whileS (tst (two (getV 9) (getV 6) leD)) (setI 9 (two (getV 9) (kc (.int 2)) mulD))) (seqS (ifS (orT (tst (two (getV 7) (kc (.int 5)) (eqD false))) (tst (two (getV 9) (two (kc (.int 2)) (kc (.int 20)) powD) geD))) (seqS (setI 8 (two (fun ρ => bnd ((consD (two (kc (.int 1)) (callZ 0 (consD (kc (.int 8)) nilA) (ofN 1 m_law_roll)) shlD) (consD (callZ 0 (consD (kc (.int 64)) nilA) (ofN 1 m_law_roll)) (consD (two (kc (.int 1)) (callZ 0 (consD (kc (.int 20)) nilA) (ofN 1 m_law_roll)) shlD) (consD (kc (.int 0)) nilA)))) ρ) lstD) (callZ 0 (consD (kc (.int 4)) nilA) (ofN 1 m_law_roll)) ixD)) (setI 9 (getV 8))) nopS) (seqS (ifS (andT (tst (two (getV 7) (kc (.int 5)) gtD)) (tst (two (getB 5) (fun ρ => bnd (nilA ρ) lstD) (eqD true)))) (seqS (setI 8 (call (consD (lcD (fun ρ => bnd ((consD (two (kc (.int 1)) (callZ 0 (consD (kc (.int 3)) nilA) (ofN 1 m_law_roll)) addD) nilA) ρ) range1D) (setS 12) [12] (fun _ => ret true) (two (two (getB 5) (callZ 0 (consD (call (consD (getB 5) nilA) lenD) nilA) (ofN 1 m_law_roll)) ixD) (kc (.int 0)) ixD)) nilA) tupleD)) (seqS (setI 9 (kc (.int 0))) (forPin 5 1 (setTupN 2 (setCons (setS 10) (setCons (setS 11) setNil))) (setI 9 (two (getV 9) (ifD (tst (two (getV 10) (getV 8) (inD false))) (getV 11) (kc (.int 0))) orD))))) nopS) (seqS (appS 4 (fun ρ => bnd ((consD (two (getV 3) (getV 2) ixD) (consD (getV 8) nilA)) ρ) tupD)) (appS 5 (fun ρ => bnd ((consD (two (getV 3) (getV 2) ixD) (consD (getV 9) nilA)) ρ) tupD)))))))))) (fun ρ => (fun ρ => (retS (fun ρ => bnd ((consD (getV 4) (consD (getV 5) nilA)) ρ) tupD)) (frz 5 ρ)) (frz 4 ρ))))

def m__law_bits_of (A : Cl) : List D → M Exn D := runD 2 (retS (lcD (fun ρ => bnd ((consD (kc (.int 42)) nilA) ρ) range1D) (setS 1) [1] (tst (two (two (two (getV 0) (getV 1) shrD) (kc (.int 1)) andD) (kc (.int 1)) (eqD false))) (two (kc (.int 1)) (getV 1) shlD)))

def m__law_table_of (A : Cl) : List D → M Exn D := runD 6 (seqS (parS 2 3 .im .own (kc (.int 0)) (kc (.dct []))) (seqS (forS (fun ρ => bnd ((getV 0) ρ) itemsL) (setTupN 2 (setCons (setS 4) (setCons (setS 5) setNil))) (seqS (setI 2 (two (getV 2) (getV 5) orD)) (ifS (tst (two (getV 5) (getB 3) (inDct true))) (putS 3 (getV 5) (getV 4)) nopS))) (seqS (setI 1 (lcD (fun ρ => bnd ((call (consD (getB 3) nilA) sortedD) ρ) itemsL) (setS 5) [5] (tst (two (call (consD (call (consD (getV 5) nilA) (ofN 1 (m__law_bits_of A))) nilA) lenD) (kc (.int 1)) (eqD false))) (fun ρ => bnd ((consD (two (getB 3) (getV 5) dgetD) (consD (getV 5) nilA)) ρ) tupD))) (fun ρ => (retS (dispD (consP (.inr "known") (getV 2) (consP (.inr "firsts") (getV 3) (consP (.inr "marks") (getV 1) (consP (.inr "bits") (call (consD (lcD (fun ρ => bnd ((getV 1) ρ) itemsL) (setTupN 2 (setCons (setS 4) (setCons (setS 5) setNil))) [4, 5] (fun _ => ret true) (getV 5)) nilA) sumD) nilP)))))) (frz 3 ρ)))))

def m__law_number_in (A : Cl) : List D → M Exn D := runZE 4 (seqE (setE 3 (twoE (callZE 0 (consE (twoE (kcE (.int 2)) (kcE (.int 21)) powD) nilE) (ofE 1 m_law_roll)) (getV 1) andD)) (seqE (ifE (andE (tstE (twoE (getV 2) (kcE (.str "keep")) (eqD false))) (tstE (twoE (callZE 0 (consE (kcE (.int 3)) nilE) (ofE 1 m_law_roll)) (kcE (.int 0)) (eqD false)))) (setE 3 (twoE (getV 3) (callZE 0 (consE (kcE (.int 256)) nilE) (ofE 1 m_law_roll)) orD)) nopE) (retE (getV 3))))

def m__law_made (A : Cl) : List D → M Exn D := runE 5 (seqE (setE 3 (ifDE (tstE (twoE (getV 2) (kcE (.int 0)) geD)) (getV 2) (twoE (twoE (kcE (.int 0)) (getV 2) subD) (kcE (.int 1)) subD))) (seqE (setE 4 (twoE (getV 3) (twoE (getV 3) (twoE (getV 0) (kcE (.str "known")) dgetD) andD) subD)) (seqE (ifE (andE (tstE (twoE (getV 4) (kcE (.int 0)) gtD)) (tstE (twoE (getV 1) (kcE (.str "bar")) (eqD false)))) (retE (toE (consE (kcE (.str "refused")) (consE (kcE (.str "BadRest")) (consE (getV 4) nilE))) tupD)) nopE) (seqE (ifE (tstE (twoE (getV 2) (kcE (.int 0)) ltD)) (retE (twoE (twoE (getV 0) (kcE (.str "known")) dgetD) (twoE (twoE (getV 0) (kcE (.str "known")) dgetD) (getV 3) andD) subD)) nopE) (seqE (ifE (andE (tstE (twoE (getV 4) (kcE (.int 0)) gtD)) (tstE (twoE (getV 1) (kcE (.str "leave")) (eqD false)))) (retE (toE (consE (kcE (.str "left")) (consE (getV 2) nilE)) tupD)) nopE) (retE (ifDE (tstE (twoE (getV 1) (kcE (.str "keep")) (eqD false))) (getV 2) (twoE (getV 2) (twoE (getV 0) (kcE (.str "known")) dgetD) andD))))))))

def m__law_shown (A : Cl) : List D → M Exn D := runE 1 (seqE (ifE (tstE (oneE (getV 0) (isiC A.Value))) (retE (methE A.Value "number" (getV 0) nilE (m_Value_number A))) nopE) (retE (ifDE (tstE (oneE (getV 0) (isiD "tuple"))) (getV 0) (toE (consE (kcE (.str "left")) (consE (getV 0) nilE)) tupD))))

def m_number_of (A : Cl) : List D → M Exn D := runE 4 (seqE (ifE (notE (tstE (oneE (getV 1) (isi2D "list" "tuple")))) (raisePE A.BadName) nopE) (seqE (setE 2 (kcE (.int 0))) (seqE (forE (itE (getV 1) itemsL) (setS 3) (setE 2 (twoE (getV 2) (methE A.Kind "number" (getV 0) (consE (getV 3) nilE) (ofE 2 (m_Kind_number A))) orD))) (retE (getV 2)))))

def m_value_of (A : Cl) : List D → M Exn D := runE 2 (retE (toE (consE (getV 0) (consE (toE (consE (getV 0) (consE (getV 1) nilE)) (ofE 2 (m_number_of A))) nilE)) (ofE 2 (m_Value___init__ A))))

def m_turned (A : Cl) : List D → M Exn D := runE 1 (retE (toE (consE (methE A.Value "kind" (getV 0) nilE (m_Value_kind A)) (consE (toE (consE (methE A.Kind "known" (methE A.Value "kind" (getV 0) nilE (m_Value_kind A)) nilE (m_Kind_known A)) (consE (methE A.Value "number" (getV 0) nilE (m_Value_number A)) nilE)) (ofE 2 (m_without_bits A))) nilE)) (ofE 2 (m_Value___init__ A))))

def m_Kind_names (A : Cl) : List D → M Exn D := runD 3 (retS (lcD (fun ρ => bnd ((one (getV 0) (fldD A.Kind "lines")) ρ) itemsL) (setTupN 2 (setCons (setS 1) (setCons (setS 2) setNil))) [1, 2] (tst (two (two (one (getV 0) (fldD A.Kind "firsts")) (getV 2) dgetD) (getV 1) (eqD false))) (getV 1)))

def m_by_names (A : Cl) : List D → M Exn D := runE 5 (seqE (setE 1 (methE A.Value "kind" (getV 0) nilE (m_Value_kind A))) (seqE (setE 2 (lcE (itE (methE A.Kind "names" (getV 1) nilE (m_Kind_names A)) itemsL) (setS 3) [3] yesE (toE (consE (getV 3) (consE (methE A.Kind "number" (getV 1) (consE (getV 3) nilE) (ofE 2 (m_Kind_number A))) nilE)) tupD))) (retE (lcE (itE (getV 2) itemsL) (setTupN 2 (setCons (setS 3) (setCons (setS 4) setNil))) [3, 4] yesE (toE (consE (getV 3) (consE (andVE (twoE (getV 4) (kcE (.int 0)) gtD) (twoE (twoE (methE A.Value "number" (getV 0) nilE (m_Value_number A)) (getV 4) andD) (getV 4) (eqD false))) nilE)) tupD)))))

def m_Kind_aliases (A : Cl) : List D → M Exn D := runE 3 (retE (lcE (itE (oneE (getV 0) (fldD A.Kind "lines")) itemsL) (setTupN 2 (setCons (setS 1) (setCons (setS 2) setNil))) [1, 2] (tstE (twoE (twoE (oneE (getV 0) (fldD A.Kind "firsts")) (getV 2) dgetD) (getV 1) (eqD true))) (toE (consE (getV 1) (consE (twoE (oneE (getV 0) (fldD A.Kind "firsts")) (getV 2) dgetD) nilE)) tupD)))

def m_first_alias (A : Cl) : List D → M Exn D := runE 2 (seqE (setE 1 (methE A.Kind "aliases" (getV 0) nilE (m_Kind_aliases A))) (retE (ifDE (tstE (twoE (getV 1) (toE nilE lstD) (eqD true))) (twoE (twoE (getV 1) (kcE (.int 0)) ixD) (kcE (.int 0)) ixD) (kcE .non))))

def m_first_gap (A : Cl) : List D → M Exn D := runE 2 (seqE (setE 1 (kcE (.int 1))) (seqE (whileE (tstE (twoE (getV 1) (methE A.Kind "known" (getV 0) nilE (m_Kind_known A)) leD)) (seqE (ifE (tstE (twoE (twoE (methE A.Kind "mark_bits" (getV 0) nilE (m_Kind_mark_bits A)) (getV 1) andD) (kcE (.int 0)) (eqD false))) (retE (getV 1)) nopE) (setE 1 (twoE (getV 1) (kcE (.int 2)) mulD)))) (retE (kcE .non))))

def m_bits_of (A : Cl) : List D → M Exn D := runE 3 (seqE (parE 1 2 .own .im (toE nilE lstD) (kcE (.int 1))) (seqE (whileE (tstE (twoE (getV 2) (getV 0) leD)) (seqE (ifE (tstE (twoE (twoE (getV 0) (getV 2) andD) (kcE (.int 0)) (eqD true))) (appE 1 (getV 2)) nopE) (setE 2 (twoE (getV 2) (kcE (.int 2)) mulD)))) (frzE 1 (retE (getV 1)))))

def m_Kind_rows (A : Cl) : List D → M Exn D := runE 1 (retE (toE (consE (oneE (getV 0) (fldD A.Kind "lines")) nilE) listD))

def m_first_unnamed (A : Cl) : List D → M Exn D := runE 5 (seqE (forE (itE (methE A.Kind "rows" (getV 0) nilE (m_Kind_rows A)) itemsL) (setTupN 2 (setCons (setS 1) (setCons (setS 2) setNil))) (seqE (setE 3 (toE (consE (lcE (itE (toE (consE (getV 2) nilE) (ofE 1 (m_bits_of A))) itemsL) (setS 4) [4] (tstE (twoE (twoE (methE A.Kind "mark_bits" (getV 0) nilE (m_Kind_mark_bits A)) (getV 4) andD) (kcE (.int 0)) (eqD false))) (getV 4)) nilE) sumD)) (ifE (tstE (twoE (getV 3) (kcE (.int 0)) gtD)) (retE (toE (consE (getV 1) (consE (getV 3) nilE)) tupD)) nopE))) (retE (kcE .non)))
end DL

namespace DL
open PySem PySem.Spec L2
theorem m_is_bit_eq (A : Cl) (n : Int) : m_is_bit A [.int n] = ret (D.bl (isBit n)) := by
  show bnd (mapE Prod.fst (bnd (lft _ (bnd (ret (decide (0 < n))) fun c => if c = true then eqD false (.int (Builtin.bitAnd n (n - 1))) (.int 0) else ret (D.bl false))) _)) _ = _
  unfold isBit
  by_cases h : 0 < n
  · rw [decide_eq_true h, bnd_ret, if_pos rfl, eqD_int]
    rfl
  · rw [decide_eq_false h, bnd_ret, if_neg (by simp)]
    rfl
section
variable (A : Cl) (due : Due) (r : Str)
theorem m_known_eq : m_Kind_known A [kindD A.Kind due r] = ret (D.int (orAll due)) := by
  show bnd (mapE Prod.fst (bnd (lft _ (fldD A.Kind "all_bits" (kindD A.Kind due r))) _)) _ = _
  rw [kind_all]
theorem meth_kind {nm : Str} {fo : EnvD → M Exn D} {m : List D → M Exn D} {ρ : EnvD} (h : fo ρ = ret (kindD A.Kind due r)) (hn : ([("lines", D.lst (dueD due)), ("rule", D.str r), ("table", D.dct (tabD due)), ("firsts", D.dct (firstsD due)), ("all_bits", D.int (orAll due))] : List (Str × D)).lookup nm = none) : methD A.Kind nm fo nilA m ρ = m [kindD A.Kind due r] := by
  unfold methD
  rw [h, bnd_ret]
  show (if A.Kind = A.Kind ∧ _ then _ else _) = _
  rw [if_pos ⟨rfl, by rw [hn]; rfl⟩]
  rfl
variable {due}
theorem m_marks_eq (hl : due.length < 64) : m_Kind_marks A [kindD A.Kind due r] = ret (D.lst (dueD (marksL isBit due))) := by
  show bnd (mapE Prod.fst (bnd (lft _ (lcD _ _ _ _ _ [some (.im (kindD A.Kind due r)), none])) _)) _ = _
  rw [lcD_eq (xs := srt (keysOf due)) D.int isBit (fun n => .tup [.str (firstOf due n), .int n])]
  · show ret (D.lst _) = _
    unfold marksL dueD
    rw [List.map_map]
    rfl
  · show bnd (bnd (bnd (bnd (fldD A.Kind "firsts" (kindD A.Kind due r)) fun d => ret [d]) sortedD) itemsL) ret = _
    rw [kind_firsts, bnd_ret, sorted_firsts hl]; rfl
  · intro n hn
    obtain ⟨p, hp, rfl⟩ := keysOf_mem (srt_mem.mp hn)
    refine ⟨[some (.im (kindD A.Kind due r)), some (.im (.int p.2))], rfl, ?_, fun _ => ?_⟩
    · show bnd (ofN 1 (m_is_bit A) [.int p.2]) asB = _
      show bnd (m_is_bit A [.int p.2]) asB = _
      rw [m_is_bit_eq]; rfl
    · show bnd (bnd (bnd (fldD A.Kind "firsts" (kindD A.Kind due r)) fun x => dgetD x (.int p.2)) fun x => ret [x, .int p.2]) tupD = _
      rw [kind_firsts, bnd_ret, dget_first hp, bnd_ret, tupD2]
theorem m_len_eq (hl : due.length < 64) : m_Kind___len__ A [kindD A.Kind due r] = ret (D.int ((marksL isBit due).length : Nat)) := by
  show bnd (mapE Prod.fst (bnd (lft _ (bnd (bnd (methD A.Kind "marks" (getV 0) nilA (m_Kind_marks A) [some (.im (kindD A.Kind due r))]) fun d => ret [d]) lenD)) _)) _ = _
  rw [meth_kind A due r rfl rfl, m_marks_eq A r hl]
  show ret (D.int ((dueD (marksL isBit due)).length : Nat)) = _
  unfold dueD; rw [List.length_map]
def markBits (due : Due) : Int := ((marksL isBit due).map (·.2)).sum
/-- the first alias -/
def firstAlias (due : Due) : D := match aliasesL due with
  | [] => .non
  | p :: _ => .str p.1
theorem lay_aliases (hn : NamesOk due) : ∀ d ∈ (aliasesL due).map fun p => D.tup [.str p.1, .str (firstOf due p.2)], Lay 1 d := by
  intro d hd
  obtain ⟨p, hp, rfl⟩ := List.mem_map.mp hd
  have hp : p ∈ due := (List.mem_filter.mp hp).1
  refine lay_tup fun x hx => ?_
  rcases List.mem_cons.mp hx with rfl | hx
  · exact lay_str (W11_ok _ (hn _ hp))
  · rw [List.mem_singleton] at hx; subst hx; exact lay_str (firstOf_strOk hn hp)
theorem ix0 (d : D) (ds : List D) : ixD (.lst (d :: ds)) (.int 0) = ret d := by
  show (match atI (d :: ds) 0 with
    | some d => ret d
    | none => stuck) = _
  rw [show atI (d :: ds) 0 = some d from atI_nat (j := 0) rfl]
end
end DL

namespace DL
open PySem PySem.Spec L2
def bitsL (n k : Nat) : List D := (bitsOf n k).map bit2
theorem bitsL_len (n k : Nat) : (bitsL n k).length ≤ k := by
  unfold bitsL bitsOf
  rw [List.length_map]
  exact Nat.le_trans (List.length_filter_le _ _) (by simp)
theorem sizeLine_big : 100000 ≤ sizeLine := by decide
end DL

namespace DL
open PySem PySem.Spec L2
/-- a loop that may return -/
theorem forM_ret {b : D → EnvD → Option EnvD} {g : EnvD → MS} {α : Type} (δ : α → D) (P : EnvD → Prop) (t : α → Option D) : ∀ (xs : List α),
    (∀ ρ, P ρ → ∀ x ∈ xs, ∃ ρ1, b (δ x) ρ = some ρ1 ∧ ∃ ρ2, P ρ2 ∧ g ρ1 = match t x with
      | none => ret (.nx ρ2)
      | some d => ret (.rt d)) → ∀ ρ, P ρ → ∃ ρ', P ρ' ∧ forM b g (xs.map δ) ρ = match xs.findSome? t with
      | none => ret (.nx ρ')
      | some d => ret (.rt d)
  | [], _, ρ, h => ⟨ρ, h, rfl⟩
  | x :: xs, hs, ρ, h => by
    obtain ⟨ρ1, e1, ρ2, h2, e2⟩ := hs ρ h x (List.mem_cons_self ..)
    rw [List.map_cons]
    unfold forM
    rw [e1]
    show ∃ ρ', P ρ' ∧ bnd (g ρ1) _ = _
    rw [e2, List.findSome?_cons]
    cases ht : t x with
    | none =>
      obtain ⟨ρ', h3, e3⟩ := forM_ret δ P t xs (fun ρ h y hy => hs ρ h y (List.mem_cons_of_mem _ hy)) ρ2 h2
      exact ⟨ρ', h3, e3⟩
    | some d => exact ⟨ρ2, h2, rfl⟩
theorem num_nat {due : Due} (h : NumOk due) {p : Str × Int} (hp : p ∈ due) : ∃ n : Nat, p.2 = n ∧ n < 2 ^ 20 := by
  obtain ⟨h1, h2⟩ := h p hp
  exact ⟨p.2.toNat, by omega, by omega⟩
theorem markBits_nat {due : Due} (h : NumOk due) : ∃ m : Nat, markBits due = m := by
  have key : ∀ l : List Int, (∀ x ∈ l, 0 ≤ x) → ∃ m : Nat, l.sum = m := by
    intro l
    induction l with
    | nil => intro _; exact ⟨0, rfl⟩
    | cons x r ih =>
      intro hx
      obtain ⟨m, e⟩ := ih fun y hy => hx y (List.mem_cons_of_mem _ hy)
      have := hx x (List.mem_cons_self ..)
      exact ⟨x.toNat + m, by rw [List.sum_cons, e]; omega⟩
  refine key _ fun x hx => ?_
  obtain ⟨q, hq, rfl⟩ := List.mem_map.mp hx
  unfold marksL at hq
  obtain ⟨n, hn, rfl⟩ := List.mem_map.mp hq
  obtain ⟨p, hp, e⟩ := keysOf_mem (srt_mem.mp (List.mem_filter.mp hn).1)
  have := (h p hp).1
  show 0 ≤ n
  omega
theorem unnamed_sum {n m : Nat} (hn : n < 2 ^ 20) : (((bitsOf n 20).filter fun i => decide (Builtin.bitAnd (m : Int) (2 ^ i) = 0)).map fun i => ((2 : Int) ^ i)).sum = (n : Int) - Builtin.bitAnd (n : Int) (m : Int) := by
  unfold bitsOf
  rw [List.filter_filter]
  have e : (fun a => decide (Builtin.bitAnd (m : Int) (2 ^ a) = 0) && n.testBit a) = fun i => n.testBit i && !m.testBit i := by
    funext a
    rw [Bool.and_comm]
    congr 1
    cases h : m.testBit a
    · rw [decide_eq_true ((and_bit m a).mpr h)]; rfl
    · rw [decide_eq_false (by rw [and_bit, h]; simp)]; rfl
  rw [e, sum_range_filter, bitAnd_nat]
  have h1 := sumBits_and n m 20
  have h2 : n &&& m ≤ n := Nat.and_le_left
  rw [Nat.mod_eq_of_lt (Nat.lt_of_le_of_lt h2 hn), Nat.mod_eq_of_lt hn] at h1
  omega
section
variable (A : Cl) {due : Due} (r : Str)
/-! ### the law's own table -/
theorem m_law_bits_of_eq {n : Nat} : m__law_bits_of A [.int n] = ret (.lst (bitsL n 42)) := by
  show bnd (mapE Prod.fst (bnd (lft _ (lcD _ _ _ _ _ [some (.im (.int n)), none])) _)) _ = _
  rw [lcD_eq (xs := List.range 42) (fun i : Nat => D.int (0 + (i : Nat))) (fun i => n.testBit i) bit2]
  · rfl
  · show rangeD 0 42 = _
    unfold rangeD
    rw [if_pos (Nat.le_trans (by decide) sizeLine_big)]
  · intro i hi
    refine ⟨[some (.im (.int n)), some (.im (.int (0 + (i : Nat))))], rfl, ?_, fun _ => ?_⟩
    · show bnd (bnd (bnd (shrD (.int n) (.int (0 + (i : Nat)))) fun x => andD x (.int 1)) fun x => eqD false x (.int 1)) asB = _
      have e1 : shrD (.int n) (.int (0 + (i : Nat))) = ret (D.int ((n / 2 ^ i : Nat) : Int)) := by
        have h1 : shrD (.int n) (.int (0 + (i : Nat))) = if (0 : Int) ≤ 0 + (i : Nat) then ret (D.int ((n : Int) / 2 ^ (0 + ((i : Nat) : Int)).toNat)) else stuck := rfl
        rw [h1, if_pos (by omega)]
        have : (0 + ((i : Nat) : Int)).toNat = i := by omega
        rw [this, pow_int]; rfl
      rw [e1, bnd_ret]
      show bnd (eqD false (.int (Builtin.bitAnd ((n / 2 ^ i : Nat) : Int) ((1 : Nat) : Int))) (.int 1)) asB = _
      rw [bitAnd_nat, eqD_int, Nat.and_one_is_mod]
      show ret (decide (((n / 2 ^ i % 2 : Nat) : Int) = 1)) = _
      rw [Nat.testBit_eq_decide_div_mod_eq]
      exact ret_inj (decide_eq_decide.mpr (by omega))
    · show shlD (.int 1) (.int (0 + (i : Nat))) = _
      have hi : i < 42 := List.mem_range.mp hi
      have h1 : shlD (.int 1) (.int (0 + (i : Nat))) = if CPow 1 (0 + (i : Nat)) then ret (D.int (1 * 2 ^ (0 + ((i : Nat) : Int)).toNat)) else stuck := rfl
      rw [h1, if_pos ⟨by omega, by omega, by decide⟩]
      have : (0 + ((i : Nat) : Int)).toNat = i := by omega
      rw [this, Int.one_mul]; rfl
end
end DL

namespace DL
open PySem PySem.Spec L2
/-- a loop that goes through -/
theorem forM_fold {b : D → EnvD → Option EnvD} {g : EnvD → MS} {α σ : Type} (δ : α → D) (step : σ → α → σ) (P : List α → σ → EnvD → Prop)
    (hs : ∀ x xs s ρ, P (x :: xs) s ρ → ∃ ρ1, b (δ x) ρ = some ρ1 ∧ ∃ ρ2, P xs (step s x) ρ2 ∧ g ρ1 = ret (.nx ρ2)) : ∀ (xs : List α) s ρ, P xs s ρ → ∃ ρ', P [] (xs.foldl step s) ρ' ∧ forM b g (xs.map δ) ρ = ret (.nx ρ')
  | [], s, ρ, h => ⟨ρ, h, rfl⟩
  | x :: xs, s, ρ, h => by
    obtain ⟨ρ1, e1, ρ2, h2, e2⟩ := hs x xs s ρ h
    rw [List.map_cons]
    unfold forM
    rw [e1]
    show ∃ ρ', P _ _ ρ' ∧ bnd (g ρ1) _ = _
    rw [e2]
    exact forM_fold δ step P hs xs _ ρ2 h2
theorem put_eq {i : Nat} {fk fv : EnvD → M Exn D} {ρ : EnvD} {kvs : List (Key × D)} {d kd : D} {key : Key} (h : ρ[i]? = some (some (.own (.dct kvs)))) (hv : fv ρ = ret d) (hk : fk ρ = ret kd) (hkey : keyD kd = some key) (hl : kvs.length < sizeLine) :
    putS i fk fv ρ = ret (.nx (ρ.set i (some (.own (.dct (putD kvs key d)))))) := by
  unfold putS
  rw [h]
  show bnd (lft ρ (fv ρ)) (fun d => bnd (lft ρ (fk ρ)) fun kd => match keyD kd with
    | some key => if kvs.length < sizeLine then ret (Out.nx (ρ.set i (some (.own (.dct (putD kvs key d)))))) else stuck
    | none => stuck) = _
  rw [hv, hk, lft_ret, bnd_ret, lft_ret, bnd_ret, hkey]
  show (if kvs.length < sizeLine then ret (Out.nx (ρ.set i (some (.own (.dct (putD kvs key d)))))) else stuck) = _
  rw [if_pos hl]
theorem disp4 {k1 k2 k3 k4 : Key} {f1 f2 f3 f4 : EnvD → M Exn D} {ρ : EnvD} {d1 d2 d3 d4 : D} (h1 : f1 ρ = ret d1) (h2 : f2 ρ = ret d2) (h3 : f3 ρ = ret d3) (h4 : f4 ρ = ret d4) :
    dispD (consP k1 f1 (consP k2 f2 (consP k3 f3 (consP k4 f4 nilP)))) ρ = ret (.dct (mergeD [] [(k1, d1), (k2, d2), (k3, d3), (k4, d4)])) := by
  show bnd (bnd (f1 ρ) fun d => bnd (bnd (f2 ρ) fun d => bnd (bnd (f3 ρ) fun d => bnd (bnd (f4 ρ) fun d => bnd (ret []) fun r => ret ((k4, d) :: r)) fun r => ret ((k3, d) :: r)) fun r => ret ((k2, d) :: r)) fun r => ret ((k1, d) :: r)) _ = _
  rw [h1, h2, h3, h4]
  rfl
section
variable (A : Cl) {due : Due}
def isOne (n : Int) : Bool := decide ((bitsOf n.toNat 42).length = 1)
def lawBits (due : Due) : Int := ((marksL isOne due).map (·.2)).sum
def tableD (due : Due) : D := .dct [(.inr "known", .int (orAll due)), (.inr "firsts", .dct (firstsD due)), (.inr "marks", .lst (dueD (marksL isOne due))), (.inr "bits", .int (lawBits due))]
theorem m_law_table_of_eq (hl : due.length < 64) (hnum : NumOk due) : m__law_table_of A [.lst (dueD due)] = ret (tableD due) := by
  show bnd (mapE Prod.fst (bnd (forM _ _ (due.map pairD) [some (.im (.lst (dueD due))), none, some (.im (.int 0)), some (.own (.dct [])), none, none]) _)) _ = _
  obtain ⟨ρ', ⟨_, a, c, rfl⟩, e⟩ := forM_fold (σ := Int × List (Key × D)) (b := setTupN 2 (setCons (setS 4) (setCons (setS 5) setNil)))
    (g := seqS (setI 2 (two (getV 2) (getV 5) orD)) (ifS (tst (two (getV 5) (getB 3) (inDct true))) (putS 3 (getV 5) (getV 4)) nopS))
    pairD (fun s p => (Builtin.bitOr s.1 p.2, step1 s.2 p)) (fun xs s ρ => s.2.length + xs.length ≤ 64 ∧ ∃ a c, ρ = [some (.im (.lst (dueD due))), none, some (.im (.int s.1)), some (.own (.dct s.2)), a, c]) (by
      rintro p xs ⟨s1, s2⟩ ρ ⟨hz, a, c, rfl⟩
      refine ⟨[some (.im (.lst (dueD due))), none, some (.im (.int s1)), some (.own (.dct s2)), some (.im (.str p.1)), some (.im (.int p.2))], rfl, [some (.im (.lst (dueD due))), none, some (.im (.int (Builtin.bitOr s1 p.2))), some (.own (.dct (step1 s2 p))), some (.im (.str p.1)), some (.im (.int p.2))], ⟨?_, _, _, rfl⟩, ?_⟩
      · have : (step1 s2 p).length ≤ s2.length + 1 := by
          unfold step1; split
          · omega
          · exact length_putD _ _ _
        have hz : s2.length + (xs.length + 1) ≤ 64 := hz
        show (step1 s2 p).length + xs.length ≤ 64
        omega
      show (if (!(valD s2 (.inl p.2)).isSome) = true then putS 3 (getV 5) (getV 4) [some (.im (.lst (dueD due))), none, some (.im (.int (Builtin.bitOr s1 p.2))), some (.own (.dct s2)), some (.im (.str p.1)), some (.im (.int p.2))] else ret (.nx [some (.im (.lst (dueD due))), none, some (.im (.int (Builtin.bitOr s1 p.2))), some (.own (.dct s2)), some (.im (.str p.1)), some (.im (.int p.2))]) : MS) = _
      unfold step1
      cases hv : valD s2 (.inl p.2) with
      | some v => rfl
      | none =>
        have hz : s2.length + (xs.length + 1) ≤ 64 := hz
        show putS 3 (getV 5) (getV 4) [some (.im (.lst (dueD due))), none, some (.im (.int (Builtin.bitOr s1 p.2))), some (.own (.dct s2)), some (.im (.str p.1)), some (.im (.int p.2))] = _
        rw [put_eq (kvs := s2) (d := .str p.1) (kd := .int p.2) (key := .inl p.2) rfl rfl rfl rfl (Nat.lt_of_lt_of_le (by omega) sizeLine_big)]
        rfl) due (0, []) [some (.im (.lst (dueD due))), none, some (.im (.int 0)), some (.own (.dct [])), none, none] ⟨by show 0 + due.length ≤ 64; omega, _, _, rfl⟩
  rw [e]
  have e1 : due.foldl (fun s p => (Builtin.bitOr s.1 p.2, step1 s.2 p)) ((0 : Int), ([] : List (Key × D))) = (orAll due, firstsD due) := by
    have key : ∀ (l : Due) (a : Int) (b : List (Key × D)), l.foldl (fun s p => (Builtin.bitOr s.1 p.2, step1 s.2 p)) (a, b) = (l.foldl (fun a p => Builtin.bitOr a p.2) a, l.foldl step1 b) := by
      intro l
      induction l with
      | nil => intro a b; rfl
      | cons x r ih => intro a b; exact ih _ _
    exact key due 0 []
  rw [e1, bnd_ret]
  show bnd (mapE Prod.fst (bnd (bnd (lft _ (lcD _ _ _ _ _ [some (.im (.lst (dueD due))), none, some (.im (.int (orAll due))), some (.own (.dct (firstsD due))), a, c])) _) _)) _ = _
  rw [lcD_eq (xs := srt (keysOf due)) D.int isOne (fun n => .tup [.str (firstOf due n), .int n])]
  · have e2 : ((srt (keysOf due)).filter isOne).map (fun n => D.tup [.str (firstOf due n), .int n]) = dueD (marksL isOne due) := by
      unfold marksL dueD; rw [List.map_map]; rfl
    rw [e2, lft_ret, bnd_ret]
    show bnd (mapE Prod.fst (bnd (lft _ (dispD _ [some (.im (.lst (dueD due))), some (.im (.lst (dueD (marksL isOne due)))), some (.im (.int (orAll due))), some (.im (.dct (firstsD due))), a, c])) _)) _ = _
    rw [disp4 (d1 := .int (orAll due)) (d2 := .dct (firstsD due)) (d3 := .lst (dueD (marksL isOne due))) (d4 := .int (lawBits due)) rfl rfl rfl]
    · rfl
    · show bnd (bnd (lcD _ _ _ _ _ [some (.im (.lst (dueD due))), some (.im (.lst (dueD (marksL isOne due)))), some (.im (.int (orAll due))), some (.im (.dct (firstsD due))), a, c]) fun d => ret [d]) sumD = _
      rw [lcD_eq (xs := marksL isOne due) pairD (fun _ => true) (fun p => .int p.2) rfl (fun p _ => ⟨[some (.im (.lst (dueD due))), some (.im (.lst (dueD (marksL isOne due)))), some (.im (.int (orAll due))), some (.im (.dct (firstsD due))), some (.im (.str p.1)), some (.im (.int p.2))], rfl, rfl, fun _ => rfl⟩), filter_true]
      have e : ((marksL isOne due).map fun p => D.int p.2) = ((marksL isOne due).map (·.2)).map D.int := by rw [List.map_map]; rfl
      show sumD [.lst _] = _
      rw [e, sum_ints]
      rfl
  · show bnd (sortedD [.dct (firstsD due)]) itemsL = _
    rw [sorted_firsts hl]; rfl
  · intro n hn
    obtain ⟨p, hp, rfl⟩ := keysOf_mem (srt_mem.mp hn)
    obtain ⟨m, em, hm⟩ := num_nat hnum hp
    refine ⟨[some (.im (.lst (dueD due))), none, some (.im (.int (orAll due))), some (.own (.dct (firstsD due))), a, some (.im (.int p.2))], rfl, ?_, fun _ => ?_⟩
    · show bnd (bnd (bnd (bnd (m__law_bits_of A [.int p.2]) fun d => ret [d]) lenD) fun x => eqD false x (.int 1)) asB = _
      rw [em, m_law_bits_of_eq]
      show bnd (eqD false (.int ((bitsL m 42).length : Nat)) (.int 1)) asB = _
      rw [eqD_int]
      unfold isOne bitsL
      rw [List.length_map]
      exact ret_inj (decide_eq_decide.mpr (by rw [Int.toNat_natCast]; omega))
    · show bnd (bnd (dgetD (.dct (firstsD due)) (.int p.2)) fun x => ret [x, .int p.2]) tupD = _
      rw [dget_first hp, bnd_ret, tupD2]
end
end DL

namespace DL
open PySem PySem.Spec L2
def chK (s : Str) : Bool := !(Builtin.Str.occurrences "ABCDEFGHIJKLMNOPQRSTUVWXYZ" s 0 (Str.length "ABCDEFGHIJKLMNOPQRSTUVWXYZ") 1).isEmpty
theorem W10_word : ∀ s ∈ W11, (s.length ≤ 6 ∧ 1 ≤ s.length) ∧ ∀ c ∈ s.cps.toList, chK ⟨#[c]⟩ = true := by decide +kernel
theorem seq_of {g h : EnvD → MS} {ρ ρ' : EnvD} (e : g ρ = ret (.nx ρ')) : seqS g h ρ = h ρ' := by
  show bnd (g ρ) _ = _
  rw [e]
theorem if_of {t : EnvD → M Exn Bool} {g h : EnvD → MS} {ρ : EnvD} {b : Bool} (e : t ρ = ret b) : ifS t g h ρ = if b = true then g ρ else h ρ := by
  show bnd (lft ρ (t ρ)) _ = _
  rw [e]
theorem if_no {t : EnvD → M Exn Bool} {g h : EnvD → MS} {ρ : EnvD} (e : t ρ = ret false) : ifS t g h ρ = h ρ := by rw [if_of e]; rfl
theorem if_yes {t : EnvD → M Exn Bool} {g h : EnvD → MS} {ρ : EnvD} (e : t ρ = ret true) : ifS t g h ρ = g ρ := by rw [if_of e]; rfl
theorem set_of {i : Nat} {f : EnvD → M Exn D} {ρ : EnvD} {d : D} (e : f ρ = ret d) : setI i f ρ = ret (.nx (ρ.set i (some (.im d)))) := by
  show bnd (lft ρ (f ρ)) _ = _
  rw [e]
theorem ret_of {f : EnvD → M Exn D} {ρ : EnvD} {d : D} (e : f ρ = ret d) : retS f ρ = ret (.rt d) := by
  show bnd (lft ρ (f ρ)) _ = _
  rw [e]
theorem runD_of {n : Nat} {g : EnvD → MS} {ds : List D} {d : D} (e : g (begin_ n ds) = ret (.rt d)) : runD n g ds = ret d := by
  unfold runD; rw [e]
theorem orT_no {f g : EnvD → M Exn Bool} {ρ : EnvD} (h1 : f ρ = ret false) (h2 : g ρ = ret false) : orT f g ρ = ret false := by
  show bnd (f ρ) _ = _
  rw [h1, bnd_ret, if_neg (by simp), h2]
theorem notT_of {f : EnvD → M Exn Bool} {ρ : EnvD} {b : Bool} (h1 : f ρ = ret b) : notT f ρ = ret !b := by
  show bnd (f ρ) _ = _
  rw [h1]
theorem tst_of {f : EnvD → M Exn D} {ρ : EnvD} {b : Bool} (h1 : f ρ = ret (.bl b)) : tst f ρ = ret b := by
  show bnd (f ρ) _ = _
  rw [h1, bnd_ret]; rfl
theorem two_of {fa fb : EnvD → M Exn D} {g : D → D → M Exn D} {ρ : EnvD} {a b : D} {r : M Exn D} (h1 : fa ρ = ret a) (h2 : fb ρ = ret b) (h3 : g a b = r) : two fa fb g ρ = r := by
  show bnd (fa ρ) _ = _
  rw [h1, bnd_ret, h2, bnd_ret, h3]
theorem one_of {fa : EnvD → M Exn D} {g : D → M Exn D} {ρ : EnvD} {a : D} {r : M Exn D} (h1 : fa ρ = ret a) (h3 : g a = r) : one fa g ρ = r := by
  show bnd (fa ρ) _ = _
  rw [h1, bnd_ret, h3]
theorem call_of {fs : EnvD → M Exn (List D)} {g : List D → M Exn D} {ρ : EnvD} {ds : List D} {r : M Exn D} (h1 : fs ρ = ret ds) (h3 : g ds = r) : call fs g ρ = r := by
  show bnd (fs ρ) _ = _
  rw [h1, bnd_ret, h3]
theorem cons_of {fa : EnvD → M Exn D} {fs : EnvD → M Exn (List D)} {ρ : EnvD} {d : D} {ds : List D} (h1 : fa ρ = ret d) (h2 : fs ρ = ret ds) : consD fa fs ρ = ret (d :: ds) := by
  show bnd (fa ρ) _ = _
  rw [h1, bnd_ret]
  show bnd (fs ρ) _ = _
  rw [h2]
theorem chn_of {fa fb fc : EnvD → M Exn D} {ρ : EnvD} {a b c : Int} (h1 : fa ρ = ret (.int a)) (h2 : fb ρ = ret (.int b)) (h3 : fc ρ = ret (.int c)) : chn fa fb leD fc leD ρ = ret (.bl (decide (a ≤ b) && decide (b ≤ c))) := by
  show bnd (fa ρ) _ = _
  rw [h1, bnd_ret]
  show bnd (fb ρ) _ = _
  rw [h2, bnd_ret]
  show (if decide (a ≤ b) = true then bnd (fc ρ) (fun z => leD (.int b) z) else ret (D.bl false)) = _
  by_cases h : a ≤ b
  · rw [decide_eq_true h, if_pos rfl, h3]; rfl
  · rw [decide_eq_false h, if_neg (by simp)]; rfl
section
variable (A : Cl)
theorem m_is_word_eq {s : Str} (h : s ∈ W11) : m_is_word A [.str s, c_CAPITAL, .int 6] = ret (.bl true) := by
  obtain ⟨⟨h1, h2⟩, h3⟩ := W10_word s h
  have hz : s.length ≤ sizeLine := Nat.le_trans h1 (Nat.le_trans (by decide) sizeLine_big)
  have el : lenD [.str s] = ret (D.int (s.length : Nat)) := by
    show (if s.length ≤ sizeLine then ret (D.int s.length) else stuck) = _
    rw [if_pos hz]
  show bnd (mapE Prod.fst (bnd (lft _ (bnd (bnd (ret (D.bl true)) asB) fun c => if c = true then bnd (bnd (chn (kc (.int 1)) (call (consD (getV 0) nilA) lenD) leD (getV 2) leD [some (.im (.str s)), some (.im c_CAPITAL), some (.im (.int 6)), none]) asB) fun c => if c = true then bnd (bnd (lcD (fun ρ => bnd ((getV 0) ρ) itemsT) (setS 3) [3] (fun _ => ret true) (two (getV 3) (getV 1) (inS false)) [some (.im (.str s)), some (.im c_CAPITAL), some (.im (.int 6)), none]) fun d => ret [d]) allD else ret (D.bl false) else ret (D.bl false))) _)) _ = _
  have ec : chn (kc (.int 1)) (call (consD (getV 0) nilA) lenD) leD (getV 2) leD [some (.im (.str s)), some (.im c_CAPITAL), some (.im (.int 6)), none] = ret (D.bl true) := by
    show bnd (ret (D.int 1)) (fun x => bnd (lenD [.str s]) fun y => bnd (bnd (leD x y) asB) fun c => if c = true then bnd (ret (D.int 6)) fun z => leD y z else ret (D.bl false)) = _
    rw [bnd_ret, el, bnd_ret]
    show (if decide ((1 : Int) ≤ (s.length : Nat)) = true then ret (D.bl (decide (((s.length : Nat) : Int) ≤ 6))) else ret (D.bl false)) = _
    rw [if_pos (decide_eq_true (by omega)), decide_eq_true (by omega)]
  rw [ec]
  rw [lcD_eq (xs := s.cps.toList) (fun c => D.str ⟨#[c]⟩) (fun _ => true) (fun c => .bl (chK ⟨#[c]⟩))]
  · rw [filter_true]
    have e2 : (s.cps.toList.map fun c => D.bl (chK ⟨#[c]⟩)) = (s.cps.toList.map fun c => chK ⟨#[c]⟩).map D.bl := by rw [List.map_map]; rfl
    have e3 : allD [.lst (s.cps.toList.map fun c => D.bl (chK ⟨#[c]⟩))] = ret (D.bl true) := by
      rw [e2]
      show (match blsOf ((s.cps.toList.map fun c => chK ⟨#[c]⟩).map D.bl) with
        | some bs => ret (D.bl (bs.all id))
        | none => stuck) = _
      rw [blsOf_map]
      refine ret_inj (congrArg D.bl ?_)
      rw [List.all_map, List.all_eq_true]
      intro c hc
      exact h3 c hc
    show bnd (mapE Prod.fst (bnd (lft _ (allD [.lst _])) _)) _ = _
    rw [e3]
  · show (if s.cps.size ≤ sizeLine then ret (s.cps.toList.map fun c => D.str ⟨#[c]⟩) else stuck) = _
    rw [if_pos (show s.cps.size ≤ sizeLine from hz)]
  · intro c _
    exact ⟨[some (.im (.str s)), some (.im c_CAPITAL), some (.im (.int 6)), some (.im (.str ⟨#[c]⟩))], rfl, rfl, fun _ => rfl⟩
/-- what a thing tells of a number, after some lines -/
def NumBy (t : D) (d : Due) (n : Int) : Prop := m_number_by A [t, .lst (dueD d)] = ret (.int n) ∧ Lay 1 t
def rowD (q : D × (Str × Int)) : D := .tup [.str q.2.1, q.1]
/-- the rows are read so -/
def ReadsR : Due → List (D × (Str × Int)) → Prop
  | _, [] => True
  | d, q :: r => (NumBy A q.1 d q.2.2 ∧ 0 ≤ q.2.2 ∧ q.2.1 ∈ W11 ∧ q.2.1 ∉ d.map (·.1)) ∧ ReadsR (d ++ [q.2]) r
theorem flats_strs : ∀ l : List Str, flatsD (l.map D.str) = some (l.map V.str)
  | [] => rfl
  | x :: r => by
    show (flatD (D.str x)).bind (fun v => (flatsD (r.map D.str)).map fun vs => v :: vs) = _
    rw [flats_strs r]; rfl
theorem in_strs (neg : Bool) (s : Str) (l : List Str) : inD neg (.str s) (.lst (l.map D.str)) = ret (.bl (if neg then !decide (s ∈ l) else decide (s ∈ l))) := by
  show (match flatD (D.str s), flatsD (l.map D.str) with
    | some v, some vs => ret (D.bl (if neg then !inV v vs else inV v vs))
    | _, _ => stuck) = _
  rw [flats_strs]
  have e : inV (.str s) (l.map V.str) = decide (s ∈ l) := by
    unfold inV
    rw [List.any_map]
    by_cases h : s ∈ l
    · rw [decide_eq_true h, List.any_eq_true]
      exact ⟨s, h, by show (s == s) = true; simp⟩
    · rw [decide_eq_false h, List.any_eq_false]
      intro x hx
      show ¬ (x == s) = true
      intro z
      exact h (by have : x = s := by simpa using z
                  rw [← this]; exact hx)
  show ret (D.bl (if neg then !inV (.str s) (l.map V.str) else inV (.str s) (l.map V.str))) = _
  rw [e]
theorem app_eq {i : Nat} {f : EnvD → M Exn D} {ρ : EnvD} {ds : List D} {d : D} (h : ρ[i]? = some (some (.own (.lst ds)))) (hf : f ρ = ret d) (hl : ds.length < sizeLine) : appS i f ρ = ret (.nx (ρ.set i (some (.own (.lst (ds ++ [d])))))) := by
  unfold appS
  rw [h]
  show bnd (lft ρ (f ρ)) (fun d => if ds.length < sizeLine then ret (Out.nx (ρ.set i (some (.own (.lst (ds ++ [d])))))) else stuck) = _
  rw [hf, lft_ret, bnd_ret, if_pos hl]
theorem dueD_snoc (d : Due) (p : Str × Int) : dueD (d ++ [p]) = dueD d ++ [pairD p] := by unfold dueD; rw [List.map_append]; rfl
theorem dueD_len (d : Due) : (dueD d).length = d.length := List.length_map ..
end
end DL

namespace DL
open PySem PySem.Spec L2
local macro_rules | `(tactic| exists $es,*) => `(tactic| simp (config := { failIfUnchanged := false }) only [getV_z, getV_s, getB_z, getB_o, getB_s, frz_o, frz_i, frz_n, frz_s, vzAt_z, vzAt_s, begin_z, begin_n, begin_s, wipe_z, wipe_c, kcE_ap, twoE_ap, tw1_ret, tw1_raise, tw2_ret, tw2_raise, oneE_ap, on1_ret, on1_raise, asK_ret, asK_raise, tstE_ap, notE_ap, ntK_ret, ntK_raise, andE_ap, an1_ret, an1_raise, ↓an2_t, ↓an2_f, an2_ret, orE_ap, or1_ret, or1_raise, ↓or2_t, ↓or2_f, or2_ret, andVE_ap, av1_ret, av1_raise, ↓av2_t, ↓av2_f, av2_ret, orVE_ap, ov1_ret, ov1_raise, ↓ov2_t, ↓ov2_f, ov2_ret, notVE_ap, nvK_ret, nvK_raise, chnE_ap, ch1_ret, ch2_ret, ch3_ret, ifDE_ap, id1_ret, id1_raise, ↓id2_t, ↓id2_f, id2_ret, nilE_ap, consE_ap, cn1_ret, cn1_raise, cn2_ret, cn2_raise, toE_ap, ck_ret, ck_raise, lenLe_n, lenLe_c, tupD_s, lstD_s, nilPE_ap, consPE_ap, cp1_ret, cp2_ret, dispE_ap, dpK_1, dpK_2, dpK_3, dpK_4, ofE_0, ofE_1, ofE_2, ofE_3, ofE_4, ofE_5, ofE_6, ofE_7, ofDE_1, flE_ap, flK_i, flK_b, flK_s, flK_n, flK_raise, callZE_ap, makeE_ap, mk1_ret, mk1_raise, mk2_ret, mk2_raise, methE_ap, mt1_ret, mt1_raise, mt2_obj, mt3_ret, mt3_raise, toldE_ap, tdK_ret, tdK_raise, itE_ap, itK_ret, itK_raise, itemsL_l, itemsL_t, itsE_ap, isK_ret, isK_raise, enumD_l, setS_ap, setNil_ap, setConsS_ap, setTup_1, setTup_2, setTup_3, setTup_4, setTup_5, setConsT_ap, seqE_ap, sq1_nx, sq1_rt, sq1_bk, sq1_ct, sq1_raise, setE_ap, st1_ret, st1_raise, setOE_ap, so1_ret, so1_raise, retE_ap, rt1_ret, rt1_raise, retNE_ap, breakE_ap, exprE_ap, ex1_ret, ex1_raise, nopE_ap, ifE_ap, if1_ret, if1_raise, ↓if2_t, ↓if2_f, frzE_ap, raisePE_ap, raiseFE_ap, rf1_i, rf1_s, rf1_n, rf1_raise, tupSE_ap, tp1_ret, tp1_raise, tp2_some, parE_ap, pa1_ret, pa1_raise, pa2_ret, pa2_raise, slot_im, slot_own, par3E_ap, p31_ret, p32_ret, p33_ret, forE_ap, fo1_ret, fo1_raise, yesE_ap, lcE_ap, runE_ap, rd1_nx, rd1_rt, rd1_raise, fsLe_n, fsLe_c, attE_ap, at1_ret, at1_raise, putFD_n, putFD_c, ifRE_ap, ir1_ret, ir1_raise, ↓ir2_t, ↓ir2_f, ir3_raise, runIE_ap, ri1_nx, ri1_raise, runZE_n, methOE_ap, mo1_ret, mo1_raise, mo2_obj, mo3_ret, mo3_raise, mo4_ret, mo4_raise, getDE_ap, gd1_ret, gd2_ret, gd3_some, keyD_i, keyD_s, noE_ap, someE_ap, sm1_ret, slE_ap, sl1_ret, sl2_ret, sl3_ret, slL_ap, ownAt_z, ownAt_s, appE_ap, ap0_l, ap1_ret, ap1_raise, putE_ap, pu0_d, pu1_ret, pu2_ret, pu3_some, lenE_ap, le1_obj, le2_nat, addD_i, subD_i, andD_i, orD_i, xorD_i, ltD_i, leD_i, gtD_i, geD_i, negD_i, eqF_i, eqT_i, len_t0, len_t1, len_t2, len_t3, len_l0, len_l1, len_l2, ix_t0, ix_t1, ix_t2, ix_l0, ix_l1, ix_l2, ix_l3, all_nil, list_l, list_t, tuple_l, tuple_t, pow_220, pow_221, pow_240, pow_219, pow_250, isN_n, notN_n, isN_b, notN_b, isN_i, notN_i, isN_s, notN_s, isN_l, notN_l, isN_t, notN_t, isN_d, notN_d, isN_o, notN_o, isi_int_non, isi_int_b, isi_int_i, isi_int_s, isi_int_l, isi_int_t, isi_int_d, isi_bool_non, isi_bool_b, isi_bool_i, isi_bool_s, isi_bool_l, isi_bool_t, isi_bool_d, isi_str_non, isi_str_b, isi_str_i, isi_str_s, isi_str_l, isi_str_t, isi_str_d, isi_list_non, isi_list_b, isi_list_i, isi_list_s, isi_list_l, isi_list_t, isi_list_d, isi_tuple_non, isi_tuple_b, isi_tuple_i, isi_tuple_s, isi_tuple_l, isi_tuple_t, isi_tuple_d, isi_dict_non, isi_dict_b, isi_dict_i, isi_dict_s, isi_dict_l, isi_dict_t, isi_dict_d, isi2_non, isi2_b, isi2_i, isi2_s, isi2_l, isi2_t, isi2_d, isiC_non, isiC_b, isiC_i, isiC_s, isiC_l, isiC_t, isiC_d, isiC_o, dget_s, dget_i, inDct_sF, inDct_sT, inDct_iF, inDct_iT, val_own, val_bits, val_isi, kind_isi, kd_lines, kd_rule, kd_table, kd_firsts, kd_all, le1_val, le1_kind, km_rows, km_number, km_names, km_aliases, km_marks, km_mark_bits, km_name_of, km_known, km_rest, vm_kind, vm_number, vm_marks, vm_rest, run_ret, run_raise, forM_nil, tw1_run, tw2_run, on1_run, asK_run, ntK_run, an1_run, or1_run, av1_run, ov1_run, nvK_run, ch1_run, ch2_run, ch3_run, id1_run, cn1_run, cn2_run, ck_run, cp1_run, flK_run, mk1_run, mk2_run, mt1_run, mt3_run, tdK_run, itK_run, isK_run, sq1_run, st1_run, so1_run, rt1_run, ex1_run, if1_run, rf1_run, tp1_run, pa1_run, pa2_run, p31_run, p32_run, p33_run, fo1_run, lc1_run, rd1_run, at1_run, ir1_run, ir3_run, ri1_run, mo1_run, mo3_run, mo4_run, gd1_run, gd2_run, sm1_run, sl1_run, sl2_run, sl3_run, ap1_run, pu1_run, pu2_run, le1_run, le2_run, asK_retR, flK_iR, flK_bR, flK_sR, flK_nR, mk2_retR, sq1_nxR, sq1_rtR, sq1_bkR, sq1_ctR, rf1_iR, rf1_sR, rf1_nR, rd1_nxR, rd1_rtR, at1_retR, ri1_nxR, mo4_retR, gd1_retR, sm1_retR, ap1_retR, le1_objR, le2_natR, le1_valR, le1_kindR, eqG_o, eqG_t, eqG_i, eqG_n, eqG_val, insE_ap, in0_l, in1_ret, in1_raise, in2_ret, in2_raise, insK_ok, in1_run, in2_run, tryNE_ap, ty1_ret, ty1_run, List.set_cons_zero, List.set_cons_succ, Bool.not_true, Bool.not_false, Bool.and_true, Bool.true_and, Bool.and_false, Bool.false_and, Bool.or_false, Bool.false_or, Bool.true_or, Bool.or_true, Bool.not_not, Option.isSome_some, Option.isSome_none, Option.bind_some, eq_self, decide_true, decide_false, Int.reduceEq, Int.reduceLT, Int.reduceLE, Int.reduceNeg, Int.reduceAdd, Int.reduceSub, Nat.reduceAdd, List.nil_append, implies_true, forall_const, ↓reduceIte, Bool.false_eq_true, $[$es:term],*])
section
variable (A : Cl)
/-- a loop, then what stands behind it -/
theorem loop_then {bt : D → EnvD → Option EnvD} {g h : FS} {ds : List D} {ρ : EnvD} {R : MS} (P : EnvD → Prop) (hl : ∃ ρ', P ρ' ∧ forM bt g ds ρ = ret (.nx ρ')) (hk : ∀ ρ', P ρ' → h ρ' = R) : sq1 (forM bt g ds ρ) h = R := by
  obtain ⟨ρ', hp, e⟩ := hl
  rw [e]
  exact hk ρ' hp
theorem rd1_of {m : MS} {d : D} (e : m = ret (.rt d)) : rd1 m = ret d := by rw [e]; rfl
theorem read_loop {g : FS} {rows : D}
    (hg : ∀ k d t (p : Str × Int), d.length < 64 → NumBy A t d p.2 → 0 ≤ p.2 → p.1 ∈ W11 → p.1 ∉ d.map (·.1) → ∀ c, g [some (.im rows), some (.own (.lst (dueD d))), some (.im (.int (k : Nat))), some (.im (.tup [.str p.1, t])), c, none] = ret (.nx [some (.im rows), some (.own (.lst (dueD (d ++ [p])))), some (.im (.int (k : Nat))), some (.im (.tup [.str p.1, t])), some (.im (.int p.2)), none])) :
    ∀ (L : List (D × (Str × Int))) (k : Nat) (d : Due) (a b c : Option SlotD), d.length + L.length ≤ 64 → ReadsR A d L → ∃ ρ', (∃ a' b' c', ρ' = [some (.im rows), some (.own (.lst (dueD (d ++ L.map (·.2))))), a', b', c', none]) ∧ forM (setTupN 2 (setCons (setS 2) (setCons (setS 3) setNil))) g (enumFrom k (L.map rowD)) [some (.im rows), some (.own (.lst (dueD d))), a, b, c, none] = ret (.nx ρ')
  | [], k, d, a, b, c, _, _ => ⟨_, ⟨a, b, c, by
    have : d ++ ([] : List (D × (Str × Int))).map (·.2) = d := List.append_nil d
    rw [this]⟩, rfl⟩
  | (t, p) :: L, k, d, a, b, c, hl, h => by
    obtain ⟨⟨h1, h2, h3, h4⟩, h5⟩ := h
    have hl : d.length + (L.length + 1) ≤ 64 := hl
    have e1 := hg k d t p (by omega) h1 h2 h3 h4 c
    obtain ⟨ρ', ⟨a', b', c', e3⟩, e2⟩ := read_loop hg L (k + 1) (d ++ [p]) (some (.im (.int (k : Nat)))) (some (.im (.tup [.str p.1, t]))) (some (.im (.int p.2))) (by rw [List.length_append]; show d.length + 1 + L.length ≤ 64; omega) h5
    refine ⟨ρ', ⟨a', b', c', by rw [e3, List.append_assoc]; rfl⟩, ?_⟩
    show bnd (g [some (.im rows), some (.own (.lst (dueD d))), some (.im (.int (k : Nat))), some (.im (.tup [.str p.1, t])), c, none]) _ = _
    rw [e1]
    exact e2
/-- the names told so far -/
theorem names_of {d : Due} {ρ : EnvD} {i j : Nat} (hρ : ∀ (s : Str) (n : Int), getV i (((wipeD ρ [i, j]).set i (some (.im (.str s)))).set j (some (.im (.int n)))) = ret (.str s)) :
    lc1 (ret (dueD d)) (setTupN 2 (setCons (setS i) (setCons (setS j) setNil))) [i, j] yesE (getV i) ρ = ret (.lst ((d.map (·.1)).map D.str)) := by
  rw [show dueD d = d.map pairD from rfl, lc1_map pairD (fun q => .str q.1) fun q _ => ⟨_, rfl, hρ q.1 q.2⟩, List.map_map]
  rfl
theorem m_read_rows_eq {L : List (D × (Str × Int))} (h1 : 1 ≤ L.length) (h2 : L.length ≤ 10) (h : ReadsR A [] L) : m_read_rows A [.lst (L.map rowD)] = ret (.lst (dueD (L.map (·.2)))) := by
  unfold m_read_rows c_MOST_ROWS
  exists len_l, List.length_map, decide_eq_true (show (1 : Int) ≤ (L.length : Nat) by omega), decide_eq_true (show ((L.length : Nat) : Int) ≤ 10 by omega)
  refine rd1_of (loop_then _ (read_loop A ?_ L 0 [] none none none (by show 0 + L.length ≤ 64; omega) h) ?_)
  · intro k d t p hl hn h0 hw hni c
    have hd : (dueD d).length < sizeLine := by rw [dueD_len]; exact Nat.lt_of_lt_of_le (by omega) sizeLine_big
    have hin := in_strs false p.1 (d.map (·.1))
    rw [decide_eq_false hni] at hin
    have hnm := fun (a b c d e f : Option SlotD) (l : Due) => names_of (d := l) (ρ := [a, b, c, d, e, f]) (i := 5) (j := 4) fun s n => rfl
    exists m_is_word_eq A hw, hnm, hin, hn.1, hd, decide_eq_false (show ¬ p.2 < 0 by omega), dueD_snoc, pairD
  · rintro _ ⟨a, b, c, rfl⟩
    exists List.nil_append
end

end DL

namespace DL
open PySem PySem.Spec L2
/-- the first place where c ends -/
def firstF (c : Nat → Bool) : Nat → Nat → Nat
  | 0, j => j
  | n + 1, j => if c j = true then firstF c n (j + 1) else j
theorem while_first {ft : EnvD → M Exn Bool} {g : EnvD → MS} {E : Nat → EnvD} {c : Nat → Bool} (h1 : ∀ j, ft (E j) = ret (c j)) (h2 : ∀ j, g (E j) = ret (.nx (E (j + 1)))) : ∀ n j, c (j + n) = false → whileS ft g (E j) = ret (.nx (E (firstF c n j)))
  | 0, j, h => while_stop (by rw [h1]; exact ret_inj h)
  | n + 1, j, h => by
    unfold firstF
    cases hc : c j with
    | true => rw [while_step (by rw [h1, hc]) (h2 j), while_first h1 h2 n (j + 1) (by rw [← h]; congr 1; omega)]; rfl
    | false => rw [while_stop (by rw [h1, hc])]; rfl
theorem firstF_end {c : Nat → Bool} : ∀ n j, c (j + n) = false → c (firstF c n j) = false
  | 0, j, h => h
  | n + 1, j, h => by
    unfold firstF
    cases hc : c j with
    | true => exact firstF_end n (j + 1) (by rw [← h]; congr 1; omega)
    | false => exact hc
theorem firstF_le {c : Nat → Bool} : ∀ n j, firstF c n j ≤ j + n
  | 0, j => Nat.le_refl _
  | n + 1, j => by
    unfold firstF
    split
    · exact Nat.le_trans (firstF_le n (j + 1)) (by omega)
    · omega
theorem andV_of {f g : EnvD → M Exn D} {ρ : EnvD} {b : Bool} (h1 : f ρ = ret (.bl b)) : andV f g ρ = if b = true then g ρ else ret (.bl false) := by
  show bnd (bnd (f ρ) asB) _ = _
  rw [h1]; rfl
theorem notV_of {f : EnvD → M Exn D} {ρ : EnvD} {b : Bool} (h1 : f ρ = ret (.bl b)) : notV f ρ = ret (.bl !b) := by
  show bnd (bnd (f ρ) asB) _ = _
  rw [h1]; rfl
def anyC (d : Due) (j : Nat) : Bool := d.any fun p => decide ((2 : Int) ^ j ≤ p.2)
theorem anyC_top {d : Due} (h : NumOk d) : anyC d 20 = false := by
  unfold anyC
  rw [List.any_eq_false]
  intro p hp z
  have := (h p hp).2
  have z := of_decide_eq_true z
  have e : (2 : Int) ^ 20 = 1048576 := by decide
  omega
section
variable (A : Cl)
theorem m_next_bit_eq {d : Due} (h : NumOk d) : m_next_bit A [.lst (dueD d)] = ret (.int (2 ^ (firstF (anyC d) 20 0))) := by
  have key := while_first (E := fun j => [some (.im (.lst (dueD d))), some (.im (.int (2 ^ j))), none, none]) (c := anyC d)
    (ft := tst (call (consD (lcD (fun ρ => bnd ((getV 0) ρ) itemsL) (setTupN 2 (setCons (setS 2) (setCons (setS 3) setNil))) [2, 3] (fun _ => ret true) (two (getV 3) (getV 1) geD)) nilA) anyD)) (g := setI 1 (two (getV 1) (kc (.int 2)) mulD)) (fun j => by
      refine tst_of (call_of (ds := [.lst (d.map fun p => .bl (decide ((2 : Int) ^ j ≤ p.2)))]) (cons_of ?_ rfl) ?_)
      · rw [lcD_eq (xs := d) pairD (fun _ => true) (fun p => .bl (decide ((2 : Int) ^ j ≤ p.2))) rfl (fun p _ => ⟨[some (.im (.lst (dueD d))), some (.im (.int (2 ^ j))), some (.im (.str p.1)), some (.im (.int p.2))], rfl, rfl, fun _ => rfl⟩), filter_true]
      · have e : (d.map fun p => D.bl (decide ((2 : Int) ^ j ≤ p.2))) = (d.map fun p => decide ((2 : Int) ^ j ≤ p.2)).map D.bl := by rw [List.map_map]; rfl
        rw [e]
        show (match blsOf ((d.map fun p => decide ((2 : Int) ^ j ≤ p.2)).map D.bl) with
          | some bs => ret (D.bl (bs.any id))
          | none => stuck) = _
        rw [blsOf_map]
        refine ret_inj (congrArg D.bl ?_)
        unfold anyC
        rw [List.any_map]; rfl) (fun j => by rw [set_mul2 (j := j) rfl]; rfl) 20 0 (anyC_top h)
  refine runD_of ?_
  show seqS _ _ _ = _
  rw [seq_of (ρ' := [some (.im (.lst (dueD d))), some (.im (.int (2 ^ 0))), none, none]) rfl, seq_of (show whileS _ _ _ = _ from key)]
  rfl
theorem pow_small {j : Nat} (h : (2 : Int) ^ j < 1048576) : (2 : Int) ^ j ≤ 1048575 := by omega
theorem numBy_none {d : Due} (h : NumOk d) (hj : (2 : Int) ^ (firstF (anyC d) 20 0) < 1048576) : NumBy A .non d (2 ^ (firstF (anyC d) 20 0)) := by
  refine ⟨runD_of ?_, lay_non⟩
  show seqS _ _ [some (.im .non), some (.im (.lst (dueD d))), none, none, none] = _
  have h1 : ifS (tst (two (getV 0) (kc .non) (isNonD false))) (seqS (setI 2 (call (consD (getV 1) nilA) (ofN 1 (m_next_bit A)))) (retS (ifD (tst (two (getV 2) (kc c_GREATEST) leD)) (getV 2) (one (kc (.int 1)) negD)))) nopS [some (.im .non), some (.im (.lst (dueD d))), none, none, none] = ret (.rt (.int (2 ^ (firstF (anyC d) 20 0)))) := by
    have hcall : call (consD (getV 1) nilA) (ofN 1 (m_next_bit A)) [some (.im .non), some (.im (.lst (dueD d))), none, none, none] = ret (.int (2 ^ (firstF (anyC d) 20 0))) := call_of (ds := [.lst (dueD d)]) rfl (show ofN 1 (m_next_bit A) [.lst (dueD d)] = _ from m_next_bit_eq A h)
    rw [if_yes (tst_of (b := true) rfl), seq_of (set_of hcall)]
    refine ret_of ?_
    show bnd (ret (decide ((2 : Int) ^ (firstF (anyC d) 20 0) ≤ 1048575))) _ = _
    rw [decide_eq_true (pow_small hj)]
    rfl
  show bnd (ifS _ _ _ _) _ = _
  rw [h1]
theorem m_is_number_eq {t : Int} (h0 : 0 ≤ t) (h1 : t < 1048576) : m_is_number A [.int t, .int 0, c_GREATEST] = ret (.bl true) := by
  refine runD_of (ret_of ?_)
  have e1 : one (getV 0) (isiD "int") [some (.im (.int t)), some (.im (.int 0)), some (.im c_GREATEST)] = ret (.bl true) := rfl
  have e2 : one (getV 0) (isiD "bool") [some (.im (.int t)), some (.im (.int 0)), some (.im c_GREATEST)] = ret (.bl false) := rfl
  have e3 : chn (getV 1) (getV 0) leD (getV 2) leD [some (.im (.int t)), some (.im (.int 0)), some (.im c_GREATEST)] = ret (.bl true) := by
    rw [chn_of (a := 0) (b := t) (c := 1048575) rfl rfl rfl, decide_eq_true h0, decide_eq_true (show t ≤ 1048575 by omega)]; rfl
  show andV _ _ [some (.im (.int t)), some (.im (.int 0)), some (.im c_GREATEST)] = _
  rw [andV_of e1, if_pos rfl, andV_of (notV_of e2), Bool.not_false, if_pos rfl, e3]
theorem numBy_int {d : Due} {t : Int} (h0 : 0 ≤ t) (h1 : t < 1048576) : NumBy A (.int t) d t := by
  refine ⟨runD_of ?_, lay_int _⟩
  show seqS _ _ [some (.im (.int t)), some (.im (.lst (dueD d))), none, none, none] = _
  rw [seq_of (if_no (tst_of (b := false) rfl)), seq_of (if_no (tst_of (b := false) rfl))]
  refine ret_of ?_
  show bnd (bnd (ofN 3 (m_is_number A) [.int t, .int 0, c_GREATEST]) asB) _ = _
  rw [show ofN 3 (m_is_number A) [.int t, .int 0, c_GREATEST] = ret (D.bl true) from m_is_number_eq A h0 h1]
  rfl
/-! ### a tuple of names -/
theorem nodup_eq {d : Due} (h : (d.map (·.1)).Nodup) {p q : Str × Int} (hp : p ∈ d) (hq : q ∈ d) (e : p.1 = q.1) : p = q := by
  induction d with
  | nil => cases hp
  | cons x r ih =>
    rw [List.map_cons, List.nodup_cons] at h
    rcases List.mem_cons.mp hp with e1 | hp1 <;> rcases List.mem_cons.mp hq with e2 | hq1
    · rw [e1, e2]
    · exact absurd (List.mem_map.mpr ⟨q, hq1, by rw [← e, e1]⟩) h.1
    · exact absurd (List.mem_map.mpr ⟨p, hp1, by rw [e, e2]⟩) h.1
    · exact ih h.2 hp1 hq1
theorem valD_tab {d : Due} (h : (d.map (·.1)).Nodup) {p : Str × Int} (hp : p ∈ d) : valD (tabD d) (.inr p.1) = some (.int p.2) := by
  have e : tabD d = d.map fun p => (Sum.inr p.1, D.int p.2) := by
    have key : ∀ (l acc : Due), ((acc ++ l).map (·.1)).Nodup → mergeD (acc.map fun p => (Sum.inr p.1, D.int p.2)) (l.map fun p => (Sum.inr p.1, D.int p.2)) = (acc ++ l).map fun p => (Sum.inr p.1, D.int p.2) := by
      intro l
      induction l with
      | nil => intro acc _; rw [List.append_nil]; rfl
      | cons x r ih =>
        intro acc hn
        have hn2 : ((acc ++ [x] ++ r).map (·.1)).Nodup := by rw [List.append_assoc]; exact hn
        have := ih (acc ++ [x]) hn2
        rw [List.append_assoc] at this
        rw [show acc ++ x :: r = acc ++ ([x] ++ r) from rfl, ← this]
        show mergeD (putD _ _ _) _ = _
        rw [putD_new]
        · rw [List.map_append]; rfl
        · have hx : x.1 ∉ acc.map (·.1) := by
            rw [List.map_append, List.nodup_append] at hn
            intro hm
            exact hn.2.2 _ hm x.1 (List.mem_map.mpr ⟨x, List.mem_cons_self .., rfl⟩) rfl
          clear this hn hn2 ih
          induction acc with
          | nil => rfl
          | cons y s ih2 =>
            rw [List.map_cons, valD_cons, if_neg, ih2]
            · intro hm; exact hx (List.mem_cons_of_mem _ hm)
            · intro z
              exact hx (by rw [List.map_cons, Sum.inr.inj z]; exact List.mem_cons_self ..)
    exact key d [] h
  rw [e]
  clear e
  induction d with
  | nil => cases hp
  | cons x r ih =>
    rw [List.map_cons, valD_cons]
    by_cases hx : x.1 = p.1
    · have := nodup_eq h (List.mem_cons_self ..) hp hx
      subst this
      rw [if_pos rfl]
    · rw [if_neg (by intro z; exact hx (Sum.inr.inj z))]
      rw [List.map_cons, List.nodup_cons] at h
      rcases List.mem_cons.mp hp with rfl | hp
      · exact absurd rfl hx
      · exact ih h.2 hp
theorem lay_names {l : List Str} (h : ∀ s ∈ l, s ∈ W11) : ∀ d ∈ l.map D.str, Lay 0 d := by
  intro d hd
  obtain ⟨s, hs, rfl⟩ := List.mem_map.mp hd
  exact lay_str (W11_ok _ (h s hs))
theorem eqvD_niltup {ds : List D} {n : Nat} (h : ∀ d ∈ ds, Lay n d) : eqvD (.tup ds) (.tup []) = ds.isEmpty := by
  obtain ⟨ps, e, c, d⟩ := lay_all h
  have e1 : toP (.tup ds) = some (.tuple ps) := by unfold toP; rw [e]; rfl
  unfold eqvD
  rw [e1]
  show PyData.eqv (.tuple ps) (.tuple []) = _
  cases ds with
  | nil => cases e; rfl
  | cons x r =>
    unfold toPs at e
    cases hx : toP x with
    | none => rw [hx] at e; cases e
    | some p =>
      rw [hx] at e
      cases hr : toPs r with
      | none => rw [hr] at e; cases e
      | some q => rw [hr] at e; cases e; rfl
theorem numBy_tup {d qs : Due} (hn : (d.map (·.1)).Nodup) (hq : ∀ q ∈ qs, q ∈ d) (h0 : qs ≠ []) (hw : NamesOk d) : NumBy A (.tup (qs.map fun q => .str q.1)) d (orAll qs) := by
  have hnm : (qs.map fun q => D.str q.1) = (qs.map (·.1)).map D.str := by rw [List.map_map]; rfl
  have hlay : ∀ x ∈ (qs.map fun q => D.str q.1), Lay 0 x := by
    rw [hnm]
    refine lay_names fun s hs => ?_
    obtain ⟨q, hq2, rfl⟩ := List.mem_map.mp hs
    exact hw _ (hq _ hq2)
  refine ⟨runD_of ?_, lay_tup hlay⟩
  show seqS _ _ [some (.im (.tup (qs.map fun q => .str q.1))), some (.im (.lst (dueD d))), none, none, none] = _
  rw [seq_of (if_no (tst_of (b := false) rfl))]
  have hd : call (consD (getV 1) nilA) dictD [some (.im (.tup (qs.map fun q => .str q.1))), some (.im (.lst (dueD d))), none, none, none] = ret (.dct (tabD d)) := by
    refine call_of (ds := [.lst (dueD d)]) rfl ?_
    show (match pairsOf (dueD d) with
      | some kvs => ret (D.dct (mergeD [] kvs))
      | none => stuck) = _
    rw [pairsOf_due]
    rfl
  have key : seqS (setI 3 (call (consD (getV 1) nilA) dictD)) (seqS (ifS (orT (tst (two (getV 0) (fun ρ => bnd (nilA ρ) tupD) (eqD false))) (notT (tst (call (consD (lcD (fun ρ => bnd ((getV 0) ρ) itemsL) (setS 4) [4] (fun _ => ret true) (andV (one (getV 4) (isiD "str")) (two (getV 4) (getV 3) (inDct false)))) nilA) allD)))) (retS (one (kc (.int 1)) negD)) nopS) (seqS (setI 2 (kc (.int 0))) (seqS (forS (fun ρ => bnd ((getV 0) ρ) itemsL) (setS 4) (setI 2 (two (getV 2) (two (getV 3) (getV 4) dgetD) orD))) (retS (getV 2))))) [some (.im (.tup (qs.map fun q => .str q.1))), some (.im (.lst (dueD d))), none, none, none] = ret (.rt (.int (orAll qs))) := by
    rw [seq_of (set_of hd)]
    show seqS _ _ [some (.im (.tup (qs.map fun q => .str q.1))), some (.im (.lst (dueD d))), none, some (.im (.dct (tabD d))), none] = _
    have e1 : two (getV 0) (fun ρ => bnd (nilA ρ) tupD) (eqD false) [some (.im (.tup (qs.map fun q => .str q.1))), some (.im (.lst (dueD d))), none, some (.im (.dct (tabD d))), none] = ret (.bl false) := by
      refine two_of (a := .tup (qs.map fun q => .str q.1)) (b := .tup []) rfl (show tupD [] = _ from if_pos (by decide)) ?_
      rw [eqD_lay (n := 1) (m := 1) (lay_tup hlay) (lay_tup (by intro _ h; cases h)), eqvD_niltup hlay]
      cases qs with
      | nil => exact absurd rfl h0
      | cons q r => rfl
    have e2 : call (consD (lcD (fun ρ => bnd ((getV 0) ρ) itemsL) (setS 4) [4] (fun _ => ret true) (andV (one (getV 4) (isiD "str")) (two (getV 4) (getV 3) (inDct false)))) nilA) allD [some (.im (.tup (qs.map fun q => .str q.1))), some (.im (.lst (dueD d))), none, some (.im (.dct (tabD d))), none] = ret (.bl true) := by
      refine call_of (ds := [.lst (qs.map fun _ => .bl true)]) (cons_of ?_ rfl) ?_
      · rw [lcD_eq (xs := qs) (fun q => D.str q.1) (fun _ => true) (fun _ => .bl true) rfl (fun q hq2 => ⟨[some (.im (.tup (qs.map fun q => .str q.1))), some (.im (.lst (dueD d))), none, some (.im (.dct (tabD d))), some (.im (.str q.1))], rfl, rfl, fun _ => ?_⟩), filter_true]
        rw [andV_of (b := true) rfl, if_pos rfl]
        refine two_of (a := .str q.1) (b := .dct (tabD d)) rfl rfl ?_
        show ret (D.bl (valD (tabD d) (.inr q.1)).isSome) = _
        rw [valD_tab hn (hq q hq2)]; rfl
      · have e : (qs.map fun _ => D.bl true) = (qs.map fun _ => true).map D.bl := by rw [List.map_map]; rfl
        rw [e]
        show (match blsOf ((qs.map fun _ => true).map D.bl) with
          | some bs => ret (D.bl (bs.all id))
          | none => stuck) = _
        rw [blsOf_map]
        refine ret_inj (congrArg D.bl ?_)
        rw [List.all_map, List.all_eq_true]
        intro _ _; rfl
    rw [seq_of (if_no (orT_no (tst_of e1) (notT_of (tst_of e2))))]
    rw [seq_of (ρ' := [some (.im (.tup (qs.map fun q => .str q.1))), some (.im (.lst (dueD d))), some (.im (.int 0)), some (.im (.dct (tabD d))), none]) rfl]
    obtain ⟨ρ', ⟨_, c, rfl⟩, e⟩ := forM_fold (σ := Int) (b := setS 4) (g := setI 2 (two (getV 2) (two (getV 3) (getV 4) dgetD) orD)) (fun q : Str × Int => D.str q.1) (fun s q => Builtin.bitOr s q.2)
      (fun xs s ρ => (∀ q ∈ xs, q ∈ d) ∧ ∃ c, ρ = [some (.im (.tup (qs.map fun q => .str q.1))), some (.im (.lst (dueD d))), some (.im (.int s)), some (.im (.dct (tabD d))), c]) (by
        rintro q xs s ρ ⟨hx, c, rfl⟩
        refine ⟨[some (.im (.tup (qs.map fun q => .str q.1))), some (.im (.lst (dueD d))), some (.im (.int s)), some (.im (.dct (tabD d))), some (.im (.str q.1))], rfl, _, ⟨fun y hy => hx y (List.mem_cons_of_mem _ hy), some (.im (.str q.1)), rfl⟩, ?_⟩
        rw [set_of (d := .int (Builtin.bitOr s q.2)) (two_of (a := .int s) (b := .int q.2) rfl (two_of (a := .dct (tabD d)) (b := .str q.1) rfl rfl (by
          show (match valD (tabD d) (.inr q.1) with
            | some d => ret d
            | none => stuck) = _
          rw [valD_tab hn (hx q (List.mem_cons_self ..))])) rfl)]
        rfl) qs 0 [some (.im (.tup (qs.map fun q => .str q.1))), some (.im (.lst (dueD d))), some (.im (.int 0)), some (.im (.dct (tabD d))), none] ⟨hq, none, rfl⟩
    rw [seq_of (show forS _ _ _ _ = _ from e)]
    rfl
  show bnd (ifS _ _ _ _) _ = _
  rw [if_yes (tst_of (b := true) rfl), key]
end
end DL

namespace DL
open PySem PySem.Spec L2
theorem le_maxI {k : Int} : ∀ (r : List Int) (m : Int), k ≤ maxI m r ↔ k ≤ m ∨ ∃ x ∈ r, k ≤ x
  | [], m => by
    show k ≤ m ↔ _
    constructor
    · exact fun h => .inl h
    · rintro (h | ⟨x, hx, _⟩)
      · exact h
      · cases hx
  | j :: r, m => by
    have := le_maxI (k := k) r (if j > m then j else m)
    show k ≤ maxI (if j > m then j else m) r ↔ _
    rw [this]
    constructor
    · rintro (h | ⟨x, hx, h⟩)
      · split at h
        · exact .inr ⟨j, List.mem_cons_self .., h⟩
        · exact .inl h
      · exact .inr ⟨x, List.mem_cons_of_mem _ hx, h⟩
    · rintro (h | ⟨x, hx, h⟩)
      · left; split <;> omega
      · rcases List.mem_cons.mp hx with rfl | hx
        · left; split <;> omega
        · exact .inr ⟨x, hx, h⟩
theorem anyC_max (d : Due) (j : Nat) : anyC d j = decide ((2 : Int) ^ j ≤ maxL (d.map (·.2)) 0) := by
  have hp : (0 : Int) < 2 ^ j := by rw [pow_int]; have := Nat.two_pow_pos j; omega
  unfold anyC
  cases d with
  | nil => rw [List.any_nil]; exact (decide_eq_false (by show ¬ (2 : Int) ^ j ≤ 0; omega)).symm
  | cons p r =>
    have h := le_maxI (k := 2 ^ j) (r.map (·.2)) p.2
    show _ = decide ((2 : Int) ^ j ≤ maxI p.2 (r.map (·.2)))
    by_cases hc : (2 : Int) ^ j ≤ maxI p.2 (r.map (·.2))
    · rw [decide_eq_true hc, List.any_eq_true]
      rcases h.mp hc with h1 | ⟨x, hx, h1⟩
      · exact ⟨p, List.mem_cons_self .., decide_eq_true h1⟩
      · obtain ⟨q, hq, rfl⟩ := List.mem_map.mp hx
        exact ⟨q, List.mem_cons_of_mem _ hq, decide_eq_true h1⟩
    · rw [decide_eq_false hc, List.any_eq_false]
      intro q hq z
      refine hc (h.mpr ?_)
      have z := of_decide_eq_true z
      rcases List.mem_cons.mp hq with rfl | hq
      · exact .inl z
      · exact .inr ⟨q.2, List.mem_map.mpr ⟨q, hq, rfl⟩, z⟩
/-! ### rolls -/
section
variable {ρ : EnvD} {n : Int} {kk : D → Prop} {ee : Exn → Prop}
theorem roll_run {fn : EnvD → M Exn D} (hz : ρ[0]? = some (some (.vz 0))) (hf : fn ρ = ret (.int n)) (h0 : 0 < n) (h1 : n < 1267650600228229401496703205376) (h : ∀ r, 0 ≤ r → r < n → kk (.int r)) : (callZ 0 (consD fn nilA) (ofN 1 m_law_roll) ρ).run kk ee := by
  unfold callZ
  rw [hz]
  show (bnd (consD fn nilA ρ) (ofN 1 m_law_roll)).run kk ee
  rw [cons_of hf rfl, bnd_ret]
  show (if n < 1267650600228229401496703205376 then bnd (pick n) (fun r => ret (D.int r)) else stuck).run kk ee
  rw [if_pos h1]
  exact ⟨h0, fun r h2 h3 => h r h2 h3⟩
theorem seq_roll {i : Nat} {h : EnvD → MS} {k : Out → Prop} {e : Exn × EnvD → Prop} (hz : ρ[0]? = some (some (.vz 0))) (h0 : 0 < n) (h1 : n < 1267650600228229401496703205376) (H : ∀ r, 0 ≤ r → r < n → (h (ρ.set i (some (.im (.int r))))).run k e) :
    (seqS (setI i (callZ 0 (consD (kc (.int n)) nilA) (ofN 1 m_law_roll))) h ρ).run k e := by
  show (callZ 0 (consD (kc (.int n)) nilA) (ofN 1 m_law_roll) ρ).run (fun d => (h (ρ.set i (some (.im d)))).run k e) (fun x => e (x, ρ))
  exact roll_run hz rfl h0 h1 H
theorem shl_one {r : Int} (h0 : 0 ≤ r) (h1 : r ≤ 100) : shlD (.int 1) (.int r) = ret (D.int (2 ^ r.toNat)) := by
  have e : shlD (.int 1) (.int r) = if CPow 1 r then ret (D.int (1 * 2 ^ r.toNat)) else stuck := rfl
  rw [e, if_pos ⟨h0, by omega, by decide⟩, Int.one_mul]
theorem pow_lt {r : Int} {m : Nat} (h0 : 0 ≤ r) (h1 : r < m) (hm : m ≤ 20) : 0 ≤ (2 : Int) ^ r.toNat ∧ (2 : Int) ^ r.toNat < 1048576 := by
  have e : r.toNat ≤ 19 := by omega
  have h2 : 2 ^ r.toNat ≤ 2 ^ 19 := Nat.pow_le_pow_right (by decide) e
  rw [pow_int]
  have e2 : (2 : Nat) ^ 19 = 524288 := by decide
  rw [e2] at h2
  generalize 2 ^ r.toNat = x at h2 ⊢
  omega
/-- the list of four numbers, one of them drawn -/
theorem thing_run (hz : ρ[0]? = some (some (.vz 0))) (h : ∀ t : Int, 0 ≤ t → t < 1048576 → kk (.int t)) :
    (two (fun ρ => bnd ((consD (two (kc (.int 1)) (callZ 0 (consD (kc (.int 8)) nilA) (ofN 1 m_law_roll)) shlD) (consD (callZ 0 (consD (kc (.int 64)) nilA) (ofN 1 m_law_roll)) (consD (two (kc (.int 1)) (callZ 0 (consD (kc (.int 20)) nilA) (ofN 1 m_law_roll)) shlD) (consD (kc (.int 0)) nilA)))) ρ) lstD) (callZ 0 (consD (kc (.int 4)) nilA) (ofN 1 m_law_roll)) ixD ρ).run kk ee := by
  show (callZ 0 (consD (kc (.int 8)) nilA) (ofN 1 m_law_roll) ρ).run (fun y1 => (shlD (.int 1) y1).run (fun d1 => (callZ 0 (consD (kc (.int 64)) nilA) (ofN 1 m_law_roll) ρ).run (fun d2 => (callZ 0 (consD (kc (.int 20)) nilA) (ofN 1 m_law_roll) ρ).run (fun y3 => (shlD (.int 1) y3).run (fun d3 => (lstD [d1, d2, d3, .int 0]).run (fun x => (callZ 0 (consD (kc (.int 4)) nilA) (ofN 1 m_law_roll) ρ).run (fun y => (ixD x y).run kk ee) ee) ee) ee) ee) ee) ee) ee
  refine roll_run hz rfl (by decide) (by decide) fun r1 a1 b1 => ?_
  rw [shl_one a1 (by omega)]
  refine roll_run hz rfl (by decide) (by decide) fun r2 a2 b2 => ?_
  refine roll_run hz rfl (by decide) (by decide) fun r3 a3 b3 => ?_
  rw [shl_one a3 (by omega)]
  show (lstD [.int (2 ^ r1.toNat), .int r2, .int (2 ^ r3.toNat), .int 0]).run (fun x => (callZ 0 (consD (kc (.int 4)) nilA) (ofN 1 m_law_roll) ρ).run (fun y => (ixD x y).run kk ee) ee) ee
  rw [show lstD [.int (2 ^ r1.toNat), .int r2, .int (2 ^ r3.toNat), .int 0] = ret (.lst [.int (2 ^ r1.toNat), .int r2, .int (2 ^ r3.toNat), .int 0]) from if_pos (show 4 ≤ sizeLine by decide)]
  refine roll_run hz rfl (by decide) (by decide) fun i ai bi => ?_
  have hp1 := pow_lt a1 (m := 8) b1 (by decide)
  have hp3 := pow_lt a3 (m := 20) b3 (by decide)
  have hi : i = 0 ∨ i = 1 ∨ i = 2 ∨ i = 3 := by omega
  rcases hi with rfl | rfl | rfl | rfl
  · exact h _ hp1.1 hp1.2
  · exact h _ a2 (by omega)
  · exact h _ hp3.1 hp3.2
  · exact h _ (by decide) (by decide)
end
theorem lcGo_run {b : D → EnvD → Option EnvD} {ft : EnvD → M Exn Bool} {fe : EnvD → M Exn D} {ρ : EnvD} {k : List D → Prop} {e : Exn → Prop} (Inv : List D → Prop) : ∀ (ds : List D),
    (∀ d ∈ ds, ∀ acc, Inv acc → ∃ ρ', b d ρ = some ρ' ∧ ft ρ' = ret true ∧ (fe ρ').run (fun y => Inv (acc ++ [y])) (fun _ => False)) → ∀ acc, Inv acc → (∀ acc', Inv acc' → acc'.length = acc.length + ds.length → k acc') → (lcGo b ft fe ρ ds acc).run k e
  | [], _, acc, h, hk => hk acc h rfl
  | d :: ds, hs, acc, h, hk => by
    obtain ⟨ρ', e1, e2, e3⟩ := hs d (List.mem_cons_self ..) acc h
    unfold lcGo
    rw [e1]
    show (bnd (noX (ft ρ')) _).run k e
    rw [e2]
    show (fe ρ').run (fun y => (lcGo b ft fe ρ ds (acc ++ [y])).run k e) (fun _ => False)
    refine (fe ρ').mono _ _ _ _ (fun y hy => ?_) (fun _ z => z) e3
    refine lcGo_run Inv ds (fun d hd => hs d (List.mem_cons_of_mem _ hd)) _ hy fun acc' h1 h2 => hk acc' h1 ?_
    rw [h2]; simp; omega
/-! ### or, by bits -/
def orN (l : List Nat) : Nat := l.foldl (· ||| ·) 0
theorem orN_bit (l : List Nat) (i : Nat) : (orN l).testBit i = l.any fun n => n.testBit i := by
  have key : ∀ (l : List Nat) (a : Nat), (l.foldl (· ||| ·) a).testBit i = (a.testBit i || l.any fun n => n.testBit i) := by
    intro l
    induction l with
    | nil => intro a; simp
    | cons x r ih => intro a; rw [List.foldl_cons, ih, Nat.testBit_or, List.any_cons, Bool.or_assoc]
  unfold orN; rw [key]; simp
theorem foldl_or (f : Str × Int → Int) (l : Due) (h : ∀ p ∈ l, 0 ≤ f p) : ∀ a : Nat, l.foldl (fun a p => Builtin.bitOr a (f p)) (a : Int) = ((l.map fun p => (f p).toNat).foldl (· ||| ·) a : Nat) := by
  induction l with
  | nil => intro a; rfl
  | cons x r ih =>
    intro a
    have hx := h x (List.mem_cons_self ..)
    rw [List.foldl_cons, List.map_cons, List.foldl_cons]
    have e : f x = ((f x).toNat : Int) := by omega
    rw [e, bitOr_nat, ih (fun p hp => h p (List.mem_cons_of_mem _ hp))]
    rfl
theorem orAll_nat {d : Due} (h : NumOk d) : orAll d = (orN (d.map fun p => p.2.toNat) : Nat) := foldl_or (fun p => p.2) d (fun p hp => (h p hp).1) 0
theorem orN_lt {l : List Nat} {k : Nat} (h : ∀ n ∈ l, n < 2 ^ k) : orN l < 2 ^ k := by
  apply Nat.lt_pow_two_of_testBit
  intro i hi
  rw [orN_bit, List.any_eq_false]
  intro n hn
  rw [testBit_high (h n hn) hi]; simp
theorem orAll_lt {d : Due} (h : NumOk d) : 0 ≤ orAll d ∧ orAll d < 1048576 := by
  have h2 : orN (d.map fun p => p.2.toNat) < 2 ^ 20 := orN_lt fun n hn => by
    obtain ⟨p, hp, rfl⟩ := List.mem_map.mp hn
    have := h p hp
    have e : (2 : Nat) ^ 20 = 1048576 := by decide
    omega
  have e : (2 : Nat) ^ 20 = 1048576 := by decide
  rw [orAll_nat h]
  omega
/-- the law's own or: over all lines, those named -/
theorem or_named {d qs : Due} (hnum : NumOk d) (hn : (d.map (·.1)).Nodup) (hq : ∀ q ∈ qs, q ∈ d) :
    d.foldl (fun a p => Builtin.bitOr a (if p.1 ∈ qs.map (·.1) then p.2 else 0)) (0 : Int) = orAll qs := by
  have h1 := foldl_or (fun p => if p.1 ∈ qs.map (·.1) then p.2 else 0) d (fun p hp => by
    show 0 ≤ if p.1 ∈ qs.map (·.1) then p.2 else 0
    split
    · exact (hnum p hp).1
    · omega) 0
  have hqn : NumOk qs := fun q h => hnum q (hq q h)
  rw [orAll_nat hqn]
  refine h1.trans (congrArg Int.ofNat ?_)
  apply Nat.eq_of_testBit_eq
  intro i
  show (orN _).testBit i = (orN _).testBit i
  rw [orN_bit, orN_bit, List.any_map, List.any_map]
  apply Bool.eq_iff_iff.mpr
  rw [List.any_eq_true, List.any_eq_true]
  constructor
  · rintro ⟨p, hp, h⟩
    by_cases hm : p.1 ∈ qs.map (·.1)
    · obtain ⟨q, hq2, e⟩ := List.mem_map.mp hm
      have := nodup_eq hn (hq q hq2) hp e
      subst this
      refine ⟨q, hq2, ?_⟩
      have h : ((if q.1 ∈ qs.map (·.1) then q.2 else 0).toNat).testBit i = true := h
      rw [if_pos hm] at h
      exact h
    · have h : ((if p.1 ∈ qs.map (·.1) then p.2 else 0).toNat).testBit i = true := h
      rw [if_neg hm] at h
      simp at h
  · rintro ⟨q, hq2, h⟩
    refine ⟨q, hq q hq2, ?_⟩
    show ((if q.1 ∈ qs.map (·.1) then q.2 else 0).toNat).testBit i = true
    rw [if_pos (List.mem_map.mpr ⟨q, hq2, rfl⟩)]
    exact h
end DL

namespace DL
open PySem PySem.Spec L2
variable {mx : Int}
def io (o : Option D) : Option SlotD := o.map SlotD.im
def wordsD : D := .lst (W10.map D.str)
def envL (mx : Int) (rows due : List D) (o2 o6 o7 o8 o9 o10 o11 o12 : Option D) : EnvD := [some (.vz 0), some (.im (.int mx)), io o2, some (.im wordsD), some (.own (.lst rows)), some (.own (.lst due)), io o6, io o7, io o8, io o9, io o10, io o11, io o12]
theorem noVz_io {n : Nat} (o : Option D) (ρ : EnvD) : noVz n (io o :: ρ) = noVz n ρ := by cases o <;> rfl
theorem noVz_envL {rows due : List D} {o2 o6 o7 o8 o9 o10 o11 o12 : Option D} : noVz 1 (envL mx rows due o2 o6 o7 o8 o9 o10 o11 o12) = true := by
  show noVz 1 (io o2 :: some (.im wordsD) :: some (.own (.lst rows)) :: some (.own (.lst due)) :: io o6 :: io o7 :: io o8 :: io o9 :: io o10 :: io o11 :: io o12 :: []) = true
  rw [noVz_io]
  show noVz 1 (io o6 :: io o7 :: io o8 :: io o9 :: io o10 :: io o11 :: io o12 :: []) = true
  rw [noVz_io, noVz_io, noVz_io, noVz_io, noVz_io, noVz_io, noVz_io]
  rfl
abbrev Ln := List (D × (Str × Int))
def LinesI (A : Cl) (L : Ln) : Prop := ReadsR A [] L ∧ NumOk (L.map (·.2)) ∧ (L.map (·.2)).map (·.1) = W10.take L.length
theorem readsR_snoc {A : Cl} {q : D × (Str × Int)} : ∀ (L : Ln) (d : Due), ReadsR A d L → (NumBy A q.1 (d ++ L.map (·.2)) q.2.2 ∧ 0 ≤ q.2.2 ∧ q.2.1 ∈ W11 ∧ q.2.1 ∉ (d ++ L.map (·.2)).map (·.1)) → ReadsR A d (L ++ [q])
  | [], d, _, h => ⟨by rw [List.map_nil, List.append_nil] at h; exact h, trivial⟩
  | x :: L, d, ⟨h1, h2⟩, h => ⟨h1, readsR_snoc L (d ++ [x.2]) h2 (by rw [List.append_assoc]; exact h)⟩
theorem W10_nodup : W10.Nodup := by decide +kernel
theorem W10_len : W10.length = 10 := rfl
theorem W10_fresh : ∀ i : Fin 10, W10[i.1]! ∉ W10.take i.1 := by decide +kernel
theorem linesI_snoc {A : Cl} {L : Ln} (h : LinesI A L) {t : D} {w : Str} {n : Int} (hw : W10[L.length]? = some w) (hb : NumBy A t (L.map (·.2)) n) (h0 : 0 ≤ n) (h1 : n < 1048576) : LinesI A (L ++ [(t, (w, n))]) := by
  obtain ⟨a, b, c⟩ := h
  have hm : w ∈ W10 := List.mem_of_getElem? hw
  have hl : L.length < W10.length := (List.getElem?_eq_some_iff.mp hw).1
  have hni : w ∉ (L.map (·.2)).map (·.1) := by
    rw [c]
    have h9 := W10_fresh ⟨L.length, hl⟩
    have e9 : W10[L.length]! = w := by rw [List.getElem!_eq_getElem?_getD, hw]; rfl
    show w ∉ W10.take L.length
    rw [← e9]
    exact h9
  refine ⟨readsR_snoc L [] a ⟨hb, h0, mem11 hm, hni⟩, ?_, ?_⟩
  · intro p hp
    rw [List.map_append] at hp
    rcases List.mem_append.mp hp with hp | hp
    · exact b p hp
    · have : p = (w, n) := by simpa using hp
      rw [this]; exact ⟨h0, h1⟩
  · rw [List.map_append, List.map_append, c, List.length_append]
    show _ ++ [w] = W10.take (L.length + 1)
    rw [List.take_add_one, hw]; rfl
theorem linesI_names {A : Cl} {L : Ln} (h : LinesI A L) : NamesOk (L.map (·.2)) := fun p hp => by
  have : p.1 ∈ (L.map (·.2)).map (·.1) := List.mem_map.mpr ⟨p, hp, rfl⟩
  rw [h.2.2] at this
  exact mem11 (List.mem_of_mem_take this)
theorem linesI_nodup {A : Cl} {L : Ln} (h : LinesI A L) : ((L.map (·.2)).map (·.1)).Nodup := by
  rw [h.2.2]; exact List.Nodup.sublist (List.take_sublist _ _) W10_nodup
section
variable (A : Cl) {L : Ln} {o2 o6 o7 o8 o9 o10 o11 o12 : Option D}
abbrev rowsL (L : Ln) : List D := L.map rowD
abbrev dueL (L : Ln) : Due := L.map (·.2)
abbrev envM (mx : Int) (L : Ln) (o2 o6 o7 o8 o9 o10 o11 o12 : Option D) : EnvD := envL mx (rowsL L) (dueD (dueL L)) o2 o6 o7 o8 o9 o10 o11 o12
theorem high_eq : two (lcD (fun ρ => bnd ((getB 5) ρ) itemsL) (setTupN 2 (setCons (setS 10) (setCons (setS 9) setNil))) [10, 9] (fun _ => ret true) (getV 9)) (kc (.int 0)) maxD (envM mx L o2 o6 o7 o8 o9 o10 o11 o12) = ret (.int (maxL ((dueL L).map (·.2)) 0)) := by
  refine two_of (a := .lst ((dueL L).map fun p => .int p.2)) (b := .int 0) ?_ rfl ?_
  · rw [lcD_eq (xs := dueL L) pairD (fun _ => true) (fun p => .int p.2) rfl (fun p _ => ⟨_, rfl, rfl, fun _ => rfl⟩), filter_true]
  · have e : ((dueL L).map fun p => D.int p.2) = ((dueL L).map (·.2)).map D.int := by simp only [List.map_map, Function.comp_def]
    rw [e]
    show (match intsOf (((dueL L).map (·.2)).map D.int) with
      | some [] => ret (D.int 0)
      | some (j :: r) => ret (.int (maxI j r))
      | none => stuck) = _
    rw [intsOf_map]
    cases (dueL L).map (·.2) with
    | nil => rfl
    | cons j r => rfl
theorem two_run {fa fb : EnvD → M Exn D} {g : D → D → M Exn D} {ρ : EnvD} {k : D → Prop} {e : Exn → Prop} (h : (fa ρ).run (fun x => (fb ρ).run (fun y => (g x y).run k e) e) e) : (two fa fb g ρ).run k e := h
theorem run_of {m : M Exn D} {a : D} {k : D → Prop} {e : Exn → Prop} (h : m = ret a) (hk : k a) : m.run k e := by rw [h]; exact hk
/-- the tuple of drawn names -/
theorem names_run {kk : D → Prop} {ee : Exn → Prop} (h0 : dueL L ≠ []) (hl : L.length ≤ 10) (h : ∀ qs : Due, qs ≠ [] → (∀ q ∈ qs, q ∈ dueL L) → kk (.tup (qs.map fun q => .str q.1))) :
    (call (consD (lcD (fun ρ => bnd ((consD (two (kc (.int 1)) (callZ 0 (consD (kc (.int 3)) nilA) (ofN 1 m_law_roll)) addD) nilA) ρ) range1D) (setS 12) [12] (fun _ => ret true) (two (two (getB 5) (callZ 0 (consD (call (consD (getB 5) nilA) lenD) nilA) (ofN 1 m_law_roll)) ixD) (kc (.int 0)) ixD)) nilA) tupleD (envM mx L o2 o6 o7 o8 o9 o10 o11 o12)).run kk ee := by
  show (callZ 0 (consD (kc (.int 3)) nilA) (ofN 1 m_law_roll) (envM mx L o2 o6 o7 o8 o9 o10 o11 o12)).run (fun y => (addD (.int 1) y).run (fun z => (range1D [z]).run (fun ds => (lcGo (setS 12) (fun _ => ret true) (two (two (getB 5) (callZ 0 (consD (call (consD (getB 5) nilA) lenD) nilA) (ofN 1 m_law_roll)) ixD) (kc (.int 0)) ixD) (wipeD (envM mx L o2 o6 o7 o8 o9 o10 o11 o12) [12]) ds []).run (fun ys => (tupleD [.lst ys]).run kk ee) ee) ee) ee) ee
  refine roll_run rfl rfl (by decide) (by decide) fun r hr0 hr1 => ?_
  show (range1D [.int (1 + r)]).run (fun ds => (lcGo (setS 12) (fun _ => ret true) (two (two (getB 5) (callZ 0 (consD (call (consD (getB 5) nilA) lenD) nilA) (ofN 1 m_law_roll)) ixD) (kc (.int 0)) ixD) (wipeD (envM mx L o2 o6 o7 o8 o9 o10 o11 o12) [12]) ds []).run (fun ys => (tupleD [.lst ys]).run kk ee) ee) ee
  have e1 : range1D [.int (1 + r)] = ret ((List.range (1 + r).toNat).map fun i => D.int (0 + (i : Nat))) := by
    show (if -(2 ^ 62) ≤ 1 + r ∧ 1 + r < 2 ^ 62 then rangeD 0 (1 + r).toNat else stuck) = _
    rw [if_pos ⟨by omega, by omega⟩]
    exact if_pos (Nat.le_trans (by omega) sizeLine_big)
  rw [e1]
  refine lcGo_run (fun acc => ∃ qs : Due, acc = qs.map (fun q => D.str q.1) ∧ ∀ q ∈ qs, q ∈ dueL L) _ ?_ [] ⟨[], rfl, fun _ h => nomatch h⟩ ?_
  · rintro d _ acc ⟨qs, rfl, hq⟩
    refine ⟨(wipeD (envM mx L o2 o6 o7 o8 o9 o10 o11 o12) [12]).set 12 (some (.im d)), rfl, rfl, ?_⟩
    have hpos : 0 < (dueL L).length := List.length_pos_iff.mpr h0
    have hlen : (dueL L).length = L.length := List.length_map ..
    have h5 : getB 5 ((wipeD (envM mx L o2 o6 o7 o8 o9 o10 o11 o12) [12]).set 12 (some (.im d))) = ret (.lst (dueD (dueL L))) := rfl
    have hz : ((wipeD (envM mx L o2 o6 o7 o8 o9 o10 o11 o12) [12]).set 12 (some (.im d)))[0]? = some (some (.vz 0)) := rfl
    generalize (wipeD (envM mx L o2 o6 o7 o8 o9 o10 o11 o12) [12]).set 12 (some (.im d)) = ρ9 at h5 hz ⊢
    refine two_run (two_run (run_of h5 ?_))
    have hl2 : call (consD (getB 5) nilA) lenD ρ9 = ret (.int ((dueL L).length : Nat)) := by
      refine call_of (cons_of h5 rfl) ?_
      show ret (D.int ((dueD (dueL L)).length : Nat)) = _
      rw [dueD_len]
    refine roll_run hz hl2 (by omega) (by omega) fun i hi0 hi1 => ?_
    obtain ⟨m, rfl⟩ : ∃ m : Nat, i = m := ⟨i.toNat, by omega⟩
    have hm : m < (dueL L).length := by omega
    have e2 : ixD (.lst (dueD (dueL L))) (.int (m : Nat)) = ret (pairD (dueL L)[m]) := by
      show (match atI (dueD (dueL L)) (m : Nat) with
        | some d => ret d
        | none => stuck) = _
      rw [show atI (dueD (dueL L)) ((m : Nat) : Int) = some (pairD (dueL L)[m]) from atI_nat (by unfold dueD; rw [List.getElem?_map, List.getElem?_eq_getElem hm]; rfl)]
    refine run_of e2 ?_
    refine run_of (a := .int 0) rfl ?_
    refine run_of (show ixD (pairD (dueL L)[m]) (.int 0) = ret (.str (dueL L)[m].1) from rfl) ?_
    refine ⟨qs ++ [(dueL L)[m]], by rw [List.map_append]; rfl, fun q hq2 => ?_⟩
    rcases List.mem_append.mp hq2 with h2 | h2
    · exact hq q h2
    · rw [List.mem_singleton] at h2; rw [h2]; exact List.getElem_mem hm
  · rintro acc ⟨qs, rfl, hq⟩ hlen
    refine h qs ?_ hq
    rintro rfl
    simp at hlen
    omega
theorem endPin_nx {j n : Nat} {ds : List D} {ρ' : EnvD} : endPin j n ds (.nx ρ') = if isVz n ρ'[j]? = true ∧ noVz n (ρ'.set j none) = true then ret (.nx (ρ'.set j (some (.own (.lst ds))))) else stuck := rfl
/-- the loop that ors the named lines -/
theorem pin_eq {qs : Due} (hnum : NumOk (dueL L)) (hn : ((dueL L).map (·.1)).Nodup) (hq : ∀ q ∈ qs, q ∈ dueL L) :
    ∃ p10 p11, forPin 5 1 (setTupN 2 (setCons (setS 10) (setCons (setS 11) setNil))) (setI 9 (two (getV 9) (ifD (tst (two (getV 10) (getV 8) (inD false))) (getV 11) (kc (.int 0))) orD)) (envM mx L o2 o6 o7 (some (.tup (qs.map fun q => .str q.1))) (some (.int 0)) o10 o11 o12)
      = ret (.nx (envM mx L o2 o6 o7 (some (.tup (qs.map fun q => .str q.1))) (some (.int (orAll qs))) p10 p11 o12)) := by
  obtain ⟨ρ', ⟨p10, p11, rfl⟩, e⟩ := forM_fold (σ := Int) (b := setTupN 2 (setCons (setS 10) (setCons (setS 11) setNil))) (g := setI 9 (two (getV 9) (ifD (tst (two (getV 10) (getV 8) (inD false))) (getV 11) (kc (.int 0))) orD)) pairD (fun a p => Builtin.bitOr a (if p.1 ∈ qs.map (·.1) then p.2 else 0))
    (fun _ s ρ => ∃ p10 p11, ρ = (envM mx L o2 o6 o7 (some (.tup (qs.map fun q => .str q.1))) (some (.int s)) p10 p11 o12).set 5 (some (.vz 1))) (by
      rintro p xs s ρ ⟨p10, p11, rfl⟩
      refine ⟨(envM mx L o2 o6 o7 (some (.tup (qs.map fun q => .str q.1))) (some (.int s)) (some (.str p.1)) (some (.int p.2)) o12).set 5 (some (.vz 1)), rfl, _, ⟨some (.str p.1), some (.int p.2), rfl⟩, ?_⟩
      have hin : two (getV 10) (getV 8) (inD false) ((envM mx L o2 o6 o7 (some (.tup (qs.map fun q => .str q.1))) (some (.int s)) (some (.str p.1)) (some (.int p.2)) o12).set 5 (some (.vz 1))) = ret (.bl (decide (p.1 ∈ qs.map (·.1)))) := by
        refine two_of (a := .str p.1) (b := .tup (qs.map fun q => .str q.1)) rfl rfl ?_
        have e1 := in_strs false p.1 (qs.map (·.1))
        rw [List.map_map] at e1
        exact e1
      have hif : ifD (tst (two (getV 10) (getV 8) (inD false))) (getV 11) (kc (.int 0)) ((envM mx L o2 o6 o7 (some (.tup (qs.map fun q => .str q.1))) (some (.int s)) (some (.str p.1)) (some (.int p.2)) o12).set 5 (some (.vz 1))) = ret (.int (if p.1 ∈ qs.map (·.1) then p.2 else 0)) := by
        show bnd (tst (two (getV 10) (getV 8) (inD false)) _) (fun c => if c = true then ret (D.int p.2) else ret (D.int 0)) = _
        rw [tst_of hin, bnd_ret]
        by_cases hm : p.1 ∈ qs.map (·.1)
        · rw [if_pos hm, decide_eq_true hm]; rfl
        · rw [if_neg hm, decide_eq_false hm]; rfl
      rw [set_of (two_of (a := .int s) rfl hif rfl)]
      rfl) (dueL L) 0 ((envM mx L o2 o6 o7 (some (.tup (qs.map fun q => .str q.1))) (some (.int 0)) o10 o11 o12).set 5 (some (.vz 1))) ⟨o10, o11, rfl⟩
  rw [or_named hnum hn hq] at e
  refine ⟨p10, p11, ?_⟩
  have h1 : (envM mx L o2 o6 o7 (some (.tup (qs.map fun q => .str q.1))) (some (.int 0)) o10 o11 o12)[5]? = some (some (.own (.lst (dueD (dueL L))))) := rfl
  unfold forPin
  rw [h1]
  show (if noVz 1 (envM mx L o2 o6 o7 (some (.tup (qs.map fun q => .str q.1))) (some (.int 0)) o10 o11 o12) = true then bnd (noXS (forM _ _ (dueD (dueL L)) _)) (endPin 5 1 (dueD (dueL L))) else stuck) = _
  rw [if_pos noVz_envL]
  rw [show forM (setTupN 2 (setCons (setS 10) (setCons (setS 11) setNil))) (setI 9 (two (getV 9) (ifD (tst (two (getV 10) (getV 8) (inD false))) (getV 11) (kc (.int 0))) orD)) (dueD (dueL L)) ((envM mx L o2 o6 o7 (some (.tup (qs.map fun q => .str q.1))) (some (.int 0)) o10 o11 o12).set 5 (some (.vz 1))) = _ from e]
  have h2 : noVz 1 (((envM mx L o2 o6 o7 (some (.tup (qs.map fun q => .str q.1))) (some (.int (orAll qs))) p10 p11 o12).set 5 (some (.vz 1))).set 5 none) = true := by
    show noVz 1 (io o2 :: some (.im wordsD) :: some (.own (.lst (rowsL L))) :: none :: io o6 :: io o7 :: io (some (.tup (qs.map fun q => .str q.1))) :: io (some (.int (orAll qs))) :: io p10 :: io p11 :: io o12 :: []) = true
    rw [noVz_io]
    show noVz 1 (io o6 :: io o7 :: io (some (.tup (qs.map fun q => .str q.1))) :: io (some (.int (orAll qs))) :: io p10 :: io p11 :: io o12 :: []) = true
    rw [noVz_io, noVz_io, noVz_io, noVz_io, noVz_io, noVz_io, noVz_io]
    rfl
  show endPin 5 1 (dueD (dueL L)) (.nx ((envM mx L o2 o6 o7 (some (.tup (qs.map fun q => .str q.1))) (some (.int (orAll qs))) p10 p11 o12).set 5 (some (.vz 1)))) = _
  rw [endPin_nx, if_pos ⟨rfl, h2⟩]
  rfl
end
end DL

namespace DL
open PySem PySem.Spec L2
variable {mx : Int}
theorem pow20 : powD (.int 2) (.int 20) = ret (D.int 1048576) := by
  have e : powD (.int 2) (.int 20) = if CPow 2 20 then ret (D.int (2 ^ (20 : Int).toNat)) else stuck := rfl
  rw [e, if_pos ⟨by decide, by decide, by decide⟩]
  exact ret_inj (congrArg D.int (by decide))
section
variable (A : Cl)
theorem seq_run {g h : EnvD → MS} {ρ : EnvD} {k : Out → Prop} {e : Exn × EnvD → Prop} (x : (g ρ).run (fun o => match o with
  | .nx ρ' => (h ρ').run k e
  | o => k o) e) : (seqS g h ρ).run k e := by
  show (g ρ).run (fun o => (match o with
    | .nx ρ' => h ρ'
    | o => ret o : MS).run k e) e
  refine (g ρ).mono _ _ _ _ (fun o ho => ?_) (fun _ z => z) x
  cases o <;> exact ho
theorem set_run {i : Nat} {f : EnvD → M Exn D} {ρ : EnvD} {k : Out → Prop} {e : Exn × EnvD → Prop} (x : (f ρ).run (fun d => k (.nx (ρ.set i (some (.im d))))) (fun y => e (y, ρ))) : (setI i f ρ).run k e := x
theorem rowD_app {t : D} {w : Str} {n : Int} (L : Ln) : rowsL (L ++ [(t, (w, n))]) = rowsL L ++ [.tup [.str w, t]] := by
  show (L ++ _).map rowD = _
  rw [List.map_append]; rfl
theorem dueL_app {t : D} {w : Str} {n : Int} (L : Ln) : dueD (dueL (L ++ [(t, (w, n))])) = dueD (dueL L) ++ [.tup [.str w, .int n]] := by
  have e : dueL (L ++ [(t, (w, n))]) = dueL L ++ [(w, n)] := by
    show (L ++ _).map (·.2) = _
    rw [List.map_append]; rfl
  rw [e, dueD_snoc]; rfl
/-- the end of a turn: both lines are appended -/
theorem app_two {L : Ln} {m : Nat} {t : D} {w : Str} {n : Int} {o6 o7 o10 o11 o12 : Option D} (hw : W10[m]? = some w) (hl : L.length ≤ 10) :
    seqS (appS 4 (fun ρ => bnd ((consD (two (getV 3) (getV 2) ixD) (consD (getV 8) nilA)) ρ) tupD)) (appS 5 (fun ρ => bnd ((consD (two (getV 3) (getV 2) ixD) (consD (getV 9) nilA)) ρ) tupD)) (envM mx L (some (.int (0 + (m : Nat)))) o6 o7 (some t) (some (.int n)) o10 o11 o12)
      = ret (.nx (envM mx (L ++ [(t, (w, n))]) (some (.int (0 + (m : Nat)))) o6 o7 (some t) (some (.int n)) o10 o11 o12)) := by
  have hix : ixD wordsD (.int (0 + (m : Nat))) = ret (.str w) := by
    have e0 : (0 + ((m : Nat) : Int)) = ((m : Nat) : Int) := by omega
    rw [e0]
    show (match atI (W10.map D.str) ((m : Nat) : Int) with
      | some d => ret d
      | none => stuck) = _
    rw [show atI (W10.map D.str) ((m : Nat) : Int) = some (.str w) from atI_nat (by rw [List.getElem?_map, hw]; rfl)]
  have hr : (rowsL L).length < sizeLine := by
    show (L.map rowD).length < _
    rw [List.length_map]; exact Nat.lt_of_lt_of_le (by omega) sizeLine_big
  have hd : (dueD (dueL L)).length < sizeLine := by
    rw [dueD_len]
    show (L.map (·.2)).length < _
    rw [List.length_map]; exact Nat.lt_of_lt_of_le (by omega) sizeLine_big
  have f1 : (fun ρ => bnd ((consD (two (getV 3) (getV 2) ixD) (consD (getV 8) nilA)) ρ) tupD) (envM mx L (some (.int (0 + (m : Nat)))) o6 o7 (some t) (some (.int n)) o10 o11 o12) = ret (.tup [.str w, t]) := by
    show bnd (consD (two (getV 3) (getV 2) ixD) (consD (getV 8) nilA) _) tupD = _
    rw [cons_of (two_of (a := wordsD) (b := .int (0 + (m : Nat))) rfl rfl hix) (show consD (getV 8) nilA _ = ret [t] from rfl), bnd_ret, tupD2]
  rw [seq_of (app_eq (ds := rowsL L) rfl f1 hr)]
  have f2 : (fun ρ => bnd ((consD (two (getV 3) (getV 2) ixD) (consD (getV 9) nilA)) ρ) tupD) (envL mx (rowsL L ++ [.tup [.str w, t]]) (dueD (dueL L)) (some (.int (0 + (m : Nat)))) o6 o7 (some t) (some (.int n)) o10 o11 o12) = ret (.tup [.str w, .int n]) := by
    show bnd (consD (two (getV 3) (getV 2) ixD) (consD (getV 9) nilA) _) tupD = _
    rw [cons_of (two_of (a := wordsD) (b := .int (0 + (m : Nat))) rfl rfl hix) (show consD (getV 9) nilA _ = ret [.int n] from rfl), bnd_ret, tupD2]
  show appS 5 _ (envL mx (rowsL L ++ [.tup [.str w, t]]) (dueD (dueL L)) (some (.int (0 + (m : Nat)))) o6 o7 (some t) (some (.int n)) o10 o11 o12) = _
  rw [app_eq (ds := dueD (dueL L)) rfl f2 hd]
  unfold envM
  rw [rowD_app, dueL_app]
  rfl
/-- the body of one turn -/
def bodyL : EnvD → MS := (seqS (setI 6 (two (lcD (fun ρ => bnd ((getB 5) ρ) itemsL) (setTupN 2 (setCons (setS 10) (setCons (setS 9) setNil))) [10, 9] (fun _ => ret true) (getV 9)) (kc (.int 0)) maxD)) (seqS (setI 7 (callZ 0 (consD (kc (.int 8)) nilA) (ofN 1 m_law_roll))) (seqS (parS 8 9 .im .im (kc .non) (kc (.int 1))) (seqS (whileS (tst (two (getV 9) (getV 6) leD)) (setI 9 (two (getV 9) (kc (.int 2)) mulD))) (seqS (ifS (orT (tst (two (getV 7) (kc (.int 5)) (eqD false))) (tst (two (getV 9) (two (kc (.int 2)) (kc (.int 20)) powD) geD))) (seqS (setI 8 (two (fun ρ => bnd ((consD (two (kc (.int 1)) (callZ 0 (consD (kc (.int 8)) nilA) (ofN 1 m_law_roll)) shlD) (consD (callZ 0 (consD (kc (.int 64)) nilA) (ofN 1 m_law_roll)) (consD (two (kc (.int 1)) (callZ 0 (consD (kc (.int 20)) nilA) (ofN 1 m_law_roll)) shlD) (consD (kc (.int 0)) nilA)))) ρ) lstD) (callZ 0 (consD (kc (.int 4)) nilA) (ofN 1 m_law_roll)) ixD)) (setI 9 (getV 8))) nopS) (seqS (ifS (andT (tst (two (getV 7) (kc (.int 5)) gtD)) (tst (two (getB 5) (fun ρ => bnd (nilA ρ) lstD) (eqD true)))) (seqS (setI 8 (call (consD (lcD (fun ρ => bnd ((consD (two (kc (.int 1)) (callZ 0 (consD (kc (.int 3)) nilA) (ofN 1 m_law_roll)) addD) nilA) ρ) range1D) (setS 12) [12] (fun _ => ret true) (two (two (getB 5) (callZ 0 (consD (call (consD (getB 5) nilA) lenD) nilA) (ofN 1 m_law_roll)) ixD) (kc (.int 0)) ixD)) nilA) tupleD)) (seqS (setI 9 (kc (.int 0))) (forPin 5 1 (setTupN 2 (setCons (setS 10) (setCons (setS 11) setNil))) (setI 9 (two (getV 9) (ifD (tst (two (getV 10) (getV 8) (inD false))) (getV 11) (kc (.int 0))) orD))))) nopS) (seqS (appS 4 (fun ρ => bnd ((consD (two (getV 3) (getV 2) ixD) (consD (getV 8) nilA)) ρ) tupD)) (appS 5 (fun ρ => bnd ((consD (two (getV 3) (getV 2) ixD) (consD (getV 9) nilA)) ρ) tupD)))))))))
theorem body_run {L : Ln} {m : Nat} {w : Str} {o6 o7 o8 o9 o10 o11 o12 : Option D} {k : Out → Prop} {e : Exn × EnvD → Prop} (hI : LinesI A L) (hm : L.length = m) (hw : W10[m]? = some w)
    (hk : ∀ (t : D) (n : Int) (o6 o7 o8 o9 o10 o11 o12 : Option D), LinesI A (L ++ [(t, (w, n))]) → k (.nx (envM mx (L ++ [(t, (w, n))]) (some (.int (0 + (m : Nat)))) o6 o7 o8 o9 o10 o11 o12))) :
    (bodyL (envM mx L (some (.int (0 + (m : Nat)))) o6 o7 o8 o9 o10 o11 o12)).run k e := by
  have hnum := hI.2.1
  have hl10 : L.length < 10 := by rw [hm]; exact (List.getElem?_eq_some_iff.mp hw).1
  unfold bodyL
  rw [seq_of (set_of high_eq)]
  refine seq_roll (n := 8) rfl (by decide) (by decide) fun r7 _ _ => ?_
  show (seqS _ _ (envM mx L (some (.int (0 + (m : Nat)))) (some (.int (maxL ((dueL L).map (·.2)) 0))) (some (.int r7)) o8 o9 o10 o11 o12)).run k e
  rw [seq_of (ρ' := envM mx L (some (.int (0 + (m : Nat)))) (some (.int (maxL ((dueL L).map (·.2)) 0))) (some (.int r7)) (some .non) (some (.int (2 ^ 0))) o10 o11 o12) rfl]
  have hwh := while_first (E := fun j => envM mx L (some (.int (0 + (m : Nat)))) (some (.int (maxL ((dueL L).map (·.2)) 0))) (some (.int r7)) (some .non) (some (.int (2 ^ j))) o10 o11 o12) (c := anyC (dueL L))
    (ft := tst (two (getV 9) (getV 6) leD)) (g := setI 9 (two (getV 9) (kc (.int 2)) mulD)) (fun j => by rw [anyC_max]; rfl) (fun j => by rw [set_mul2 (j := j) rfl]; rfl) 20 0 (anyC_top hnum)
  rw [seq_of hwh]
  generalize hj : firstF (anyC (dueL L)) 20 0 = j
  -- the thing and its number
  have key : ∀ (t : D) (n : Int) , NumBy A t (dueL L) n → 0 ≤ n → n < 1048576 → (seqS (ifS (andT (tst (two (getV 7) (kc (.int 5)) gtD)) (tst (two (getB 5) (fun ρ => bnd (nilA ρ) lstD) (eqD true)))) (seqS (setI 8 (call (consD (lcD (fun ρ => bnd ((consD (two (kc (.int 1)) (callZ 0 (consD (kc (.int 3)) nilA) (ofN 1 m_law_roll)) addD) nilA) ρ) range1D) (setS 12) [12] (fun _ => ret true) (two (two (getB 5) (callZ 0 (consD (call (consD (getB 5) nilA) lenD) nilA) (ofN 1 m_law_roll)) ixD) (kc (.int 0)) ixD)) nilA) tupleD)) (seqS (setI 9 (kc (.int 0))) (forPin 5 1 (setTupN 2 (setCons (setS 10) (setCons (setS 11) setNil))) (setI 9 (two (getV 9) (ifD (tst (two (getV 10) (getV 8) (inD false))) (getV 11) (kc (.int 0))) orD))))) nopS) (seqS (appS 4 (fun ρ => bnd ((consD (two (getV 3) (getV 2) ixD) (consD (getV 8) nilA)) ρ) tupD)) (appS 5 (fun ρ => bnd ((consD (two (getV 3) (getV 2) ixD) (consD (getV 9) nilA)) ρ) tupD)))
      (envM mx L (some (.int (0 + (m : Nat)))) (some (.int (maxL ((dueL L).map (·.2)) 0))) (some (.int r7)) (some t) (some (.int n)) o10 o11 o12)).run k e := by
    intro t n hb h0 h1
    have fin : ∀ (t : D) (n : Int) (p10 p11 : Option D), NumBy A t (dueL L) n → 0 ≤ n → n < 1048576 → (seqS (appS 4 (fun ρ => bnd ((consD (two (getV 3) (getV 2) ixD) (consD (getV 8) nilA)) ρ) tupD)) (appS 5 (fun ρ => bnd ((consD (two (getV 3) (getV 2) ixD) (consD (getV 9) nilA)) ρ) tupD)) (envM mx L (some (.int (0 + (m : Nat)))) (some (.int (maxL ((dueL L).map (·.2)) 0))) (some (.int r7)) (some t) (some (.int n)) p10 p11 o12)).run k e := by
      intro t n p10 p11 hb h0 h1
      rw [app_two hw (by omega)]
      exact hk _ _ _ _ _ _ _ _ _ (linesI_snoc hI (by rw [hm]; exact hw) hb h0 h1)
    have hT2 : tst (two (getB 5) (fun ρ => bnd (nilA ρ) lstD) (eqD true)) (envM mx L (some (.int (0 + (m : Nat)))) (some (.int (maxL ((dueL L).map (·.2)) 0))) (some (.int r7)) (some t) (some (.int n)) o10 o11 o12) = ret (!(dueD (dueL L)).isEmpty) := by
      refine tst_of (two_of (a := .lst (dueD (dueL L))) (b := .lst []) rfl (show lstD [] = _ from if_pos (by decide)) ?_)
      have hlay : ∀ d ∈ dueD (dueL L), Lay 1 d := by
        intro d hd
        obtain ⟨p, hp, rfl⟩ := List.mem_map.mp hd
        refine lay_tup fun x hx => ?_
        rcases List.mem_cons.mp hx with rfl | hx
        · exact lay_str (W11_ok _ (linesI_names hI _ hp))
        · rw [List.mem_singleton] at hx; subst hx; exact lay_int _
      rw [eqD_lay (n := 2) (m := 1) (lay_lst hlay) (lay_lst (by intro _ h; cases h)), eqvD_nil hlay]
      rfl
    have hT1 : tst (two (getV 7) (kc (.int 5)) gtD) (envM mx L (some (.int (0 + (m : Nat)))) (some (.int (maxL ((dueL L).map (·.2)) 0))) (some (.int r7)) (some t) (some (.int n)) o10 o11 o12) = ret (decide (5 < r7)) := rfl
    have hT : andT (tst (two (getV 7) (kc (.int 5)) gtD)) (tst (two (getB 5) (fun ρ => bnd (nilA ρ) lstD) (eqD true))) (envM mx L (some (.int (0 + (m : Nat)))) (some (.int (maxL ((dueL L).map (·.2)) 0))) (some (.int r7)) (some t) (some (.int n)) o10 o11 o12) = ret (decide (5 < r7) && !(dueD (dueL L)).isEmpty) := by
      show bnd (tst (two (getV 7) (kc (.int 5)) gtD) _) _ = _
      rw [hT1, bnd_ret, hT2]
      cases decide (5 < r7) <;> rfl
    cases hc : (decide (5 < r7) && !(dueD (dueL L)).isEmpty) with
    | false =>
      rw [hc] at hT
      rw [seq_of (if_no hT)]
      exact fin t n o10 o11 hb h0 h1
    | true =>
      rw [hc] at hT
      have hne : dueL L ≠ [] := by
        intro z
        rw [z] at hc
        simp [dueD] at hc
      refine seq_run ?_
      rw [if_yes hT]
      refine seq_run (set_run ?_)
      refine names_run hne (by omega) fun qs hq0 hq => ?_
      show (seqS (setI 9 (kc (.int 0))) _ (envM mx L (some (.int (0 + (m : Nat)))) (some (.int (maxL ((dueL L).map (·.2)) 0))) (some (.int r7)) (some (.tup (qs.map fun q => .str q.1))) (some (.int n)) o10 o11 o12)).run _ e
      rw [seq_of (ρ' := envM mx L (some (.int (0 + (m : Nat)))) (some (.int (maxL ((dueL L).map (·.2)) 0))) (some (.int r7)) (some (.tup (qs.map fun q => .str q.1))) (some (.int 0)) o10 o11 o12) rfl]
      obtain ⟨p10, p11, ep⟩ := pin_eq (o2 := some (.int (0 + (m : Nat)))) (o6 := some (.int (maxL ((dueL L).map (·.2)) 0))) (o7 := some (.int r7)) (o10 := o10) (o11 := o11) (o12 := o12) hnum (linesI_nodup hI) hq
      rw [ep]
      have hqn : NumOk qs := fun q h => hnum q (hq q h)
      exact fin _ _ p10 p11 (numBy_tup A (linesI_nodup hI) hq hq0 (linesI_names hI)) (orAll_lt hqn).1 (orAll_lt hqn).2
  -- the first test
  have hp20 : (two (kc (.int 2)) (kc (.int 20)) powD) (envM mx L (some (.int (0 + (m : Nat)))) (some (.int (maxL ((dueL L).map (·.2)) 0))) (some (.int r7)) (some .non) (some (.int (2 ^ j))) o10 o11 o12) = ret (.int 1048576) := two_of (a := .int 2) (b := .int 20) rfl rfl pow20
  have hT : orT (tst (two (getV 7) (kc (.int 5)) (eqD false))) (tst (two (getV 9) (two (kc (.int 2)) (kc (.int 20)) powD) geD)) (envM mx L (some (.int (0 + (m : Nat)))) (some (.int (maxL ((dueL L).map (·.2)) 0))) (some (.int r7)) (some .non) (some (.int (2 ^ j))) o10 o11 o12) = ret (decide (r7 = 5) || decide ((1048576 : Int) ≤ 2 ^ j)) := by
    show bnd (tst (two (getV 7) (kc (.int 5)) (eqD false)) _) _ = _
    rw [tst_of (two_of (a := .int r7) (b := .int 5) rfl rfl (eqD_int false r7 5)), bnd_ret, tst_of (two_of (a := .int (2 ^ j)) rfl hp20 (show geD (.int (2 ^ j)) (.int 1048576) = ret (.bl (decide ((1048576 : Int) ≤ 2 ^ j))) from rfl))]
    cases h : decide (r7 = 5) <;> rfl
  cases hc : (decide (r7 = 5) || decide ((1048576 : Int) ≤ 2 ^ j)) with
  | false =>
    rw [hc] at hT
    rw [seq_of (if_no hT)]
    have hj2 : (2 : Int) ^ j < 1048576 := by
      have := (Bool.or_eq_false_iff.mp hc).2
      have := of_decide_eq_false this
      omega
    refine key _ _ ?_ ?_ hj2
    · rw [← hj]; exact numBy_none A hnum (by rw [hj]; exact hj2)
    · rw [pow_int]; exact Int.natCast_nonneg _
  | true =>
    rw [hc] at hT
    refine seq_run ?_
    rw [if_yes hT]
    refine seq_run (set_run ?_)
    refine thing_run rfl fun t h0 h1 => ?_
    show (setI 9 (getV 8) (envM mx L (some (.int (0 + (m : Nat)))) (some (.int (maxL ((dueL L).map (·.2)) 0))) (some (.int r7)) (some (.int t)) (some (.int (2 ^ j))) o10 o11 o12)).run _ e
    rw [set_of (d := .int t) rfl]
    exact key (.int t) t (numBy_int A h0 h1) h0 h1
theorem runZ_run {n : Nat} {g : EnvD → MS} {ds : List D} {k : D → Prop} {e : Exn → Prop} (x : (g (some (.vz 0) :: begin_ (n - 1) ds)).run (fun o => match o with
  | .nx _ => k .non
  | .rt d => k d
  | _ => False) (fun y => e y.1)) : (runZ n g ds).run k e := by
  refine (g _).mono _ _ _ _ (fun o ho => ?_) (fun _ z => z) x
  cases o <;> exact ho
theorem for_run {fs : EnvD → M Exn (List D)} {b : D → EnvD → Option EnvD} {g : EnvD → MS} {ρ : EnvD} {k : Out → Prop} {e : Exn × EnvD → Prop} (x : (fs ρ).run (fun ds => (forM b g ds ρ).run k e) (fun y => e (y, ρ))) : (forS fs b g ρ).run k e := x
theorem call_run1 {f : EnvD → M Exn D} {g : List D → M Exn (List D)} {ρ : EnvD} {k : List D → Prop} {e : Exn → Prop} (x : (f ρ).run (fun d => (g [d]).run k e) e) : ((fun ρ => bnd ((consD f nilA) ρ) g) ρ).run k e := x
theorem runL_of {m : M Exn (List D)} {a : List D} {k : List D → Prop} {e : Exn → Prop} (h : m = ret a) (hk : k a) : m.run k e := by rw [h]; exact hk
/-- what the lines are, in the end -/
theorem m_law_lines_run {k : D → Prop} {e : Exn → Prop} (hm1 : 1 ≤ mx) (hm10 : mx ≤ 10) (hk : ∀ L : Ln, LinesI A L → 1 ≤ L.length → (L.length : Int) ≤ mx → k (.tup [.lst (rowsL L), .lst (dueD (dueL L))])) : (m__law_lines A [.int mx]).run k e := by
  refine runZ_run ?_
  show (seqS _ _ [some (.vz 0), some (.im (.int mx)), none, none, none, none, none, none, none, none, none, none, none]).run _ _
  rw [seq_of (ρ' := envM mx [] none none none none none none none none) (by
    show bnd (lft _ (lstD (W10.map D.str))) _ = _
    rw [show lstD (W10.map D.str) = ret wordsD from if_pos (by decide), lft_ret, bnd_ret]
    show bnd (lft _ (lstD [])) _ = _
    rw [show lstD [] = ret (D.lst []) from if_pos (by decide), lft_ret, bnd_ret]
    show bnd (lft _ (lstD [])) _ = _
    rw [show lstD [] = ret (D.lst []) from if_pos (by decide), lft_ret, bnd_ret]
    rfl)]
  refine seq_run ?_
  refine for_run ?_
  refine call_run1 (two_run (run_of (a := .int 1) rfl ?_))
  refine roll_run (n := mx) rfl rfl (by omega) (by omega) fun r h0 h1 => ?_
  have e1 : range1D [.int (1 + r)] = ret ((List.range (1 + r).toNat).map fun i => D.int (0 + (i : Nat))) := by
    show (if -(2 ^ 62) ≤ 1 + r ∧ 1 + r < 2 ^ 62 then rangeD 0 (1 + r).toNat else stuck) = _
    rw [if_pos ⟨by omega, by omega⟩]
    exact if_pos (Nat.le_trans (by omega) sizeLine_big)
  refine run_of (a := .int (1 + r)) rfl ?_
  refine runL_of e1 ?_
  generalize hn : (1 + r).toNat = n
  have hn1 : 1 ≤ n ∧ (n : Int) ≤ mx := by omega
  refine forM_run (fun rem ρ => ∃ (L : Ln) (o2 o6 o7 o8 o9 o10 o11 o12 : Option D), LinesI A L ∧ L.length ≤ n ∧ rem = ((List.range n).drop L.length).map (fun i : Nat => D.int (0 + (i : Nat))) ∧ ρ = envM mx L o2 o6 o7 o8 o9 o10 o11 o12) ?_ ?_ _ _ ⟨[], none, none, none, none, none, none, none, none, ⟨trivial, (fun _ h => by cases h), rfl⟩, Nat.zero_le _, rfl, rfl⟩
  · rintro d ds ρ ⟨L, o2, o6, o7, o8, o9, o10, o11, o12, hI, hL, hrem, rfl⟩
    have hlt : L.length < n := by
      rcases Nat.lt_or_ge L.length n with h | h
      · exact h
      · rw [List.drop_of_length_le (by simpa using h)] at hrem; cases hrem
    rw [List.drop_eq_getElem_cons (by simpa using hlt), List.map_cons] at hrem
    injection hrem with hd hds
    rw [List.getElem_range] at hd
    subst hd
    have hw : W10[L.length]? = some W10[L.length]! := by
      have h10 : L.length < W10.length := by rw [W10_len]; omega
      rw [List.getElem?_eq_getElem h10, List.getElem!_eq_getElem?_getD, List.getElem?_eq_getElem h10]
      rfl
    refine ⟨envM mx L (some (.int (0 + (L.length : Nat)))) o6 o7 o8 o9 o10 o11 o12, rfl, body_run A hI rfl hw fun t m p6 p7 p8 p9 p10 p11 p12 hI2 => ?_⟩
    refine ⟨_, _, _, _, _, _, _, _, _, hI2, by rw [List.length_append]; show L.length + 1 ≤ n; omega, ?_, rfl⟩
    rw [hds, List.length_append]; rfl
  · rintro ρ ⟨L, o2, o6, o7, o8, o9, o10, o11, o12, hI, hL, hrem, rfl⟩
    have hlen : L.length = n := by
      have := congrArg List.length hrem
      rw [List.length_nil, List.length_map, List.length_drop, List.length_range] at this
      omega
    show (bnd (lft _ (bnd (ret [D.lst (rowsL L), .lst (dueD (dueL L))]) tupD)) _).run _ _
    rw [bnd_ret, tupD2]
    exact hk L hI (by omega) (by omega)
end
end DL

namespace DL
open PySem PySem.Spec L2
theorem isOne_eq {n : Int} (h0 : 0 ≤ n) (h1 : n < 1048576) : isOne n = isBit n := by
  obtain ⟨m, rfl⟩ : ∃ m : Nat, n = m := ⟨n.toNat, by omega⟩
  have hm : m < 2 ^ 42 := by
    have : (2 : Nat) ^ 42 = 4398046511104 := by decide
    omega
  unfold isOne
  rw [isBit_iff hm, Int.toNat_natCast]
theorem marks_same {due : Due} (h : NumOk due) : marksL isOne due = marksL isBit due := by
  unfold marksL
  congr 1
  refine List.filter_congr fun n hn => ?_
  obtain ⟨p, hp, rfl⟩ := keysOf_mem (srt_mem.mp hn)
  exact isOne_eq (h p hp).1 (h p hp).2
theorem bits_same {due : Due} (h : NumOk due) : lawBits due = markBits due := by unfold lawBits markBits; rw [marks_same h]
section
variable (A : Cl)
theorem cond_ok {rows : D} {r : Str} (hr : r ∈ (["bar", "drop", "keep", "leave"] : List Str)) : cond_Kind [none, some (.im rows), some (.im (.str r)), none, none] = ret false := by
  rcases List.mem_cons.mp hr with rfl | hr
  · rfl
  rcases List.mem_cons.mp hr with rfl | hr
  · rfl
  rcases List.mem_cons.mp hr with rfl | hr
  · rfl
  rcases List.mem_cons.mp hr with rfl | hr
  · rfl
  · cases hr
theorem kindFin_ok {rows : D} {due : Due} {r : Str} (hr : r ∈ (["bar", "drop", "keep", "leave"] : List Str)) (hl : due.length ≤ 900) : kindFin A cond_Kind rows (.str r) (.lst (dueD due)) = ret (kindD A.Kind due r) := by
  show (match dueOf (dueD due) with
    | some due => if due.length ≤ 900 then bnd (cond_Kind [none, some (.im rows), some (.im (.str r)), none, none]) (kindFin2 A due (.str r)) else stuck
    | none => stuck) = _
  rw [dueOf_dueD]
  show (if due.length ≤ 900 then bnd (cond_Kind [none, some (.im rows), some (.im (.str r)), none, none]) (kindFin2 A due (.str r)) else stuck) = _
  rw [if_pos hl, cond_ok hr, bnd_ret]
  rfl
theorem m_init_eq {L : Ln} (hI : LinesI A L) (h1 : 1 ≤ L.length) (h2 : L.length ≤ 10) {r : Str} (hr : r ∈ (["bar", "drop", "keep", "leave"] : List Str)) : m_Kind___init__ A [.lst (rowsL L), .str r] = ret (kindD A.Kind (dueL L) r) := by
  show bnd (m_read_rows A [.lst (L.map rowD)]) _ = _
  rw [m_read_rows_eq A h1 h2 hI.1, bnd_ret]
  exact kindFin_ok A hr (by show (L.map (·.2)).length ≤ 900; rw [List.length_map]; omega)
theorem m_rule_run {k : D → Prop} {e : Exn → Prop} (hk : ∀ r : Str, r ∈ (["bar", "drop", "keep", "leave"] : List Str) → k (.str r)) : (m__law_rule_of A []).run k e := by
  refine runZ_run ?_
  show (retS _ [some (.vz 0)]).run _ _
  show (two (fun ρ => bnd ((consD (kc (.str "bar")) (consD (kc (.str "drop")) (consD (kc (.str "keep")) (consD (kc (.str "leave")) nilA)))) ρ) lstD) (callZ 0 (consD (kc (.int 4)) nilA) (ofN 1 m_law_roll)) ixD [some (.vz 0)]).run k e
  refine two_run (run_of (a := .lst [.str "bar", .str "drop", .str "keep", .str "leave"]) (show lstD [.str "bar", .str "drop", .str "keep", .str "leave"] = _ from if_pos (by decide)) ?_)
  refine roll_run (n := 4) rfl rfl (by decide) (by decide) fun i h0 h1 => ?_
  have hi : i = 0 ∨ i = 1 ∨ i = 2 ∨ i = 3 := by omega
  rcases hi with rfl | rfl | rfl | rfl
  · exact hk _ (by decide)
  · exact hk _ (by decide)
  · exact hk _ (by decide)
  · exact hk _ (by decide)
end
end DL

namespace DL
open PySem PySem.Spec L2
def ppD (p : Str × Int) : PyData := .tuple [.str p.1, .int p.2]
theorem toPs_due : ∀ due : Due, toPs (dueD due) = some (due.map ppD)
  | [] => rfl
  | p :: r => by
    show (toP (pairD p)).bind (fun p => (toPs (dueD r)).map fun ps => p :: ps) = _
    rw [toPs_due r]; rfl
theorem eqvAll_due : ∀ a b : Due, PyData.eqvAll (a.map ppD) (b.map ppD) = decide (a = b)
  | [], [] => by simp [PyData.eqvAll]
  | [], _ :: _ => by simp [PyData.eqvAll]
  | _ :: _, [] => by simp [PyData.eqvAll]
  | p :: r, q :: t => by
    rw [List.map_cons, List.map_cons]
    unfold PyData.eqvAll
    rw [eqvAll_due r t]
    have e : PyData.eqv (ppD p) (ppD q) = decide (p = q) := by
      obtain ⟨p1, p2⟩ := p
      obtain ⟨q1, q2⟩ := q
      show PyData.eqv (.tuple [.str p1, .int p2]) (.tuple [.str q1, .int q2]) = _
      unfold PyData.eqv PyData.eqvAll PyData.eqvAll PyData.eqvAll PyData.eqv
      by_cases h1 : p1 = q1 <;> by_cases h2 : p2 = q2 <;> simp [h1, h2]
    rw [e]
    by_cases h1 : p = q <;> by_cases h2 : r = t <;> simp [h1, h2]
theorem lay_due {due : Due} (hn : NamesOk due) : Lay 2 (.lst (dueD due)) := lay_lst fun d hd => by
  obtain ⟨p, hp, rfl⟩ := List.mem_map.mp hd
  refine lay_tup fun x hx => ?_
  rcases List.mem_cons.mp hx with rfl | hx
  · exact lay_str (W11_ok _ (hn _ hp))
  · rw [List.mem_singleton] at hx; subst hx; exact lay_int _
theorem eqD_due (neg : Bool) {a b : Due} (ha : NamesOk a) (hb : NamesOk b) : eqD neg (.lst (dueD a)) (.lst (dueD b)) = ret (.bl (if neg then !decide (a = b) else decide (a = b))) := by
  rw [eqD_lay (lay_due ha) (lay_due hb)]
  have e : eqvD (.lst (dueD a)) (.lst (dueD b)) = decide (a = b) := by
    unfold eqvD
    have e1 : ∀ d : Due, toP (.lst (dueD d)) = some (.list (d.map ppD)) := fun d => by unfold toP; rw [toPs_due]; rfl
    rw [e1, e1]
    show PyData.eqv (.list _) (.list _) = _
    unfold PyData.eqv
    exact eqvAll_due a b
  rw [e]
abbrev Rules4 : List Str := ["bar", "drop", "keep", "leave"]
theorem Rules4_ok : ∀ s ∈ Rules4, PyData.strOk s = true := by decide +kernel
section
variable (A : Cl) {due due2 : Due} {r r2 : Str}
theorem m_eq_eq (hn : NamesOk due) (hn2 : NamesOk due2) (hr : r ∈ Rules4) (hr2 : r2 ∈ Rules4) : m_Kind___eq__ A [kindD A.Kind due r, kindD A.Kind due2 r2] = ret (.bl (decide (due = due2) && decide (r = r2))) := by
  refine runD_of (ret_of ?_)
  show andV _ _ [some (.im (kindD A.Kind due r)), some (.im (kindD A.Kind due2 r2))] = _
  have e1 : one (getV 1) (isiC A.Kind) [some (.im (kindD A.Kind due r)), some (.im (kindD A.Kind due2 r2))] = ret (.bl true) := by
    refine one_of (a := kindD A.Kind due2 r2) rfl ?_
    show (if A.Kind = A.Kind then ret (D.bl true) else stuck) = _
    rw [if_pos rfl]
  have e2 : two (one (getV 0) (fldD A.Kind "lines")) (one (getV 1) (fldD A.Kind "lines")) (eqD false) [some (.im (kindD A.Kind due r)), some (.im (kindD A.Kind due2 r2))] = ret (.bl (decide (due = due2))) := two_of (one_of (a := kindD A.Kind due r) rfl (kind_lines _ _ _)) (one_of (a := kindD A.Kind due2 r2) rfl (kind_lines _ _ _)) (eqD_due false hn hn2)
  have e3 : two (one (getV 0) (fldD A.Kind "rule")) (one (getV 1) (fldD A.Kind "rule")) (eqD false) [some (.im (kindD A.Kind due r)), some (.im (kindD A.Kind due2 r2))] = ret (.bl (decide (r = r2))) := two_of (one_of (a := kindD A.Kind due r) rfl (kind_rule _ _ _)) (one_of (a := kindD A.Kind due2 r2) rfl (kind_rule _ _ _)) (eqD_str false (Rules4_ok _ hr) (Rules4_ok _ hr2))
  rw [andV_of e1, if_pos rfl, andV_of e2, e3]
  cases decide (due = due2) <;> rfl
theorem m_eq_lst (ds : List D) : m_Kind___eq__ A [kindD A.Kind due r, .lst ds] = ret (.bl false) := by
  refine runD_of (ret_of ?_)
  show andV _ _ [some (.im (kindD A.Kind due r)), some (.im (.lst ds))] = _
  rw [andV_of (b := false) rfl]
  rfl
theorem eqC_kinds (neg : Bool) (hn : NamesOk due) (hn2 : NamesOk due2) (hr : r ∈ Rules4) (hr2 : r2 ∈ Rules4) : eqC A.Kind neg (m_Kind___eq__ A) (kindD A.Kind due r) (kindD A.Kind due2 r2) = ret (.bl (if neg then !(decide (due = due2) && decide (r = r2)) else (decide (due = due2) && decide (r = r2)))) := by
  show (if A.Kind = A.Kind ∧ okR A.Kind (kindD A.Kind due2 r2) = true then bnd (noX (m_Kind___eq__ A [kindD A.Kind due r, kindD A.Kind due2 r2])) (fun r => match r with
    | .bl c => ret (D.bl (if neg then !c else c))
    | _ => stuck) else stuck) = _
  rw [if_pos ⟨rfl, decide_eq_true rfl⟩, m_eq_eq A hn hn2 hr hr2, noX_ret, bnd_ret]
theorem eqC_lst (neg : Bool) (ds : List D) : eqC A.Kind neg (m_Kind___eq__ A) (kindD A.Kind due r) (.lst ds) = ret (.bl (if neg then true else false)) := by
  show (if A.Kind = A.Kind ∧ okR A.Kind (.lst ds) = true then bnd (noX (m_Kind___eq__ A [kindD A.Kind due r, .lst ds])) (fun r => match r with
    | .bl c => ret (D.bl (if neg then !c else c))
    | _ => stuck) else stuck) = _
  rw [if_pos ⟨rfl, rfl⟩, m_eq_lst, noX_ret, bnd_ret]
  cases neg <;> rfl
theorem diff_rule (h : r ≠ r2) : diffF [("lines", D.lst (dueD due)), ("rule", .str r), ("table", .dct (tabD due)), ("firsts", .dct (firstsD due)), ("all_bits", .int (orAll due))] [("lines", D.lst (dueD due2)), ("rule", .str r2), ("table", .dct (tabD due2)), ("firsts", .dct (firstsD due2)), ("all_bits", .int (orAll due2))] = true := by
  unfold diffF
  rw [List.any_cons, List.any_cons]
  have : (!decide ((V.str r) = V.str r2)) = true := by
    rw [decide_eq_false (by intro z; exact h (by cases z; rfl))]; rfl
  show (_ || ((!decide ((V.str r) = V.str r2)) || _)) = true
  rw [this]
  simp
theorem inGo_no : ∀ (l : List Str), NamesOk due → r ∈ Rules4 → (∀ s ∈ l, s ∈ Rules4 ∧ s ≠ r) → inGo A.Kind (m_Kind___eq__ A) (kindD A.Kind due r) (l.map fun s => kindD A.Kind due s) = ret (.bl false)
  | [], _, _, _ => rfl
  | s :: l, hn, hr, h => by
    obtain ⟨hs, hne⟩ := h s (List.mem_cons_self ..)
    rw [List.map_cons]
    show (if A.Kind = A.Kind ∧ A.Kind = A.Kind ∧ diffF _ _ = true then bnd (noX (m_Kind___eq__ A [kindD A.Kind due s, kindD A.Kind due r])) (fun b => match b with
      | .bl c => if c = true then ret (D.bl true) else inGo A.Kind (m_Kind___eq__ A) (kindD A.Kind due r) (l.map fun s => kindD A.Kind due s)
      | _ => stuck) else stuck) = _
    rw [if_pos ⟨rfl, rfl, diff_rule hne⟩, m_eq_eq A hn hn hs hr, noX_ret, bnd_ret, decide_eq_false hne, Bool.and_false]
    exact inGo_no l hn hr fun x hx => h x (List.mem_cons_of_mem _ hx)
theorem m_rest_eq : m_Kind_rest A [kindD A.Kind due r] = ret (.str r) := runD_of (ret_of (one_of (a := kindD A.Kind due r) rfl (kind_rule _ _ _)))
theorem m_names_eq (hn : NamesOk due) : m_Kind_names A [kindD A.Kind due r] = ret (.lst ((due.filter fun p => decide (firstOf due p.2 = p.1)).map fun p => .str p.1)) := by
  refine runD_of (ret_of ?_)
  show lcD _ _ _ _ _ [some (.im (kindD A.Kind due r)), none, none] = _
  refine lcD_eq (xs := due) pairD (fun p => decide (firstOf due p.2 = p.1)) (fun p => .str p.1) ?_ (fun p hp => ⟨[some (.im (kindD A.Kind due r)), some (.im (.str p.1)), some (.im (.int p.2))], rfl, ?_, fun _ => rfl⟩)
  · show bnd (one (getV 0) (fldD A.Kind "lines") _) itemsL = _
    rw [one_of (a := kindD A.Kind due r) rfl (kind_lines A.Kind due r)]; rfl
  · refine tst_of (two_of (two_of (one_of (a := kindD A.Kind due r) rfl (kind_firsts A.Kind due r)) (b := .int p.2) rfl (dget_first hp)) (b := .str p.1) rfl ?_)
    rw [eqD_str false (firstOf_strOk hn hp) (W11_ok _ (hn _ hp))]; rfl
theorem m_number_eq (hd : (due.map (·.1)).Nodup) {p : Str × Int} (hp : p ∈ due) : m_Kind_number A [kindD A.Kind due r, .str p.1] = ret (.int p.2) := by
  refine runD_of ?_
  show seqS _ _ [some (.im (kindD A.Kind due r)), some (.im (.str p.1))] = _
  have e1 : one (getV 1) (isiD "str") [some (.im (kindD A.Kind due r)), some (.im (.str p.1))] = ret (.bl true) := rfl
  have e2 : two (getV 1) (one (getV 0) (fldD A.Kind "table")) (inDct true) [some (.im (kindD A.Kind due r)), some (.im (.str p.1))] = ret (.bl false) := by
    refine two_of (a := .str p.1) (b := .dct (tabD due)) rfl (one_of (a := kindD A.Kind due r) rfl (kind_table A.Kind due r)) ?_
    show ret (D.bl (!(valD (tabD due) (.inr p.1)).isSome)) = _
    rw [valD_tab hd hp]; rfl
  rw [seq_of (if_no (orT_no (notT_of (tst_of e1)) (tst_of e2)))]
  refine ret_of (two_of (a := .dct (tabD due)) (b := .str p.1) (one_of (a := kindD A.Kind due r) rfl (kind_table A.Kind due r)) rfl ?_)
  show (match valD (tabD due) (.inr p.1) with
    | some d => ret d
    | none => stuck) = _
  rw [valD_tab hd hp]
/-- the law's own lines as rows -/
def intL (due : Due) : Ln := due.map fun p => (D.int p.2, p)
theorem rows_int (due : Due) : rowsL (intL due) = dueD due := by
  show (intL due).map rowD = _
  unfold intL dueD
  rw [List.map_map]; rfl
theorem due_int (due : Due) : dueL (intL due) = due := by
  show (intL due).map (·.2) = _
  unfold intL
  rw [List.map_map]
  show due.map id = due
  rw [List.map_id]
theorem readsR_int : ∀ (due d : Due), NumOk due → NamesOk due → ((d ++ due).map (·.1)).Nodup → ReadsR A d (intL due)
  | [], _, _, _, _ => trivial
  | p :: due, d, hnum, hn, hd => by
    have hp := hnum p (List.mem_cons_self ..)
    have hd2 : ((d ++ [p] ++ due).map (·.1)).Nodup := by rw [List.append_assoc]; exact hd
    refine ⟨⟨numBy_int A hp.1 hp.2, hp.1, hn p (List.mem_cons_self ..), ?_⟩, readsR_int due (d ++ [p]) (fun q hq => hnum q (List.mem_cons_of_mem _ hq)) (fun q hq => hn q (List.mem_cons_of_mem _ hq)) hd2⟩
    rw [List.map_append, List.nodup_append] at hd
    intro hm
    exact hd.2.2 _ hm p.1 (List.mem_map.mpr ⟨p, List.mem_cons_self .., rfl⟩) rfl
theorem init_int {r : Str} (hnum : NumOk due) (hn : NamesOk due) (hd : (due.map (·.1)).Nodup) (h1 : 1 ≤ due.length) (h2 : due.length ≤ 10) (hr : r ∈ Rules4) : m_Kind___init__ A [.lst (dueD due), .str r] = ret (kindD A.Kind due r) := by
  have hlen : (intL due).length = due.length := List.length_map ..
  have h := m_read_rows_eq A (L := intL due) (by omega) (by omega) (readsR_int A due [] hnum hn (by rw [List.nil_append]; exact hd))
  rw [show (intL due).map rowD = dueD due from rows_int due, show (intL due).map (·.2) = due from due_int due] at h
  show bnd (m_read_rows A [.lst (dueD due)]) _ = _
  rw [h, bnd_ret]
  exact kindFin_ok A hr (by omega)
theorem readsR_lay : ∀ (L : Ln) (d : Due), ReadsR A d L → ∀ q ∈ L, Lay 1 q.1 ∧ q.2.1 ∈ W11
  | x :: L, d, ⟨h1, h2⟩, q, hq => by
    rcases List.mem_cons.mp hq with rfl | hq
    · exact ⟨h1.1.2, h1.2.2.1⟩
    · exact readsR_lay L _ h2 q hq
theorem lay_rows {L : Ln} (h : ReadsR A [] L) : Lay 3 (.lst (rowsL L)) := lay_lst fun d hd => by
  obtain ⟨q, hq, rfl⟩ := List.mem_map.mp hd
  obtain ⟨h1, h2⟩ := readsR_lay A L [] h q hq
  refine lay_tup fun x hx => ?_
  rcases List.mem_cons.mp hx with rfl | hx
  · exact lay_str (W11_ok _ h2)
  · rw [List.mem_singleton] at hx; subst hx; exact h1
theorem makeK_eq {fs : EnvD → M Exn (List D)} {fk : EnvD → M Exn D} {n : Nat} {m : List D → M Exn D} {ρ : EnvD} {ds : List D} {d : D} {x : M Exn D} (hf : fs ρ = ret ds) (hn : ds.length = n) (hk : fk ρ = ret d) (hx : m (ds ++ [d]) = x) : makeK fs fk n m ρ = x := by
  unfold makeK
  rw [hf, bnd_ret, hk, bnd_ret, if_pos hn, hx]
theorem rev_ne {due : Due} (hd : (due.map (·.1)).Nodup) (hl : 1 < due.length) : due.reverse ≠ due := by
  intro h
  have h0 : due.reverse[0]? = due[0]? := by rw [h]
  rw [List.getElem?_reverse (by omega)] at h0
  have e1 : due[due.length - 1 - 0]? = some due[due.length - 1] := List.getElem?_eq_getElem (by omega)
  have e2 : due[0]? = some due[0] := List.getElem?_eq_getElem (by omega)
  rw [e1, e2] at h0
  have h1 := Option.some.inj h0
  have hnd := hd
  rw [List.nodup_iff_pairwise_ne] at hnd
  have := List.pairwise_iff_getElem.mp hnd 0 (due.length - 1) (by rw [List.length_map]; omega) (by rw [List.length_map]; omega) (by omega)
  rw [List.getElem_map, List.getElem_map, h1] at this
  exact this rfl
end
end DL

namespace DL
open PySem PySem.Spec L2
theorem or_sub {due qs : Due} (hnum : NumOk due) (hq : ∀ q ∈ qs, q ∈ due) : Builtin.bitAnd (orAll qs) (orAll due) = orAll qs := by
  have hqn : NumOk qs := fun q h => hnum q (hq q h)
  rw [orAll_nat hqn, orAll_nat hnum, bitAnd_nat]
  refine congrArg Int.ofNat ?_
  apply Nat.eq_of_testBit_eq
  intro i
  rw [Nat.testBit_and, orN_bit, orN_bit]
  cases h : (qs.map fun p => p.2.toNat).any fun n => n.testBit i with
  | false => rfl
  | true =>
    rw [List.any_map, List.any_eq_true] at h
    obtain ⟨q, hq2, hb⟩ := h
    have : ((due.map fun p => p.2.toNat).any fun n => n.testBit i) = true := by
      rw [List.any_map, List.any_eq_true]
      exact ⟨q, hq q hq2, hb⟩
    rw [this]; rfl
theorem sumBits_lt (t : Nat → Bool) : ∀ k, sumBits t k < 2 ^ k
  | 0 => by show 0 < 1; decide
  | k + 1 => by
    rw [sumBits_succ, Nat.pow_succ]
    have := sumBits_lt t k
    split <;> omega
theorem sumBits_bit (t : Nat → Bool) (i : Nat) : ∀ k, (sumBits t k).testBit i = (decide (i < k) && t i)
  | 0 => by show (0 : Nat).testBit i = _; simp
  | k + 1 => by
    have ih := sumBits_bit t i k
    have hlt := sumBits_lt t k
    rw [sumBits_succ]
    by_cases ht : t k = true
    · rw [if_pos ht, Nat.add_comm]
      rcases Nat.lt_trichotomy i k with h | h | h
      · rw [Nat.testBit_two_pow_add_gt h, ih]
        rw [decide_eq_true h, decide_eq_true (show i < k + 1 by omega)]
      · subst h
        rw [Nat.testBit_two_pow_add_eq, ih, decide_eq_false (by omega), decide_eq_true (show i < i + 1 by omega), ht]; rfl
      · have : 2 ^ k + sumBits t k < 2 ^ (k + 1) := by rw [Nat.pow_succ]; omega
        rw [testBit_high this (by omega), decide_eq_false (by omega)]; rfl
    · rw [if_neg ht, Nat.add_zero, ih]
      rcases Nat.lt_trichotomy i k with h | h | h
      · rw [decide_eq_true h, decide_eq_true (show i < k + 1 by omega)]
      · subst h
        have ht : t i = false := by simpa using ht
        rw [ht]; simp
      · rw [decide_eq_false (by omega), decide_eq_false (by omega)]
/-- the bits left out -/
theorem left_sub {K n : Nat} (hK : K < 2 ^ 20) : Builtin.bitAnd ((K : Int) - Builtin.bitAnd K n) K = (K : Int) - Builtin.bitAnd K n ∧ 0 ≤ (K : Int) - Builtin.bitAnd K n ∧ (K : Int) - Builtin.bitAnd K n < 1048576 := by
  have h1 := sumBits_and K n 20
  have h2 : K &&& n ≤ K := Nat.and_le_left
  rw [Nat.mod_eq_of_lt (Nat.lt_of_le_of_lt h2 hK), Nat.mod_eq_of_lt hK] at h1
  have e : (K : Int) - Builtin.bitAnd K n = (sumBits (fun i => K.testBit i && !n.testBit i) 20 : Nat) := by
    rw [bitAnd_nat]; omega
  have hlt := sumBits_lt (fun i => K.testBit i && !n.testBit i) 20
  rw [e, bitAnd_nat]
  have e20 : (2 : Nat) ^ 20 = 1048576 := by decide
  refine ⟨congrArg Int.ofNat ?_, by omega, by omega⟩
  apply Nat.eq_of_testBit_eq
  intro i
  rw [Nat.testBit_and, sumBits_bit]
  cases K.testBit i <;> cases n.testBit i <;> simp
theorem left_left {K n : Nat} (h : Builtin.bitAnd (n : Int) (K : Int) = (n : Int)) : (K : Int) - Builtin.bitAnd K ((K : Int) - Builtin.bitAnd K n) = n := by
  have hn : n &&& K = n := by
    rw [bitAnd_nat] at h; exact Int.ofNat.inj h
  have hle : n ≤ K := by rw [← hn]; exact Nat.and_le_right
  have hk : K &&& n = n := by rw [Nat.and_comm]; exact hn
  have h0 : Builtin.bitAnd (K : Int) (n : Int) = n := by rw [bitAnd_nat, hk]
  rw [h0, show (K : Int) - n = ((K - n : Nat) : Int) by omega, bitAnd_nat]
  have h1 : (K - n) &&& K = K - n := by
    have e := sumBits_and K n K
    have e2 : K % 2 ^ K = K := Nat.mod_eq_of_lt Nat.lt_two_pow_self
    rw [hk, e2, Nat.mod_eq_of_lt (Nat.lt_of_le_of_lt hle Nat.lt_two_pow_self)] at e
    have e3 : K - n = sumBits (fun i => K.testBit i && !n.testBit i) K := by omega
    rw [e3]
    apply Nat.eq_of_testBit_eq
    intro i
    rw [Nat.testBit_and, sumBits_bit]
    cases K.testBit i <;> cases n.testBit i <;> simp
  rw [Nat.and_comm, h1]
  omega
theorem left_ne {K n : Nat} (hK : K < 2 ^ 20) (hz : (n : Int) = (K : Int) - Builtin.bitAnd K n) : K = 0 := by
  have h1 := sumBits_and K n 20
  have h2 : K &&& n ≤ K := Nat.and_le_left
  rw [Nat.mod_eq_of_lt (Nat.lt_of_le_of_lt h2 hK), Nat.mod_eq_of_lt hK] at h1
  have e : n = sumBits (fun i => K.testBit i && !n.testBit i) 20 := by
    rw [bitAnd_nat] at hz; omega
  have h0 : n = 0 := by
    apply Nat.eq_of_testBit_eq
    intro i
    rw [Nat.zero_testBit]
    have := congrArg (fun x : Nat => x.testBit i) e
    simp only [sumBits_bit] at this
    cases h : n.testBit i with
    | false => rfl
    | true => rw [h] at this; simp at this
  subst h0
  rw [bitAnd_nat, Nat.and_zero] at hz
  omega
def zzL : Due := [("ZZ", 1)]
theorem zz_fresh : ("ZZ" : Str) ∉ W10 := by decide +kernel

/-! ### bits of whole numbers -/
theorem and_nat {a b : Int} (ha : 0 ≤ a) (hb : 0 ≤ b) : Builtin.bitAnd a b = ((a.toNat &&& b.toNat : Nat) : Int) := by
  obtain ⟨x, rfl⟩ : ∃ x : Nat, a = x := ⟨a.toNat, by omega⟩
  obtain ⟨y, rfl⟩ : ∃ y : Nat, b = y := ⟨b.toNat, by omega⟩
  rw [bitAnd_nat, Int.toNat_natCast, Int.toNat_natCast]
theorem or_nat {a b : Int} (ha : 0 ≤ a) (hb : 0 ≤ b) : Builtin.bitOr a b = ((a.toNat ||| b.toNat : Nat) : Int) := by
  obtain ⟨x, rfl⟩ : ∃ x : Nat, a = x := ⟨a.toNat, by omega⟩
  obtain ⟨y, rfl⟩ : ∃ y : Nat, b = y := ⟨b.toNat, by omega⟩
  rw [bitOr_nat, Int.toNat_natCast, Int.toNat_natCast]
theorem and_ge {a b : Int} (ha : 0 ≤ a) (hb : 0 ≤ b) : 0 ≤ Builtin.bitAnd a b := by rw [and_nat ha hb]; omega
theorem and_le_l {a b : Int} (ha : 0 ≤ a) (hb : 0 ≤ b) : Builtin.bitAnd a b ≤ a := by
  rw [and_nat ha hb]
  have := Nat.and_le_left (n := a.toNat) (m := b.toNat)
  omega
theorem and_le_r {a b : Int} (ha : 0 ≤ a) (hb : 0 ≤ b) : Builtin.bitAnd a b ≤ b := by
  rw [and_nat ha hb]
  have := Nat.and_le_right (n := a.toNat) (m := b.toNat)
  omega
theorem and_comm' {a b : Int} (ha : 0 ≤ a) (hb : 0 ≤ b) : Builtin.bitAnd a b = Builtin.bitAnd b a := by rw [and_nat ha hb, and_nat hb ha, Nat.and_comm]
theorem and_and {a b : Int} (ha : 0 ≤ a) (hb : 0 ≤ b) : Builtin.bitAnd (Builtin.bitAnd a b) b = Builtin.bitAnd a b := by
  rw [and_nat (and_ge ha hb) hb, and_nat ha hb]
  simp [Nat.and_assoc]
theorem left_in {K n : Int} (hK : 0 ≤ K) (h20 : K < 1048576) (hn : 0 ≤ n) : Builtin.bitAnd (K - Builtin.bitAnd K n) K = K - Builtin.bitAnd K n ∧ 0 ≤ K - Builtin.bitAnd K n ∧ K - Builtin.bitAnd K n < 1048576 := by
  have e1 : K = (K.toNat : Int) := by omega
  have e2 : n = (n.toNat : Int) := by omega
  rw [e1, e2]
  exact left_sub (by omega)

end DL

namespace DL
open PySem PySem.Spec L2
theorem lookup_nd {β : Type} {a : Addr} {b : β} : ∀ {l : List (Addr × β)}, (l.map (·.1)).Nodup → (a, b) ∈ l → l.lookup a = some b
  | [], _, h => by cases h
  | (c, d) :: r, nd, h => by
    rw [List.map_cons, List.nodup_cons] at nd
    rcases List.mem_cons.mp h with e | h
    · cases e
      simp [List.lookup]
    · have ne : a ≠ c := fun z => nd.1 (List.mem_map.mpr ⟨(a, b), h, z⟩)
      have q : (a == c) = false := by simpa using ne
      rw [List.lookup_cons, q]
      exact lookup_nd nd.2 h
theorem tell1_some {nm f : Str} {v : V} {d : D} (h : dOfV v = some d) : tell1 (nm, some f) (some (f, v)) = ret (.tup [.str "refused", .str nm, d]) := by
  show (match dOfV v with
    | some d => if f = f then ret (D.tup [.str "refused", .str nm, d]) else stuck
    | none => stuck : M Exn D) = _
  rw [h]
  exact if_pos rfl
section
variable {A : Cl} (hA : DistA A)
include hA
theorem tell_at (i : Nat) {c : Addr} {p : Str × Option Str} (h : (tellT A)[i]? = some (c, p)) (o : Option (Str × V)) : tellM A ⟨c, o⟩ = tell1 p o := by
  unfold tellM
  rw [lookup_nd hA.nd (List.mem_of_getElem? h)]
theorem tell_BadRows_i (v : Int) : tellM A ⟨A.BadRows, some ("at", .int v)⟩ = ret (.tup [.str "refused", .str "BadRows", .int v]) := (tell_at hA 0 rfl _).trans (tell1_some rfl)
theorem tell_BadRows_n : tellM A ⟨A.BadRows, some ("at", .non)⟩ = ret (.tup [.str "refused", .str "BadRows", .non]) := (tell_at hA 0 rfl _).trans (tell1_some rfl)
theorem tell_BadRest (v : Int) : tellM A ⟨A.BadRest, some ("bits", .int v)⟩ = ret (.tup [.str "refused", .str "BadRest", .int v]) := (tell_at hA 1 rfl _).trans (tell1_some rfl)
theorem tell_BadText_i (v : Int) : tellM A ⟨A.BadText, some ("at", .int v)⟩ = ret (.tup [.str "refused", .str "BadText", .int v]) := (tell_at hA 2 rfl _).trans (tell1_some rfl)
theorem tell_BadText_n : tellM A ⟨A.BadText, some ("at", .non)⟩ = ret (.tup [.str "refused", .str "BadText", .non]) := (tell_at hA 2 rfl _).trans (tell1_some rfl)
theorem tell_Unled (v : Str) : tellM A ⟨A.Unled, some ("name", .str v)⟩ = ret (.tup [.str "refused", .str "Unled", .str v]) := (tell_at hA 3 rfl _).trans (tell1_some rfl)
theorem tell_BadRule : tellM A ⟨A.BadRule, none⟩ = ret (.tup [.str "refused", .str "BadRule"]) := tell_at hA 4 rfl _
theorem tell_BadName : tellM A ⟨A.BadName, none⟩ = ret (.tup [.str "refused", .str "BadName"]) := tell_at hA 5 rfl _
theorem tell_BadNumber : tellM A ⟨A.BadNumber, none⟩ = ret (.tup [.str "refused", .str "BadNumber"]) := tell_at hA 6 rfl _
theorem tell_Unlike : tellM A ⟨A.Unlike, none⟩ = ret (.tup [.str "refused", .str "Unlike"]) := tell_at hA 7 rfl _
theorem tell_BadPairs : tellM A ⟨A.BadPairs, none⟩ = ret (.tup [.str "refused", .str "BadPairs"]) := tell_at hA 8 rfl _
theorem tell_Never : tellM A ⟨A.Never, none⟩ = ret (.tup [.str "refused", .str "Never"]) := tell_at hA 9 rfl _
theorem tell_Nothing : tellM A ⟨A.Nothing, none⟩ = ret (.tup [.str "refused", .str "Nothing"]) := tell_at hA 10 rfl _
end
/-- the rules of rests -/
theorem strOk_rule {r : Str} (h : r ∈ Rules4) : PyData.strOk r = true := Rules4_ok _ h
theorem ok_bar : PyData.strOk "bar" = true := by decide +kernel
theorem ok_drop : PyData.strOk "drop" = true := by decide +kernel
theorem ok_keep : PyData.strOk "keep" = true := by decide +kernel
theorem ok_leave : PyData.strOk "leave" = true := by decide +kernel
theorem eqF_s {a b : Str} (ha : PyData.strOk a = true) (hb : PyData.strOk b = true) : eqD false (.str a) (.str b) = ret (.bl (decide (a = b))) := eqD_str false ha hb
theorem eqT_s {a b : Str} (ha : PyData.strOk a = true) (hb : PyData.strOk b = true) : eqD true (.str a) (.str b) = ret (.bl (!decide (a = b))) := eqD_str true ha hb
theorem rule4 {r : Str} (h : r ∈ Rules4) : r = "bar" ∨ r = "drop" ∨ r = "keep" ∨ r = "leave" := by
  rcases List.mem_cons.mp h with h | h
  · exact .inl h
  rcases List.mem_cons.mp h with h | h
  · exact .inr (.inl h)
  rcases List.mem_cons.mp h with h | h
  · exact .inr (.inr (.inl h))
  rcases List.mem_cons.mp h with h | h
  · exact .inr (.inr (.inr h))
  · cases h
theorem ne_bd : decide (("bar" : Str) = "drop") = false := by decide +kernel
theorem ne_bk : decide (("bar" : Str) = "keep") = false := by decide +kernel
theorem ne_bl : decide (("bar" : Str) = "leave") = false := by decide +kernel
theorem ne_db : decide (("drop" : Str) = "bar") = false := by decide +kernel
theorem ne_dk : decide (("drop" : Str) = "keep") = false := by decide +kernel
theorem ne_dl : decide (("drop" : Str) = "leave") = false := by decide +kernel
theorem ne_kb : decide (("keep" : Str) = "bar") = false := by decide +kernel
theorem ne_kd : decide (("keep" : Str) = "drop") = false := by decide +kernel
theorem ne_kl : decide (("keep" : Str) = "leave") = false := by decide +kernel
theorem ne_lb : decide (("leave" : Str) = "bar") = false := by decide +kernel
theorem ne_ld : decide (("leave" : Str) = "drop") = false := by decide +kernel
theorem ne_lk : decide (("leave" : Str) = "keep") = false := by decide +kernel
/-! is_number -/
section
variable (A : Cl)
theorem isnum_int {t lo hi : Int} : m_is_number A [.int t, .int lo, .int hi] = ret (.bl (decide (lo ≤ t) && decide (t ≤ hi))) := by
  refine runD_of (ret_of ?_)
  have e1 : one (getV 0) (isiD "int") [some (.im (.int t)), some (.im (.int lo)), some (.im (.int hi))] = ret (.bl true) := one_of rfl isi_int_i
  have e2 : one (getV 0) (isiD "bool") [some (.im (.int t)), some (.im (.int lo)), some (.im (.int hi))] = ret (.bl false) := one_of rfl isi_bool_i
  have e3 : chn (getV 1) (getV 0) leD (getV 2) leD [some (.im (.int t)), some (.im (.int lo)), some (.im (.int hi))] = ret (.bl (decide (lo ≤ t) && decide (t ≤ hi))) := by
    rw [chn_of (a := lo) (b := t) (c := hi) rfl rfl rfl]
  show andV _ _ [some (.im (.int t)), some (.im (.int lo)), some (.im (.int hi))] = _
  rw [andV_of e1, if_pos rfl, andV_of (notV_of e2), Bool.not_false, if_pos rfl, e3]
/-- things that are no whole numbers -/
def noInt : D → Bool
  | .non => true | .bl _ => true | .str _ => true | .lst _ => true | .tup _ => true | .dct _ => true
  | _ => false
theorem isnum_no {d lo hi : D} (h : noInt d = true) : m_is_number A [d, lo, hi] = ret (.bl false) := by
  refine runD_of (ret_of ?_)
  show andV _ _ [some (.im d), some (.im lo), some (.im hi)] = _
  have go : ∀ b : Bool, isiD "int" d = ret (.bl b) → (b = true → isiD "bool" d = ret (.bl true)) → andV (one (getV 0) (isiD "int")) (andV (notV (one (getV 0) (isiD "bool"))) (chn (getV 1) (getV 0) leD (getV 2) leD)) [some (.im d), some (.im lo), some (.im hi)] = ret (.bl false) := fun b e1 e2 => by
    rw [andV_of (b := b) (one_of rfl e1)]
    cases b with
    | false => rfl
    | true => rw [if_pos rfl, andV_of (notV_of (b := true) (one_of rfl (e2 rfl)))]; rfl
  cases d with
  | non => exact go false isi_int_non (fun z => nomatch z)
  | bl b => exact go true isi_int_b (fun _ => isi_bool_b)
  | str s => exact go false isi_int_s (fun z => nomatch z)
  | lst ds => exact go false isi_int_l (fun z => nomatch z)
  | tup ds => exact go false isi_int_t (fun z => nomatch z)
  | dct kvs => exact go false isi_int_d (fun z => nomatch z)
  | _ => cases h
end

end DL

namespace DL
open PySem PySem.Spec L2
local macro_rules | `(tactic| exists $es,*) => `(tactic| simp (config := { failIfUnchanged := false }) only [getV_z, getV_s, getB_z, getB_o, getB_s, frz_o, frz_i, frz_n, frz_s, vzAt_z, vzAt_s, begin_z, begin_n, begin_s, wipe_z, wipe_c, kcE_ap, twoE_ap, tw1_ret, tw1_raise, tw2_ret, tw2_raise, oneE_ap, on1_ret, on1_raise, asK_ret, asK_raise, tstE_ap, notE_ap, ntK_ret, ntK_raise, andE_ap, an1_ret, an1_raise, ↓an2_t, ↓an2_f, an2_ret, orE_ap, or1_ret, or1_raise, ↓or2_t, ↓or2_f, or2_ret, andVE_ap, av1_ret, av1_raise, ↓av2_t, ↓av2_f, av2_ret, orVE_ap, ov1_ret, ov1_raise, ↓ov2_t, ↓ov2_f, ov2_ret, notVE_ap, nvK_ret, nvK_raise, chnE_ap, ch1_ret, ch2_ret, ch3_ret, ifDE_ap, id1_ret, id1_raise, ↓id2_t, ↓id2_f, id2_ret, nilE_ap, consE_ap, cn1_ret, cn1_raise, cn2_ret, cn2_raise, toE_ap, ck_ret, ck_raise, lenLe_n, lenLe_c, tupD_s, lstD_s, nilPE_ap, consPE_ap, cp1_ret, cp2_ret, dispE_ap, dpK_1, dpK_2, dpK_3, dpK_4, ofE_0, ofE_1, ofE_2, ofE_3, ofE_4, ofE_5, ofE_6, ofE_7, ofDE_1, flE_ap, flK_i, flK_b, flK_s, flK_n, flK_raise, callZE_ap, makeE_ap, mk1_ret, mk1_raise, mk2_ret, mk2_raise, methE_ap, mt1_ret, mt1_raise, mt2_obj, mt3_ret, mt3_raise, toldE_ap, tdK_ret, tdK_raise, itE_ap, itK_ret, itK_raise, itemsL_l, itemsL_t, itsE_ap, isK_ret, isK_raise, enumD_l, setS_ap, setNil_ap, setConsS_ap, setTup_1, setTup_2, setTup_3, setTup_4, setTup_5, setConsT_ap, seqE_ap, sq1_nx, sq1_rt, sq1_bk, sq1_ct, sq1_raise, setE_ap, st1_ret, st1_raise, setOE_ap, so1_ret, so1_raise, retE_ap, rt1_ret, rt1_raise, retNE_ap, breakE_ap, exprE_ap, ex1_ret, ex1_raise, nopE_ap, ifE_ap, if1_ret, if1_raise, ↓if2_t, ↓if2_f, frzE_ap, raisePE_ap, raiseFE_ap, rf1_i, rf1_s, rf1_n, rf1_raise, tupSE_ap, tp1_ret, tp1_raise, tp2_some, parE_ap, pa1_ret, pa1_raise, pa2_ret, pa2_raise, slot_im, slot_own, par3E_ap, p31_ret, p32_ret, p33_ret, forE_ap, fo1_ret, fo1_raise, yesE_ap, lcE_ap, runE_ap, rd1_nx, rd1_rt, rd1_raise, fsLe_n, fsLe_c, attE_ap, at1_ret, at1_raise, putFD_n, putFD_c, ifRE_ap, ir1_ret, ir1_raise, ↓ir2_t, ↓ir2_f, ir3_raise, runIE_ap, ri1_nx, ri1_raise, runZE_n, methOE_ap, mo1_ret, mo1_raise, mo2_obj, mo3_ret, mo3_raise, mo4_ret, mo4_raise, getDE_ap, gd1_ret, gd2_ret, gd3_some, keyD_i, keyD_s, noE_ap, someE_ap, sm1_ret, slE_ap, sl1_ret, sl2_ret, sl3_ret, slL_ap, ownAt_z, ownAt_s, appE_ap, ap0_l, ap1_ret, ap1_raise, putE_ap, pu0_d, pu1_ret, pu2_ret, pu3_some, lenE_ap, le1_obj, le2_nat, addD_i, subD_i, andD_i, orD_i, xorD_i, ltD_i, leD_i, gtD_i, geD_i, negD_i, eqF_i, eqT_i, len_t0, len_t1, len_t2, len_t3, len_l0, len_l1, len_l2, ix_t0, ix_t1, ix_t2, ix_l0, ix_l1, ix_l2, ix_l3, all_nil, list_l, list_t, tuple_l, tuple_t, pow_220, pow_221, pow_240, pow_219, pow_250, isN_n, notN_n, isN_b, notN_b, isN_i, notN_i, isN_s, notN_s, isN_l, notN_l, isN_t, notN_t, isN_d, notN_d, isN_o, notN_o, isi_int_non, isi_int_b, isi_int_i, isi_int_s, isi_int_l, isi_int_t, isi_int_d, isi_bool_non, isi_bool_b, isi_bool_i, isi_bool_s, isi_bool_l, isi_bool_t, isi_bool_d, isi_str_non, isi_str_b, isi_str_i, isi_str_s, isi_str_l, isi_str_t, isi_str_d, isi_list_non, isi_list_b, isi_list_i, isi_list_s, isi_list_l, isi_list_t, isi_list_d, isi_tuple_non, isi_tuple_b, isi_tuple_i, isi_tuple_s, isi_tuple_l, isi_tuple_t, isi_tuple_d, isi_dict_non, isi_dict_b, isi_dict_i, isi_dict_s, isi_dict_l, isi_dict_t, isi_dict_d, isi2_non, isi2_b, isi2_i, isi2_s, isi2_l, isi2_t, isi2_d, isiC_non, isiC_b, isiC_i, isiC_s, isiC_l, isiC_t, isiC_d, isiC_o, dget_s, dget_i, inDct_sF, inDct_sT, inDct_iF, inDct_iT, val_own, val_bits, val_isi, kind_isi, kd_lines, kd_rule, kd_table, kd_firsts, kd_all, le1_val, le1_kind, km_rows, km_number, km_names, km_aliases, km_marks, km_mark_bits, km_name_of, km_known, km_rest, vm_kind, vm_number, vm_marks, vm_rest, run_ret, run_raise, forM_nil, tw1_run, tw2_run, on1_run, asK_run, ntK_run, an1_run, or1_run, av1_run, ov1_run, nvK_run, ch1_run, ch2_run, ch3_run, id1_run, cn1_run, cn2_run, ck_run, cp1_run, flK_run, mk1_run, mk2_run, mt1_run, mt3_run, tdK_run, itK_run, isK_run, sq1_run, st1_run, so1_run, rt1_run, ex1_run, if1_run, rf1_run, tp1_run, pa1_run, pa2_run, p31_run, p32_run, p33_run, fo1_run, lc1_run, rd1_run, at1_run, ir1_run, ir3_run, ri1_run, mo1_run, mo3_run, mo4_run, gd1_run, gd2_run, sm1_run, sl1_run, sl2_run, sl3_run, ap1_run, pu1_run, pu2_run, le1_run, le2_run, asK_retR, flK_iR, flK_bR, flK_sR, flK_nR, mk2_retR, sq1_nxR, sq1_rtR, sq1_bkR, sq1_ctR, rf1_iR, rf1_sR, rf1_nR, rd1_nxR, rd1_rtR, at1_retR, ri1_nxR, mo4_retR, gd1_retR, sm1_retR, ap1_retR, le1_objR, le2_natR, le1_valR, le1_kindR, eqG_o, eqG_t, eqG_i, eqG_n, eqG_val, insE_ap, in0_l, in1_ret, in1_raise, in2_ret, in2_raise, insK_ok, in1_run, in2_run, tryNE_ap, ty1_ret, ty1_run, List.set_cons_zero, List.set_cons_succ, Bool.not_true, Bool.not_false, Bool.and_true, Bool.true_and, Bool.and_false, Bool.false_and, Bool.or_false, Bool.false_or, Bool.true_or, Bool.or_true, Bool.not_not, Option.isSome_some, Option.isSome_none, Option.bind_some, eq_self, decide_true, decide_false, Int.reduceEq, Int.reduceLT, Int.reduceLE, Int.reduceNeg, Int.reduceAdd, Int.reduceSub, Nat.reduceAdd, List.nil_append, implies_true, forall_const, ↓reduceIte, Bool.false_eq_true, $[$es:term],*])
section
variable (A : Cl) {due : Due} {r : Str} {n : Int}
theorem dueD_map (due : Due) : dueD due = due.map pairD := rfl
theorem vinit_ok (hr : r ∈ Rules4) (h0 : 0 ≤ n) (h1 : n < 1099511627776) (hk : r = "keep" ∨ Builtin.bitAnd n (orAll due) = n) : m_Value___init__ A [kindD A.Kind due r, .int n] = ret (valueD A (kindD A.Kind due r) n) := by
  unfold m_Value___init__ c_FARTHEST
  rcases hk with rfl | hk
  · exists isnum_int, decide_eq_true h0, decide_eq_true (show n ≤ 1099511627775 by omega), m_rest_eq A, m_known_eq A, eqT_s ok_keep ok_keep
    rfl
  · exists isnum_int, decide_eq_true h0, decide_eq_true (show n ≤ 1099511627775 by omega), m_rest_eq A, m_known_eq A, eqT_s (strOk_rule hr) ok_keep, decide_eq_true hk
    rfl
theorem vinit_no {k d : D} (h : noInt d = true) : m_Value___init__ A [k, d] = raise ⟨A.BadNumber, none⟩ := by
  unfold m_Value___init__
  exists isnum_no A h
theorem vinit_far {k : D} (h : n < 0 ∨ 1099511627776 ≤ n) : m_Value___init__ A [k, .int n] = raise ⟨A.BadNumber, none⟩ := by
  unfold m_Value___init__ c_FARTHEST
  rcases h with h | h
  · exists isnum_int, decide_eq_false (show ¬ 0 ≤ n by omega)
  · exists isnum_int, decide_eq_false (show ¬ n ≤ 1099511627775 by omega)
theorem vinit_rest (hr : r ∈ Rules4) (h0 : 0 ≤ n) (h1 : n < 1099511627776) (hk : r ≠ "keep") (hb : Builtin.bitAnd n (orAll due) ≠ n) : m_Value___init__ A [kindD A.Kind due r, .int n] = raise ⟨A.BadNumber, none⟩ := by
  unfold m_Value___init__ c_FARTHEST
  exists isnum_int, decide_eq_true h0, decide_eq_true (show n ≤ 1099511627775 by omega), m_rest_eq A, m_known_eq A, eqT_s (strOk_rule hr) ok_keep, decide_eq_false hk, decide_eq_false hb
theorem vnumber {kd : D} : m_Value_number A [valueD A kd n] = ret (.int n) := by
  unfold m_Value_number
  exists val_bits
theorem vkind {kd : D} : m_Value_kind A [valueD A kd n] = ret kd := by
  unfold m_Value_kind
  exists val_own
theorem m_without_eq (a b : Int) : m_without_bits A [.int a, .int b] = ret (.int (a - Builtin.bitAnd a b)) := rfl
/-- the marks in a number -/
def marksIn (n : Int) (due : Due) : Due := (marksL isBit due).filter fun p => !decide (Builtin.bitAnd n p.2 = 0)
theorem vmarks (hl : due.length < 64) : m_Value_marks A [valueD A (kindD A.Kind due r) n] = ret (.lst ((marksIn n due).map fun p => .str p.1)) := by
  unfold m_Value_marks
  exists m_marks_eq A r hl, dueD_map
  rw [lc1_eq pairD (fun p => !decide (Builtin.bitAnd n p.2 = 0)) (fun p => .str p.1)]
  · rfl
  · intro p hp
    refine ⟨_, rfl, ?_, fun _ => rfl⟩
    exists List.length_nil
theorem vlen (hl : due.length < 64) : m_Value___len__ A [valueD A (kindD A.Kind due r) n] = ret (.int ((marksIn n due).length : Nat)) := by
  unfold m_Value___len__
  exists vmarks A hl, len_l, List.length_map
theorem mbits (hl : due.length < 64) : m_Kind_mark_bits A [kindD A.Kind due r] = ret (.int (markBits due)) := by
  unfold m_Kind_mark_bits
  exists m_marks_eq A r hl, dueD_map
  rw [lc1_map pairD (fun p => .int p.2)]
  · exists (show sumD [.lst ((marksL isBit due).map fun p => .int p.2)] = ret (.int (markBits due)) by
      have e : ((marksL isBit due).map fun p => D.int p.2) = ((marksL isBit due).map (·.2)).map D.int := by rw [List.map_map]; rfl
      rw [e, sum_ints]; rfl)
  · intro p hp
    exact ⟨_, rfl, rfl⟩
theorem vrest (hl : due.length < 64) : m_Value_rest A [valueD A (kindD A.Kind due r) n] = ret (.int (n - Builtin.bitAnd n (markBits due))) := by
  unfold m_Value_rest
  exists mbits A hl, m_without_eq A
end
section
variable (A : Cl) {due due2 : Due} {r r2 : Str} {n n2 : Int}
theorem veq (hn : NamesOk due) (hn2 : NamesOk due2) (hr : r ∈ Rules4) (hr2 : r2 ∈ Rules4) : m_Value___eq__ A [valueD A (kindD A.Kind due r) n, valueD A (kindD A.Kind due2 r2) n2] = ret (.bl ((decide (due = due2) && decide (r = r2)) && decide (n = n2))) := by
  unfold m_Value___eq__
  exists eqC_kinds A false hn hn2 hr hr2
theorem eqC_vals (neg : Bool) (hn : NamesOk due) (hn2 : NamesOk due2) (hr : r ∈ Rules4) (hr2 : r2 ∈ Rules4) : eqC A.Value neg (m_Value___eq__ A) (valueD A (kindD A.Kind due r) n) (valueD A (kindD A.Kind due2 r2) n2) = ret (.bl (if neg then !((decide (due = due2) && decide (r = r2)) && decide (n = n2)) else ((decide (due = due2) && decide (r = r2)) && decide (n = n2)))) := by
  show (if A.Value = A.Value ∧ okR A.Value (valueD A (kindD A.Kind due2 r2) n2) = true then bnd (noX (m_Value___eq__ A [valueD A (kindD A.Kind due r) n, valueD A (kindD A.Kind due2 r2) n2])) (fun r => match r with
    | .bl c => ret (D.bl (if neg then !c else c))
    | _ => stuck) else stuck) = _
  rw [if_pos ⟨rfl, decide_eq_true rfl⟩, veq A hn hn2 hr hr2, noX_ret, bnd_ret]
end

end DL

namespace DL
open PySem PySem.Spec L2
local macro_rules | `(tactic| exists $es,*) => `(tactic| simp (config := { failIfUnchanged := false }) only [getV_z, getV_s, getB_z, getB_o, getB_s, frz_o, frz_i, frz_n, frz_s, vzAt_z, vzAt_s, begin_z, begin_n, begin_s, wipe_z, wipe_c, kcE_ap, twoE_ap, tw1_ret, tw1_raise, tw2_ret, tw2_raise, oneE_ap, on1_ret, on1_raise, asK_ret, asK_raise, tstE_ap, notE_ap, ntK_ret, ntK_raise, andE_ap, an1_ret, an1_raise, ↓an2_t, ↓an2_f, an2_ret, orE_ap, or1_ret, or1_raise, ↓or2_t, ↓or2_f, or2_ret, andVE_ap, av1_ret, av1_raise, ↓av2_t, ↓av2_f, av2_ret, orVE_ap, ov1_ret, ov1_raise, ↓ov2_t, ↓ov2_f, ov2_ret, notVE_ap, nvK_ret, nvK_raise, chnE_ap, ch1_ret, ch2_ret, ch3_ret, ifDE_ap, id1_ret, id1_raise, ↓id2_t, ↓id2_f, id2_ret, nilE_ap, consE_ap, cn1_ret, cn1_raise, cn2_ret, cn2_raise, toE_ap, ck_ret, ck_raise, lenLe_n, lenLe_c, tupD_s, lstD_s, nilPE_ap, consPE_ap, cp1_ret, cp2_ret, dispE_ap, dpK_1, dpK_2, dpK_3, dpK_4, ofE_0, ofE_1, ofE_2, ofE_3, ofE_4, ofE_5, ofE_6, ofE_7, ofDE_1, flE_ap, flK_i, flK_b, flK_s, flK_n, flK_raise, callZE_ap, makeE_ap, mk1_ret, mk1_raise, mk2_ret, mk2_raise, methE_ap, mt1_ret, mt1_raise, mt2_obj, mt3_ret, mt3_raise, toldE_ap, tdK_ret, tdK_raise, itE_ap, itK_ret, itK_raise, itemsL_l, itemsL_t, itsE_ap, isK_ret, isK_raise, enumD_l, setS_ap, setNil_ap, setConsS_ap, setTup_1, setTup_2, setTup_3, setTup_4, setTup_5, setConsT_ap, seqE_ap, sq1_nx, sq1_rt, sq1_bk, sq1_ct, sq1_raise, setE_ap, st1_ret, st1_raise, setOE_ap, so1_ret, so1_raise, retE_ap, rt1_ret, rt1_raise, retNE_ap, breakE_ap, exprE_ap, ex1_ret, ex1_raise, nopE_ap, ifE_ap, if1_ret, if1_raise, ↓if2_t, ↓if2_f, frzE_ap, raisePE_ap, raiseFE_ap, rf1_i, rf1_s, rf1_n, rf1_raise, tupSE_ap, tp1_ret, tp1_raise, tp2_some, parE_ap, pa1_ret, pa1_raise, pa2_ret, pa2_raise, slot_im, slot_own, par3E_ap, p31_ret, p32_ret, p33_ret, forE_ap, fo1_ret, fo1_raise, yesE_ap, lcE_ap, runE_ap, rd1_nx, rd1_rt, rd1_raise, fsLe_n, fsLe_c, attE_ap, at1_ret, at1_raise, putFD_n, putFD_c, ifRE_ap, ir1_ret, ir1_raise, ↓ir2_t, ↓ir2_f, ir3_raise, runIE_ap, ri1_nx, ri1_raise, runZE_n, methOE_ap, mo1_ret, mo1_raise, mo2_obj, mo3_ret, mo3_raise, mo4_ret, mo4_raise, getDE_ap, gd1_ret, gd2_ret, gd3_some, keyD_i, keyD_s, noE_ap, someE_ap, sm1_ret, slE_ap, sl1_ret, sl2_ret, sl3_ret, slL_ap, ownAt_z, ownAt_s, appE_ap, ap0_l, ap1_ret, ap1_raise, putE_ap, pu0_d, pu1_ret, pu2_ret, pu3_some, lenE_ap, le1_obj, le2_nat, addD_i, subD_i, andD_i, orD_i, xorD_i, ltD_i, leD_i, gtD_i, geD_i, negD_i, eqF_i, eqT_i, len_t0, len_t1, len_t2, len_t3, len_l0, len_l1, len_l2, ix_t0, ix_t1, ix_t2, ix_l0, ix_l1, ix_l2, ix_l3, all_nil, list_l, list_t, tuple_l, tuple_t, pow_220, pow_221, pow_240, pow_219, pow_250, isN_n, notN_n, isN_b, notN_b, isN_i, notN_i, isN_s, notN_s, isN_l, notN_l, isN_t, notN_t, isN_d, notN_d, isN_o, notN_o, isi_int_non, isi_int_b, isi_int_i, isi_int_s, isi_int_l, isi_int_t, isi_int_d, isi_bool_non, isi_bool_b, isi_bool_i, isi_bool_s, isi_bool_l, isi_bool_t, isi_bool_d, isi_str_non, isi_str_b, isi_str_i, isi_str_s, isi_str_l, isi_str_t, isi_str_d, isi_list_non, isi_list_b, isi_list_i, isi_list_s, isi_list_l, isi_list_t, isi_list_d, isi_tuple_non, isi_tuple_b, isi_tuple_i, isi_tuple_s, isi_tuple_l, isi_tuple_t, isi_tuple_d, isi_dict_non, isi_dict_b, isi_dict_i, isi_dict_s, isi_dict_l, isi_dict_t, isi_dict_d, isi2_non, isi2_b, isi2_i, isi2_s, isi2_l, isi2_t, isi2_d, isiC_non, isiC_b, isiC_i, isiC_s, isiC_l, isiC_t, isiC_d, isiC_o, dget_s, dget_i, inDct_sF, inDct_sT, inDct_iF, inDct_iT, val_own, val_bits, val_isi, kind_isi, kd_lines, kd_rule, kd_table, kd_firsts, kd_all, le1_val, le1_kind, km_rows, km_number, km_names, km_aliases, km_marks, km_mark_bits, km_name_of, km_known, km_rest, vm_kind, vm_number, vm_marks, vm_rest, run_ret, run_raise, forM_nil, tw1_run, tw2_run, on1_run, asK_run, ntK_run, an1_run, or1_run, av1_run, ov1_run, nvK_run, ch1_run, ch2_run, ch3_run, id1_run, cn1_run, cn2_run, ck_run, cp1_run, flK_run, mk1_run, mk2_run, mt1_run, mt3_run, tdK_run, itK_run, isK_run, sq1_run, st1_run, so1_run, rt1_run, ex1_run, if1_run, rf1_run, tp1_run, pa1_run, pa2_run, p31_run, p32_run, p33_run, fo1_run, lc1_run, rd1_run, at1_run, ir1_run, ir3_run, ri1_run, mo1_run, mo3_run, mo4_run, gd1_run, gd2_run, sm1_run, sl1_run, sl2_run, sl3_run, ap1_run, pu1_run, pu2_run, le1_run, le2_run, asK_retR, flK_iR, flK_bR, flK_sR, flK_nR, mk2_retR, sq1_nxR, sq1_rtR, sq1_bkR, sq1_ctR, rf1_iR, rf1_sR, rf1_nR, rd1_nxR, rd1_rtR, at1_retR, ri1_nxR, mo4_retR, gd1_retR, sm1_retR, ap1_retR, le1_objR, le2_natR, le1_valR, le1_kindR, eqG_o, eqG_t, eqG_i, eqG_n, eqG_val, insE_ap, in0_l, in1_ret, in1_raise, in2_ret, in2_raise, insK_ok, in1_run, in2_run, tryNE_ap, ty1_ret, ty1_run, List.set_cons_zero, List.set_cons_succ, Bool.not_true, Bool.not_false, Bool.and_true, Bool.true_and, Bool.and_false, Bool.false_and, Bool.or_false, Bool.false_or, Bool.true_or, Bool.or_true, Bool.not_not, Option.isSome_some, Option.isSome_none, Option.bind_some, eq_self, decide_true, decide_false, Int.reduceEq, Int.reduceLT, Int.reduceLE, Int.reduceNeg, Int.reduceAdd, Int.reduceSub, Nat.reduceAdd, List.nil_append, implies_true, forall_const, ↓reduceIte, Bool.false_eq_true, $[$es:term],*])
/-! ### made -/
def plainI (n : Int) : Int := if 0 ≤ n then n else -n - 1
def restI (n K : Int) : Int := plainI n - Builtin.bitAnd (plainI n) K
inductive Mad where
  | bad (b : Int) | val (v : Int) | left (n : Int)
def madeV (K : Int) (r : Str) (n : Int) : Mad :=
  if 0 < restI n K ∧ r = "bar" then .bad (restI n K)
  else if n < 0 then .val (K - Builtin.bitAnd K (plainI n))
  else if 0 < restI n K ∧ r = "leave" then .left n
  else .val (if r = "keep" then n else Builtin.bitAnd n K)
theorem plain_ge {n : Int} : 0 ≤ plainI n := by unfold plainI; split <;> omega
theorem ne4 : ("drop" : Str) ≠ "bar" ∧ ("keep" : Str) ≠ "bar" ∧ ("leave" : Str) ≠ "bar" ∧ ("bar" : Str) ≠ "leave" ∧ ("drop" : Str) ≠ "leave" ∧ ("keep" : Str) ≠ "leave" ∧ ("bar" : Str) ≠ "keep" ∧ ("drop" : Str) ≠ "keep" ∧ ("leave" : Str) ≠ "keep" := by decide +kernel
/-- nothing is left: all bits are known -/
theorem rest0 {n K : Int} (hn : 0 ≤ n) (hK : 0 ≤ K) (h : ¬ 0 < restI n K) : Builtin.bitAnd n K = n := by
  unfold restI plainI at h
  rw [if_pos hn] at h
  have := and_le_l hn hK
  omega
theorem madeV_val {K : Int} {r : Str} {n v : Int} (hK : 0 ≤ K) (h20 : K < 1048576) (h1 : n < 1099511627776) (h : madeV K r n = .val v) : 0 ≤ v ∧ v < 1099511627776 ∧ (r = "keep" ∨ Builtin.bitAnd v K = v) := by
  unfold madeV at h
  split at h
  · cases h
  split at h
  · cases h
    have := left_in hK h20 (plain_ge (n := n))
    exact ⟨this.2.1, by omega, .inr this.1⟩
  split at h
  · cases h
  cases h
  by_cases hk : r = "keep"
  · rw [if_pos hk]; exact ⟨by omega, h1, .inl hk⟩
  · rw [if_neg hk]
    have h0 : 0 ≤ n := by omega
    exact ⟨and_ge h0 hK, by have := and_le_r h0 hK; omega, .inr (and_and h0 hK)⟩
section
variable (A : Cl) {due : Due} {r : Str} {n : Int}
def madM (A : Cl) (kd : D) : Mad → M Exn D
  | .bad b => raise ⟨A.BadRest, some ("bits", .int b)⟩
  | .val v => ret (valueD A kd v)
  | .left n => ret (.int n)
theorem made_eq (hr : r ∈ Rules4) (hnum : NumOk due) (h0 : -1099511627776 ≤ n) (h1 : n < 1099511627776) : m_made A [kindD A.Kind due r, .int n] = madM A (kindD A.Kind due r) (madeV (orAll due) r n) := by
  have hK := orAll_lt hnum
  have hv := fun v => madeV_val (r := r) (n := n) (v := v) hK.1 hK.2 h1
  have hvi : ∀ v, madeV (orAll due) r n = .val v → m_Value___init__ A [kindD A.Kind due r, .int v] = ret (valueD A (kindD A.Kind due r) v) := fun v e => vinit_ok A hr (hv v e).1 (hv v e).2.1 (hv v e).2.2
  obtain ⟨n1, n2, n3, n4, n5, n6, n7, n8, n9⟩ := ne4
  unfold m_made c_FARTHEST
  by_cases hn : n < 0
  · have ep : plainI n = -n - 1 := if_neg (by omega)
    by_cases hp : 0 < restI n (orAll due)
    · have hp' := hp
      unfold restI at hp'
      rw [ep] at hp'
      by_cases hb : r = "bar"
      · have e : madeV (orAll due) r n = .bad (restI n (orAll due)) := if_pos ⟨hp, hb⟩
        rw [e]
        subst hb
        exists isnum_int, decide_eq_true h0, decide_eq_true (show n ≤ 1099511627775 by omega), m_known_eq A, m_rest_eq A, decide_eq_false (show ¬ 0 ≤ n by omega), m_without_eq A, decide_eq_true hp', eqF_s ok_bar ok_bar
        unfold madM restI
        rw [ep]
      · have e : madeV (orAll due) r n = .val (orAll due - Builtin.bitAnd (orAll due) (plainI n)) := (if_neg (fun z => hb z.2)).trans (if_pos hn)
        have hvi := hvi _ e
        rw [e]
        rw [ep] at hvi ⊢
        exists isnum_int, decide_eq_true h0, decide_eq_true (show n ≤ 1099511627775 by omega), m_known_eq A, m_rest_eq A, decide_eq_false (show ¬ 0 ≤ n by omega), m_without_eq A, decide_eq_true hp', eqF_s (strOk_rule hr) ok_bar, decide_eq_false hb, decide_eq_true hn, hvi
        rfl
    · have hp' := hp
      unfold restI at hp'
      rw [ep] at hp'
      have e : madeV (orAll due) r n = .val (orAll due - Builtin.bitAnd (orAll due) (plainI n)) := (if_neg (fun z => hp z.1)).trans (if_pos hn)
      have hvi := hvi _ e
      rw [e]
      rw [ep] at hvi ⊢
      exists isnum_int, decide_eq_true h0, decide_eq_true (show n ≤ 1099511627775 by omega), m_known_eq A, m_rest_eq A, decide_eq_false (show ¬ 0 ≤ n by omega), m_without_eq A, decide_eq_false hp', eqF_s (strOk_rule hr) ok_bar, decide_eq_true hn, hvi
      rfl
  · have hn0 : 0 ≤ n := by omega
    have ep : plainI n = n := if_pos hn0
    by_cases hp : 0 < restI n (orAll due)
    · have hp' := hp
      unfold restI at hp'
      rw [ep] at hp'
      by_cases hb : r = "bar"
      · have e : madeV (orAll due) r n = .bad (restI n (orAll due)) := if_pos ⟨hp, hb⟩
        rw [e]
        subst hb
        exists isnum_int, decide_eq_true h0, decide_eq_true (show n ≤ 1099511627775 by omega), m_known_eq A, m_rest_eq A, decide_eq_true hn0, m_without_eq A, decide_eq_true hp', eqF_s ok_bar ok_bar
        unfold madM restI
        rw [ep]
      · by_cases hl : r = "leave"
        · have e : madeV (orAll due) r n = .left n := ((if_neg (fun z => hb z.2)).trans (if_neg hn)).trans (if_pos ⟨hp, hl⟩)
          rw [e]
          subst hl
          exists isnum_int, decide_eq_true h0, decide_eq_true (show n ≤ 1099511627775 by omega), m_known_eq A, m_rest_eq A, decide_eq_true hn0, m_without_eq A, decide_eq_true hp', eqF_s ok_leave ok_bar, decide_eq_false hb, decide_eq_false hn, eqF_s ok_leave ok_leave
          rfl
        · have e : madeV (orAll due) r n = .val (if r = "keep" then n else Builtin.bitAnd n (orAll due)) := ((if_neg (fun z => hb z.2)).trans (if_neg hn)).trans (if_neg (fun z => hl z.2))
          have hvi := hvi _ e
          rw [e]
          by_cases hk : r = "keep"
          · rw [if_pos hk] at hvi ⊢
            exists isnum_int, decide_eq_true h0, decide_eq_true (show n ≤ 1099511627775 by omega), m_known_eq A, m_rest_eq A, decide_eq_true hn0, m_without_eq A, decide_eq_true hp', eqF_s (strOk_rule hr) ok_bar, decide_eq_false hb, decide_eq_false hn, eqF_s (strOk_rule hr) ok_leave, decide_eq_false hl, eqF_s (strOk_rule hr) ok_keep, decide_eq_true hk, hvi
            rfl
          · rw [if_neg hk] at hvi ⊢
            exists isnum_int, decide_eq_true h0, decide_eq_true (show n ≤ 1099511627775 by omega), m_known_eq A, m_rest_eq A, decide_eq_true hn0, m_without_eq A, decide_eq_true hp', eqF_s (strOk_rule hr) ok_bar, decide_eq_false hb, decide_eq_false hn, eqF_s (strOk_rule hr) ok_leave, decide_eq_false hl, eqF_s (strOk_rule hr) ok_keep, decide_eq_false hk, hvi
            rfl
    · have hp' := hp
      unfold restI at hp'
      rw [ep] at hp'
      have e : madeV (orAll due) r n = .val (if r = "keep" then n else Builtin.bitAnd n (orAll due)) := ((if_neg (fun z => hp z.1)).trans (if_neg hn)).trans (if_neg (fun z => hp z.1))
      have hvi := hvi _ e
      rw [e]
      by_cases hk : r = "keep"
      · rw [if_pos hk] at hvi ⊢
        exists isnum_int, decide_eq_true h0, decide_eq_true (show n ≤ 1099511627775 by omega), m_known_eq A, m_rest_eq A, decide_eq_true hn0, m_without_eq A, decide_eq_false hp', eqF_s (strOk_rule hr) ok_bar, decide_eq_false hn, eqF_s (strOk_rule hr) ok_leave, eqF_s (strOk_rule hr) ok_keep, decide_eq_true hk, hvi
        rfl
      · rw [if_neg hk] at hvi ⊢
        exists isnum_int, decide_eq_true h0, decide_eq_true (show n ≤ 1099511627775 by omega), m_known_eq A, m_rest_eq A, decide_eq_true hn0, m_without_eq A, decide_eq_false hp', eqF_s (strOk_rule hr) ok_bar, decide_eq_false hn, eqF_s (strOk_rule hr) ok_leave, eqF_s (strOk_rule hr) ok_keep, decide_eq_false hk, hvi
        rfl
end

end DL

namespace DL
open PySem PySem.Spec L2
local macro_rules | `(tactic| exists $es,*) => `(tactic| simp (config := { failIfUnchanged := false }) only [getV_z, getV_s, getB_z, getB_o, getB_s, frz_o, frz_i, frz_n, frz_s, vzAt_z, vzAt_s, begin_z, begin_n, begin_s, wipe_z, wipe_c, kcE_ap, twoE_ap, tw1_ret, tw1_raise, tw2_ret, tw2_raise, oneE_ap, on1_ret, on1_raise, asK_ret, asK_raise, tstE_ap, notE_ap, ntK_ret, ntK_raise, andE_ap, an1_ret, an1_raise, ↓an2_t, ↓an2_f, an2_ret, orE_ap, or1_ret, or1_raise, ↓or2_t, ↓or2_f, or2_ret, andVE_ap, av1_ret, av1_raise, ↓av2_t, ↓av2_f, av2_ret, orVE_ap, ov1_ret, ov1_raise, ↓ov2_t, ↓ov2_f, ov2_ret, notVE_ap, nvK_ret, nvK_raise, chnE_ap, ch1_ret, ch2_ret, ch3_ret, ifDE_ap, id1_ret, id1_raise, ↓id2_t, ↓id2_f, id2_ret, nilE_ap, consE_ap, cn1_ret, cn1_raise, cn2_ret, cn2_raise, toE_ap, ck_ret, ck_raise, lenLe_n, lenLe_c, tupD_s, lstD_s, nilPE_ap, consPE_ap, cp1_ret, cp2_ret, dispE_ap, dpK_1, dpK_2, dpK_3, dpK_4, ofE_0, ofE_1, ofE_2, ofE_3, ofE_4, ofE_5, ofE_6, ofE_7, ofDE_1, flE_ap, flK_i, flK_b, flK_s, flK_n, flK_raise, callZE_ap, makeE_ap, mk1_ret, mk1_raise, mk2_ret, mk2_raise, methE_ap, mt1_ret, mt1_raise, mt2_obj, mt3_ret, mt3_raise, toldE_ap, tdK_ret, tdK_raise, itE_ap, itK_ret, itK_raise, itemsL_l, itemsL_t, itsE_ap, isK_ret, isK_raise, enumD_l, setS_ap, setNil_ap, setConsS_ap, setTup_1, setTup_2, setTup_3, setTup_4, setTup_5, setConsT_ap, seqE_ap, sq1_nx, sq1_rt, sq1_bk, sq1_ct, sq1_raise, setE_ap, st1_ret, st1_raise, setOE_ap, so1_ret, so1_raise, retE_ap, rt1_ret, rt1_raise, retNE_ap, breakE_ap, exprE_ap, ex1_ret, ex1_raise, nopE_ap, ifE_ap, if1_ret, if1_raise, ↓if2_t, ↓if2_f, frzE_ap, raisePE_ap, raiseFE_ap, rf1_i, rf1_s, rf1_n, rf1_raise, tupSE_ap, tp1_ret, tp1_raise, tp2_some, parE_ap, pa1_ret, pa1_raise, pa2_ret, pa2_raise, slot_im, slot_own, par3E_ap, p31_ret, p32_ret, p33_ret, forE_ap, fo1_ret, fo1_raise, yesE_ap, lcE_ap, runE_ap, rd1_nx, rd1_rt, rd1_raise, fsLe_n, fsLe_c, attE_ap, at1_ret, at1_raise, putFD_n, putFD_c, ifRE_ap, ir1_ret, ir1_raise, ↓ir2_t, ↓ir2_f, ir3_raise, runIE_ap, ri1_nx, ri1_raise, runZE_n, methOE_ap, mo1_ret, mo1_raise, mo2_obj, mo3_ret, mo3_raise, mo4_ret, mo4_raise, getDE_ap, gd1_ret, gd2_ret, gd3_some, keyD_i, keyD_s, noE_ap, someE_ap, sm1_ret, slE_ap, sl1_ret, sl2_ret, sl3_ret, slL_ap, ownAt_z, ownAt_s, appE_ap, ap0_l, ap1_ret, ap1_raise, putE_ap, pu0_d, pu1_ret, pu2_ret, pu3_some, lenE_ap, le1_obj, le2_nat, addD_i, subD_i, andD_i, orD_i, xorD_i, ltD_i, leD_i, gtD_i, geD_i, negD_i, eqF_i, eqT_i, len_t0, len_t1, len_t2, len_t3, len_l0, len_l1, len_l2, ix_t0, ix_t1, ix_t2, ix_l0, ix_l1, ix_l2, ix_l3, all_nil, list_l, list_t, tuple_l, tuple_t, pow_220, pow_221, pow_240, pow_219, pow_250, isN_n, notN_n, isN_b, notN_b, isN_i, notN_i, isN_s, notN_s, isN_l, notN_l, isN_t, notN_t, isN_d, notN_d, isN_o, notN_o, isi_int_non, isi_int_b, isi_int_i, isi_int_s, isi_int_l, isi_int_t, isi_int_d, isi_bool_non, isi_bool_b, isi_bool_i, isi_bool_s, isi_bool_l, isi_bool_t, isi_bool_d, isi_str_non, isi_str_b, isi_str_i, isi_str_s, isi_str_l, isi_str_t, isi_str_d, isi_list_non, isi_list_b, isi_list_i, isi_list_s, isi_list_l, isi_list_t, isi_list_d, isi_tuple_non, isi_tuple_b, isi_tuple_i, isi_tuple_s, isi_tuple_l, isi_tuple_t, isi_tuple_d, isi_dict_non, isi_dict_b, isi_dict_i, isi_dict_s, isi_dict_l, isi_dict_t, isi_dict_d, isi2_non, isi2_b, isi2_i, isi2_s, isi2_l, isi2_t, isi2_d, isiC_non, isiC_b, isiC_i, isiC_s, isiC_l, isiC_t, isiC_d, isiC_o, dget_s, dget_i, inDct_sF, inDct_sT, inDct_iF, inDct_iT, val_own, val_bits, val_isi, kind_isi, kd_lines, kd_rule, kd_table, kd_firsts, kd_all, le1_val, le1_kind, km_rows, km_number, km_names, km_aliases, km_marks, km_mark_bits, km_name_of, km_known, km_rest, vm_kind, vm_number, vm_marks, vm_rest, run_ret, run_raise, forM_nil, tw1_run, tw2_run, on1_run, asK_run, ntK_run, an1_run, or1_run, av1_run, ov1_run, nvK_run, ch1_run, ch2_run, ch3_run, id1_run, cn1_run, cn2_run, ck_run, cp1_run, flK_run, mk1_run, mk2_run, mt1_run, mt3_run, tdK_run, itK_run, isK_run, sq1_run, st1_run, so1_run, rt1_run, ex1_run, if1_run, rf1_run, tp1_run, pa1_run, pa2_run, p31_run, p32_run, p33_run, fo1_run, lc1_run, rd1_run, at1_run, ir1_run, ir3_run, ri1_run, mo1_run, mo3_run, mo4_run, gd1_run, gd2_run, sm1_run, sl1_run, sl2_run, sl3_run, ap1_run, pu1_run, pu2_run, le1_run, le2_run, asK_retR, flK_iR, flK_bR, flK_sR, flK_nR, mk2_retR, sq1_nxR, sq1_rtR, sq1_bkR, sq1_ctR, rf1_iR, rf1_sR, rf1_nR, rd1_nxR, rd1_rtR, at1_retR, ri1_nxR, mo4_retR, gd1_retR, sm1_retR, ap1_retR, le1_objR, le2_natR, le1_valR, le1_kindR, eqG_o, eqG_t, eqG_i, eqG_n, eqG_val, insE_ap, in0_l, in1_ret, in1_raise, in2_ret, in2_raise, insK_ok, in1_run, in2_run, tryNE_ap, ty1_ret, ty1_run, List.set_cons_zero, List.set_cons_succ, Bool.not_true, Bool.not_false, Bool.and_true, Bool.true_and, Bool.and_false, Bool.false_and, Bool.or_false, Bool.false_or, Bool.true_or, Bool.or_true, Bool.not_not, Option.isSome_some, Option.isSome_none, Option.bind_some, eq_self, decide_true, decide_false, Int.reduceEq, Int.reduceLT, Int.reduceLE, Int.reduceNeg, Int.reduceAdd, Int.reduceSub, Nat.reduceAdd, List.nil_append, implies_true, forall_const, ↓reduceIte, Bool.false_eq_true, $[$es:term],*])
section
variable (A : Cl) {due : Due} {r : Str} {n : Int}
theorem tab_firsts (due : Due) : dgetD (tableD due) (.str "firsts") = ret (.dct (firstsD due)) := rfl
theorem tab_known (due : Due) : dgetD (tableD due) (.str "known") = ret (.int (orAll due)) := rfl
theorem tab_marks (due : Due) : dgetD (tableD due) (.str "marks") = ret (.lst (dueD (marksL isOne due))) := rfl
theorem tab_bits (due : Due) : dgetD (tableD due) (.str "bits") = ret (.int (lawBits due)) := rfl
theorem or_lt21 {a b : Int} (ha : 0 ≤ a) (ha2 : a < 2097152) (hb : 0 ≤ b) (hb2 : b < 2097152) : 0 ≤ Builtin.bitOr a b ∧ Builtin.bitOr a b < 2097152 := by
  rw [or_nat ha hb]
  have h : a.toNat ||| b.toNat < 2 ^ 21 := Nat.or_lt_two_pow (by omega) (by omega)
  have e : (2 : Nat) ^ 21 = 2097152 := by decide
  omega
theorem number_in_run {K : Int} {k : D → Prop} {e : Exn → Prop} (hr : r ∈ Rules4) (hK : 0 ≤ K) (h20 : K < 1048576) (hk : ∀ v : Int, 0 ≤ v → v < 2097152 → (r = "keep" ∨ Builtin.bitAnd v K = v) → k (.int v)) : (m__law_number_in A [.int K, .str r]).run k e := by
  unfold m__law_number_in
  exists eqF_s (strOk_rule hr) ok_keep
  refine roll_ok (by decide) (by decide) fun v h0 h1 => ?_
  have hv := and_ge h0 hK
  have hv2 := and_le_r h0 hK
  by_cases hk2 : r = "keep"
  · exists decide_eq_true hk2
    refine roll_ok (by decide) (by decide) fun w h2 h3 => ?_
    by_cases hw : w = 0
    · exists decide_eq_true hw
      refine roll_ok (by decide) (by decide) fun u h4 h5 => ?_
      have := or_lt21 hv (by omega) h4 (by omega : u < 2097152)
      exists eq_self
      exact hk _ this.1 this.2 (.inl hk2)
    · exists decide_eq_false hw
      exact hk _ hv (by omega) (.inl hk2)
  · exists decide_eq_false hk2
    exact hk _ hv (by omega) (.inr (and_and h0 hK))
end

end DL

namespace DL
open PySem PySem.Spec L2
local macro_rules | `(tactic| exists $es,*) => `(tactic| simp (config := { failIfUnchanged := false }) only [getV_z, getV_s, getB_z, getB_o, getB_s, frz_o, frz_i, frz_n, frz_s, vzAt_z, vzAt_s, begin_z, begin_n, begin_s, wipe_z, wipe_c, kcE_ap, twoE_ap, tw1_ret, tw1_raise, tw2_ret, tw2_raise, oneE_ap, on1_ret, on1_raise, asK_ret, asK_raise, tstE_ap, notE_ap, ntK_ret, ntK_raise, andE_ap, an1_ret, an1_raise, ↓an2_t, ↓an2_f, an2_ret, orE_ap, or1_ret, or1_raise, ↓or2_t, ↓or2_f, or2_ret, andVE_ap, av1_ret, av1_raise, ↓av2_t, ↓av2_f, av2_ret, orVE_ap, ov1_ret, ov1_raise, ↓ov2_t, ↓ov2_f, ov2_ret, notVE_ap, nvK_ret, nvK_raise, chnE_ap, ch1_ret, ch2_ret, ch3_ret, ifDE_ap, id1_ret, id1_raise, ↓id2_t, ↓id2_f, id2_ret, nilE_ap, consE_ap, cn1_ret, cn1_raise, cn2_ret, cn2_raise, toE_ap, ck_ret, ck_raise, lenLe_n, lenLe_c, tupD_s, lstD_s, nilPE_ap, consPE_ap, cp1_ret, cp2_ret, dispE_ap, dpK_1, dpK_2, dpK_3, dpK_4, ofE_0, ofE_1, ofE_2, ofE_3, ofE_4, ofE_5, ofE_6, ofE_7, ofDE_1, flE_ap, flK_i, flK_b, flK_s, flK_n, flK_raise, callZE_ap, makeE_ap, mk1_ret, mk1_raise, mk2_ret, mk2_raise, methE_ap, mt1_ret, mt1_raise, mt2_obj, mt3_ret, mt3_raise, toldE_ap, tdK_ret, tdK_raise, itE_ap, itK_ret, itK_raise, itemsL_l, itemsL_t, itsE_ap, isK_ret, isK_raise, enumD_l, setS_ap, setNil_ap, setConsS_ap, setTup_1, setTup_2, setTup_3, setTup_4, setTup_5, setConsT_ap, seqE_ap, sq1_nx, sq1_rt, sq1_bk, sq1_ct, sq1_raise, setE_ap, st1_ret, st1_raise, setOE_ap, so1_ret, so1_raise, retE_ap, rt1_ret, rt1_raise, retNE_ap, breakE_ap, exprE_ap, ex1_ret, ex1_raise, nopE_ap, ifE_ap, if1_ret, if1_raise, ↓if2_t, ↓if2_f, frzE_ap, raisePE_ap, raiseFE_ap, rf1_i, rf1_s, rf1_n, rf1_raise, tupSE_ap, tp1_ret, tp1_raise, tp2_some, parE_ap, pa1_ret, pa1_raise, pa2_ret, pa2_raise, slot_im, slot_own, par3E_ap, p31_ret, p32_ret, p33_ret, forE_ap, fo1_ret, fo1_raise, yesE_ap, lcE_ap, runE_ap, rd1_nx, rd1_rt, rd1_raise, fsLe_n, fsLe_c, attE_ap, at1_ret, at1_raise, putFD_n, putFD_c, ifRE_ap, ir1_ret, ir1_raise, ↓ir2_t, ↓ir2_f, ir3_raise, runIE_ap, ri1_nx, ri1_raise, runZE_n, methOE_ap, mo1_ret, mo1_raise, mo2_obj, mo3_ret, mo3_raise, mo4_ret, mo4_raise, getDE_ap, gd1_ret, gd2_ret, gd3_some, keyD_i, keyD_s, noE_ap, someE_ap, sm1_ret, slE_ap, sl1_ret, sl2_ret, sl3_ret, slL_ap, ownAt_z, ownAt_s, appE_ap, ap0_l, ap1_ret, ap1_raise, putE_ap, pu0_d, pu1_ret, pu2_ret, pu3_some, lenE_ap, le1_obj, le2_nat, addD_i, subD_i, andD_i, orD_i, xorD_i, ltD_i, leD_i, gtD_i, geD_i, negD_i, eqF_i, eqT_i, len_t0, len_t1, len_t2, len_t3, len_l0, len_l1, len_l2, ix_t0, ix_t1, ix_t2, ix_l0, ix_l1, ix_l2, ix_l3, all_nil, list_l, list_t, tuple_l, tuple_t, pow_220, pow_221, pow_240, pow_219, pow_250, isN_n, notN_n, isN_b, notN_b, isN_i, notN_i, isN_s, notN_s, isN_l, notN_l, isN_t, notN_t, isN_d, notN_d, isN_o, notN_o, isi_int_non, isi_int_b, isi_int_i, isi_int_s, isi_int_l, isi_int_t, isi_int_d, isi_bool_non, isi_bool_b, isi_bool_i, isi_bool_s, isi_bool_l, isi_bool_t, isi_bool_d, isi_str_non, isi_str_b, isi_str_i, isi_str_s, isi_str_l, isi_str_t, isi_str_d, isi_list_non, isi_list_b, isi_list_i, isi_list_s, isi_list_l, isi_list_t, isi_list_d, isi_tuple_non, isi_tuple_b, isi_tuple_i, isi_tuple_s, isi_tuple_l, isi_tuple_t, isi_tuple_d, isi_dict_non, isi_dict_b, isi_dict_i, isi_dict_s, isi_dict_l, isi_dict_t, isi_dict_d, isi2_non, isi2_b, isi2_i, isi2_s, isi2_l, isi2_t, isi2_d, isiC_non, isiC_b, isiC_i, isiC_s, isiC_l, isiC_t, isiC_d, isiC_o, dget_s, dget_i, inDct_sF, inDct_sT, inDct_iF, inDct_iT, val_own, val_bits, val_isi, kind_isi, kd_lines, kd_rule, kd_table, kd_firsts, kd_all, le1_val, le1_kind, km_rows, km_number, km_names, km_aliases, km_marks, km_mark_bits, km_name_of, km_known, km_rest, vm_kind, vm_number, vm_marks, vm_rest, run_ret, run_raise, forM_nil, tw1_run, tw2_run, on1_run, asK_run, ntK_run, an1_run, or1_run, av1_run, ov1_run, nvK_run, ch1_run, ch2_run, ch3_run, id1_run, cn1_run, cn2_run, ck_run, cp1_run, flK_run, mk1_run, mk2_run, mt1_run, mt3_run, tdK_run, itK_run, isK_run, sq1_run, st1_run, so1_run, rt1_run, ex1_run, if1_run, rf1_run, tp1_run, pa1_run, pa2_run, p31_run, p32_run, p33_run, fo1_run, lc1_run, rd1_run, at1_run, ir1_run, ir3_run, ri1_run, mo1_run, mo3_run, mo4_run, gd1_run, gd2_run, sm1_run, sl1_run, sl2_run, sl3_run, ap1_run, pu1_run, pu2_run, le1_run, le2_run, asK_retR, flK_iR, flK_bR, flK_sR, flK_nR, mk2_retR, sq1_nxR, sq1_rtR, sq1_bkR, sq1_ctR, rf1_iR, rf1_sR, rf1_nR, rd1_nxR, rd1_rtR, at1_retR, ri1_nxR, mo4_retR, gd1_retR, sm1_retR, ap1_retR, le1_objR, le2_natR, le1_valR, le1_kindR, eqG_o, eqG_t, eqG_i, eqG_n, eqG_val, insE_ap, in0_l, in1_ret, in1_raise, in2_ret, in2_raise, insK_ok, in1_run, in2_run, tryNE_ap, ty1_ret, ty1_run, List.set_cons_zero, List.set_cons_succ, Bool.not_true, Bool.not_false, Bool.and_true, Bool.true_and, Bool.and_false, Bool.false_and, Bool.or_false, Bool.false_or, Bool.true_or, Bool.or_true, Bool.not_not, Option.isSome_some, Option.isSome_none, Option.bind_some, eq_self, decide_true, decide_false, Int.reduceEq, Int.reduceLT, Int.reduceLE, Int.reduceNeg, Int.reduceAdd, Int.reduceSub, Nat.reduceAdd, List.nil_append, implies_true, forall_const, ↓reduceIte, Bool.false_eq_true, $[$es:term],*])
section
variable (A : Cl) {due : Due} {r : Str} {n : Int}
def madD : Mad → D
  | .bad b => .tup [.str "refused", .str "BadRest", .int b]
  | .val v => .int v
  | .left n => .tup [.str "left", .int n]
/-- what told tells of it -/
def madT (A : Cl) (kd : D) : Mad → D
  | .bad b => .tup [.str "refused", .str "BadRest", .int b]
  | .val v => valueD A kd v
  | .left n => .int n
theorem tdK_made (hA : DistA A) {kd : D} (m : Mad) : tdK A (madM A kd m) = ret (madT A kd m) := by
  cases m with
  | bad b => exact (tdK_raise).trans (tell_BadRest hA b)
  | val v => rfl
  | left n => rfl
theorem told_made (hA : DistA A) {kd : D} (m : Mad) {k : D → Prop} {e : Exn → Prop} : (madM A kd m).run k (fun x => (tellM A x).run k e) = k (madT A kd m) := by
  cases m with
  | bad b =>
    show (tellM A ⟨A.BadRest, some ("bits", .int b)⟩).run k e = _
    rw [tell_BadRest hA]
    rfl
  | val v => rfl
  | left n => rfl
theorem lmade_eq (hr : r ∈ Rules4) : m__law_made A [tableD due, .str r, .int n] = ret (madD (madeV (orAll due) r n)) := by
  unfold m__law_made
  by_cases hn : n < 0
  · have ep : plainI n = 0 - n - 1 := by unfold plainI; rw [if_neg (by omega)]; omega
    by_cases hp : 0 < restI n (orAll due)
    · have hp' := hp
      unfold restI at hp'
      rw [ep] at hp'
      by_cases hb : r = "bar"
      · have e : madeV (orAll due) r n = .bad (restI n (orAll due)) := if_pos ⟨hp, hb⟩
        rw [e]
        subst hb
        exists tab_known, decide_eq_false (show ¬ 0 ≤ n by omega), decide_eq_true hp', eqF_s ok_bar ok_bar
        unfold madD restI
        rw [ep]
      · have e : madeV (orAll due) r n = .val (orAll due - Builtin.bitAnd (orAll due) (plainI n)) := (if_neg (fun z => hb z.2)).trans (if_pos hn)
        rw [e, ep]
        exists tab_known, decide_eq_false (show ¬ 0 ≤ n by omega), decide_eq_true hp', eqF_s (strOk_rule hr) ok_bar, decide_eq_false hb, decide_eq_true hn
        rfl
    · have hp' := hp
      unfold restI at hp'
      rw [ep] at hp'
      have e : madeV (orAll due) r n = .val (orAll due - Builtin.bitAnd (orAll due) (plainI n)) := (if_neg (fun z => hp z.1)).trans (if_pos hn)
      rw [e, ep]
      exists tab_known, decide_eq_false (show ¬ 0 ≤ n by omega), decide_eq_false hp', eqF_s (strOk_rule hr) ok_bar, decide_eq_true hn
      rfl
  · have hn0 : 0 ≤ n := by omega
    have ep : plainI n = n := if_pos hn0
    by_cases hp : 0 < restI n (orAll due)
    · have hp' := hp
      unfold restI at hp'
      rw [ep] at hp'
      by_cases hb : r = "bar"
      · have e : madeV (orAll due) r n = .bad (restI n (orAll due)) := if_pos ⟨hp, hb⟩
        rw [e]
        subst hb
        exists tab_known, decide_eq_true hn0, decide_eq_true hp', eqF_s ok_bar ok_bar
        unfold madD restI
        rw [ep]
      · by_cases hl : r = "leave"
        · have e : madeV (orAll due) r n = .left n := ((if_neg (fun z => hb z.2)).trans (if_neg hn)).trans (if_pos ⟨hp, hl⟩)
          rw [e]
          subst hl
          exists tab_known, decide_eq_true hn0, decide_eq_true hp', eqF_s ok_leave ok_bar, decide_eq_false hb, decide_eq_false hn, eqF_s ok_leave ok_leave
          rfl
        · have e : madeV (orAll due) r n = .val (if r = "keep" then n else Builtin.bitAnd n (orAll due)) := ((if_neg (fun z => hb z.2)).trans (if_neg hn)).trans (if_neg (fun z => hl z.2))
          rw [e]
          by_cases hk : r = "keep"
          · rw [if_pos hk]
            exists tab_known, decide_eq_true hn0, decide_eq_true hp', eqF_s (strOk_rule hr) ok_bar, decide_eq_false hb, decide_eq_false hn, eqF_s (strOk_rule hr) ok_leave, decide_eq_false hl, eqF_s (strOk_rule hr) ok_keep, decide_eq_true hk
            rfl
          · rw [if_neg hk]
            exists tab_known, decide_eq_true hn0, decide_eq_true hp', eqF_s (strOk_rule hr) ok_bar, decide_eq_false hb, decide_eq_false hn, eqF_s (strOk_rule hr) ok_leave, decide_eq_false hl, eqF_s (strOk_rule hr) ok_keep, decide_eq_false hk
            rfl
    · have hp' := hp
      unfold restI at hp'
      rw [ep] at hp'
      have e : madeV (orAll due) r n = .val (if r = "keep" then n else Builtin.bitAnd n (orAll due)) := ((if_neg (fun z => hp z.1)).trans (if_neg hn)).trans (if_neg (fun z => hp z.1))
      rw [e]
      by_cases hk : r = "keep"
      · rw [if_pos hk]
        exists tab_known, decide_eq_true hn0, decide_eq_false hp', eqF_s (strOk_rule hr) ok_bar, decide_eq_false hn, eqF_s (strOk_rule hr) ok_leave, eqF_s (strOk_rule hr) ok_keep, decide_eq_true hk
        rfl
      · rw [if_neg hk]
        exists tab_known, decide_eq_true hn0, decide_eq_false hp', eqF_s (strOk_rule hr) ok_bar, decide_eq_false hn, eqF_s (strOk_rule hr) ok_leave, eqF_s (strOk_rule hr) ok_keep, decide_eq_false hk
        rfl
theorem lshown_eq {kd : D} (m : Mad) : m__law_shown A [madT A kd m] = ret (madD m) := by
  unfold m__law_shown
  cases m with
  | bad b =>
    unfold madT madD
    exists eq_self
  | val v =>
    unfold madT madD
    exists val_isi, vnumber A
  | left n =>
    unfold madT madD
    exists eq_self
theorem ok_words : (∀ s ∈ (["refused", "left", "BadRows", "BadRest", "BadText", "Unled", "BadRule", "BadName", "BadNumber", "Unlike", "BadPairs", "Never", "Nothing"] : List Str), PyData.strOk s = true) := by decide +kernel
theorem lay_ref2 {s : Str} (h : s ∈ (["refused", "left", "BadRows", "BadRest", "BadText", "Unled", "BadRule", "BadName", "BadNumber", "Unlike", "BadPairs", "Never", "Nothing"] : List Str)) : Lay 1 (.tup [.str "refused", .str s]) := lay_tup fun x hx => by
  rcases List.mem_cons.mp hx with rfl | hx
  · exact lay_str (ok_words _ (by decide))
  · rw [List.mem_singleton] at hx; subst hx; exact lay_str (ok_words _ h)
theorem lay_ref3 {s : Str} {d : D} (h : s ∈ (["refused", "left", "BadRows", "BadRest", "BadText", "Unled", "BadRule", "BadName", "BadNumber", "Unlike", "BadPairs", "Never", "Nothing"] : List Str)) (hd : Lay 0 d) : Lay 1 (.tup [.str "refused", .str s, d]) := lay_tup fun x hx => by
  rcases List.mem_cons.mp hx with rfl | hx
  · exact lay_str (ok_words _ (by decide))
  rcases List.mem_cons.mp hx with rfl | hx
  · exact lay_str (ok_words _ h)
  · rw [List.mem_singleton] at hx; subst hx; exact hd
theorem lay_mad (m : Mad) : Lay 1 (madD m) := by
  cases m with
  | bad b => exact lay_ref3 (by decide) (lay_int _)
  | val v => exact lay_int _
  | left n =>
    exact lay_tup fun x hx => by
      rcases List.mem_cons.mp hx with rfl | hx
      · exact lay_str (ok_words _ (by decide))
      · rw [List.mem_singleton] at hx; subst hx; exact lay_int _
end

end DL

namespace DL
open PySem PySem.Spec L2
/-! ### what laws share -/
section
variable {bt : D → EnvD → Option EnvD} {sl : List Nat} {t : FB} {f : FE} {ρ : EnvD}
theorem lc1R_eq {α : Type} {xs : List α} (δ : α → D) (tt : α → Bool) (r : α → D)
    (h : ∀ x ∈ xs, ∃ ρ', bt (δ x) (wipeD ρ sl) = some ρ' ∧ t ρ' = ret (tt x) ∧ (tt x = true → f ρ' = ret (r x))) : lc1R (xs.map δ) bt sl t f ρ = ret (.lst ((xs.filter tt).map r)) := lc1_eq δ tt r h
theorem lc1R_map {α : Type} {xs : List α} (δ : α → D) (r : α → D)
    (h : ∀ x ∈ xs, ∃ ρ', bt (δ x) (wipeD ρ sl) = some ρ' ∧ f ρ' = ret (r x)) : lc1R (xs.map δ) bt sl yesE f ρ = ret (.lst (xs.map r)) := lc1_map δ r h
end
theorem range_int {r : Int} (h0 : 0 ≤ r) (h1 : r ≤ 1000) : range1D [.int r] = ret ((List.range r.toNat).map fun i => D.int (0 + (i : Nat))) := by
  show (if -(2 ^ 62) ≤ r ∧ r < 2 ^ 62 then rangeD 0 r.toNat else stuck) = _
  rw [if_pos ⟨by omega, by omega⟩]
  exact if_pos (Nat.le_trans (by omega) sizeLine_big)
theorem range_8 : range1D [.int 8] = ret ((List.range 8).map fun i => D.int (0 + (i : Nat))) := range_int (r := 8) (by decide) (by decide)
theorem range_6 : range1D [.int 6] = ret ((List.range 6).map fun i => D.int (0 + (i : Nat))) := range_int (r := 6) (by decide) (by decide)
theorem range_5 : range1D [.int 5] = ret ((List.range 5).map fun i => D.int (0 + (i : Nat))) := range_int (r := 5) (by decide) (by decide)
theorem range_14 : range1D [.int 14] = ret ((List.range 14).map fun i => D.int (0 + (i : Nat))) := range_int (r := 14) (by decide) (by decide)
theorem range_10 : range1D [.int 10] = ret ((List.range 10).map fun i => D.int (0 + (i : Nat))) := range_int (r := 10) (by decide) (by decide)
/-- what is wanted behind a turn -/
def loopK (P : EnvD → Prop) (k : Out → Prop) : Out → Prop
  | .nx ρ => P ρ
  | .ct ρ => P ρ
  | .bk ρ => k (.nx ρ)
  | .rt d => k (.rt d)
section
variable {P : EnvD → Prop} {k : Out → Prop} {ρ : EnvD} {d : D}
theorem loopK_nx : loopK P k (.nx ρ) = P ρ := rfl
theorem loopK_ct : loopK P k (.ct ρ) = P ρ := rfl
theorem loopK_bk : loopK P k (.bk ρ) = k (.nx ρ) := rfl
theorem loopK_rt : loopK P k (.rt d) = k (.rt d) := rfl
end
/-- a loop whose turns are all alike -/
theorem forM_keep {bt : D → EnvD → Option EnvD} {g : FS} {k : Out → Prop} {e : Exn × EnvD → Prop} (P : EnvD → Prop)
    (hs : ∀ d ρ, P ρ → ∃ ρ', bt d ρ = some ρ' ∧ (g ρ').run (loopK P k) e)
    (hd : ∀ ρ, P ρ → k (.nx ρ)) (ds : List D) (ρ : EnvD) (h : P ρ) : (forM bt g ds ρ).run k e :=
  forM_run (fun _ ρ => P ρ) (fun d _ ρ h => by
    obtain ⟨ρ', e1, h1⟩ := hs d ρ h
    refine ⟨ρ', e1, (g ρ').mono _ _ _ _ (fun o ho => ?_) (fun _ z => z) h1⟩
    cases o <;> exact ho) hd ds ρ h
/-- .. over what is told of the items -/
theorem forM_items {bt : D → EnvD → Option EnvD} {g : FS} {k : Out → Prop} {e : Exn × EnvD → Prop} {α : Type} (δ : α → D) (P : List α → EnvD → Prop)
    (hs : ∀ x xs ρ, P (x :: xs) ρ → ∃ ρ', bt (δ x) ρ = some ρ' ∧ (g ρ').run (loopK (P xs) k) e)
    (hd : ∀ ρ, P [] ρ → k (.nx ρ)) : ∀ (xs : List α) (ρ : EnvD), P xs ρ → (forM bt g (xs.map δ) ρ).run k e
  | [], ρ, h => hd ρ h
  | x :: xs, ρ, h => by
    obtain ⟨ρ', e1, h1⟩ := hs x xs ρ h
    rw [List.map_cons]
    unfold forM
    rw [e1]
    refine (g ρ').mono _ _ _ _ (fun o ho => ?_) (fun _ z => z) h1
    cases o with
    | nx ρ2 => exact forM_items δ P hs hd xs ρ2 ho
    | ct ρ2 => exact forM_items δ P hs hd xs ρ2 ho
    | bk ρ2 => exact ho
    | rt d => exact ho
theorem marks_ok {due : Due} (hn : NamesOk due) (t : Int → Bool) : ∀ p ∈ marksL t due, p.1 ∈ W11 := fun p hp => by
  obtain ⟨n, h1, rfl⟩ := List.mem_map.mp hp
  obtain ⟨q, hq, e⟩ := keysOf_mem (srt_mem.mp (List.mem_filter.mp h1).1)
  have := firstOf_ok hn hq
  rw [e] at this
  exact this
theorem marksL_len {due : Due} (t : Int → Bool) : (marksL t due).length ≤ due.length := by
  unfold marksL
  rw [List.length_map]
  refine Nat.le_trans (List.length_filter_le _ _) ?_
  rw [(srt_perm _).length_eq]
  exact keysOf_len due
theorem lay_strs {l : List Str} (h : ∀ s ∈ l, s ∈ W11) : Lay 1 (.lst (l.map D.str)) := lay_lst (lay_names h)
theorem lay_in {n : Int} {due : Due} (hn : NamesOk due) : Lay 1 (.lst ((marksIn n due).map fun p => .str p.1)) := lay_lst fun d hd => by
  obtain ⟨p, hp, rfl⟩ := List.mem_map.mp hd
  exact lay_str (W11_ok _ (marks_ok hn _ _ (List.mem_filter.mp hp).1))
/-- a number that is made a value as it is -/
theorem madeV_same {K : Int} {r : Str} {v : Int} (hK : 0 ≤ K) (h0 : 0 ≤ v) (h : r = "keep" ∨ Builtin.bitAnd v K = v) : madeV K r v = .val v := by
  have ep : plainI v = v := if_pos h0
  unfold madeV
  rcases h with rfl | h
  · rw [if_neg (fun z => by have := z.2; exact absurd this ne4.2.1), if_neg (by omega), if_neg (fun z => by have := z.2; exact absurd this ne4.2.2.2.2.2.1), if_pos rfl]
  · have hr : restI v K = 0 := by unfold restI; rw [ep, h]; omega
    rw [if_neg (fun z => by have := z.1; omega), if_neg (by omega), if_neg (fun z => by have := z.1; omega)]
    split
    · rfl
    · rw [h]
theorem and_zero {K : Int} (hK : 0 ≤ K) : Builtin.bitAnd K 0 = 0 ∧ Builtin.bitAnd 0 K = 0 := by
  rw [and_nat hK (by decide), and_nat (by decide) hK]
  simp
theorem madeV_m1 {K : Int} {r : Str} (hK : 0 ≤ K) : madeV K r (-1) = .val K := by
  have ep : plainI (-1) = 0 := by decide
  unfold madeV restI
  rw [ep, (and_zero hK).2, (and_zero hK).1, if_neg (fun z => by have := z.1; omega), if_pos (by decide)]
  simp
theorem madeV_0 {K : Int} {r : Str} (hK : 0 ≤ K) : madeV K r 0 = .val 0 := madeV_same hK (by decide) (.inr (and_zero hK).2)
theorem madM_val {A : Cl} {kd : D} {v : Int} : madM A kd (.val v) = ret (valueD A kd v) := rfl

end DL

set_option maxHeartbeats 4000000
namespace DL
open PySem PySem.Spec L2
local macro_rules | `(tactic| exists $es,*) => `(tactic| simp (config := { failIfUnchanged := false }) only [loopK_nx, loopK_ct, loopK_bk, loopK_rt, getV_z, getV_s, getB_z, getB_o, getB_s, frz_o, frz_i, frz_n, frz_s, vzAt_z, vzAt_s, begin_z, begin_n, begin_s, wipe_z, wipe_c, kcE_ap, twoE_ap, tw1_ret, tw1_raise, tw2_ret, tw2_raise, oneE_ap, on1_ret, on1_raise, asK_ret, asK_raise, tstE_ap, notE_ap, ntK_ret, ntK_raise, andE_ap, an1_ret, an1_raise, ↓an2_t, ↓an2_f, an2_ret, orE_ap, or1_ret, or1_raise, ↓or2_t, ↓or2_f, or2_ret, andVE_ap, av1_ret, av1_raise, ↓av2_t, ↓av2_f, av2_ret, orVE_ap, ov1_ret, ov1_raise, ↓ov2_t, ↓ov2_f, ov2_ret, notVE_ap, nvK_ret, nvK_raise, chnE_ap, ch1_ret, ch2_ret, ch3_ret, ifDE_ap, id1_ret, id1_raise, ↓id2_t, ↓id2_f, id2_ret, nilE_ap, consE_ap, cn1_ret, cn1_raise, cn2_ret, cn2_raise, toE_ap, ck_ret, ck_raise, lenLe_n, lenLe_c, tupD_s, lstD_s, nilPE_ap, consPE_ap, cp1_ret, cp2_ret, dispE_ap, dpK_1, dpK_2, dpK_3, dpK_4, ofE_0, ofE_1, ofE_2, ofE_3, ofE_4, ofE_5, ofE_6, ofE_7, ofDE_1, flE_ap, flK_i, flK_b, flK_s, flK_n, flK_raise, callZE_ap, makeE_ap, mk1_ret, mk1_raise, mk2_ret, mk2_raise, methE_ap, mt1_ret, mt1_raise, mt2_obj, mt3_ret, mt3_raise, toldE_ap, tdK_ret, tdK_raise, itE_ap, itK_ret, itK_raise, itemsL_l, itemsL_t, itsE_ap, isK_ret, isK_raise, enumD_l, setS_ap, setNil_ap, setConsS_ap, setTup_1, setTup_2, setTup_3, setTup_4, setTup_5, setConsT_ap, seqE_ap, sq1_nx, sq1_rt, sq1_bk, sq1_ct, sq1_raise, setE_ap, st1_ret, st1_raise, setOE_ap, so1_ret, so1_raise, retE_ap, rt1_ret, rt1_raise, retNE_ap, breakE_ap, exprE_ap, ex1_ret, ex1_raise, nopE_ap, ifE_ap, if1_ret, if1_raise, ↓if2_t, ↓if2_f, frzE_ap, raisePE_ap, raiseFE_ap, rf1_i, rf1_s, rf1_n, rf1_raise, tupSE_ap, tp1_ret, tp1_raise, tp2_some, parE_ap, pa1_ret, pa1_raise, pa2_ret, pa2_raise, slot_im, slot_own, par3E_ap, p31_ret, p32_ret, p33_ret, forE_ap, fo1_ret, fo1_raise, yesE_ap, lcE_ap, runE_ap, rd1_nx, rd1_rt, rd1_raise, fsLe_n, fsLe_c, attE_ap, at1_ret, at1_raise, putFD_n, putFD_c, ifRE_ap, ir1_ret, ir1_raise, ↓ir2_t, ↓ir2_f, ir3_raise, runIE_ap, ri1_nx, ri1_raise, runZE_n, methOE_ap, mo1_ret, mo1_raise, mo2_obj, mo3_ret, mo3_raise, mo4_ret, mo4_raise, getDE_ap, gd1_ret, gd2_ret, gd3_some, keyD_i, keyD_s, noE_ap, someE_ap, sm1_ret, slE_ap, sl1_ret, sl2_ret, sl3_ret, slL_ap, ownAt_z, ownAt_s, appE_ap, ap0_l, ap1_ret, ap1_raise, putE_ap, pu0_d, pu1_ret, pu2_ret, pu3_some, lenE_ap, le1_obj, le2_nat, addD_i, subD_i, andD_i, orD_i, xorD_i, ltD_i, leD_i, gtD_i, geD_i, negD_i, eqF_i, eqT_i, len_t0, len_t1, len_t2, len_t3, len_l0, len_l1, len_l2, ix_t0, ix_t1, ix_t2, ix_l0, ix_l1, ix_l2, ix_l3, all_nil, list_l, list_t, tuple_l, tuple_t, pow_220, pow_221, pow_240, pow_219, pow_250, isN_n, notN_n, isN_b, notN_b, isN_i, notN_i, isN_s, notN_s, isN_l, notN_l, isN_t, notN_t, isN_d, notN_d, isN_o, notN_o, isi_int_non, isi_int_b, isi_int_i, isi_int_s, isi_int_l, isi_int_t, isi_int_d, isi_bool_non, isi_bool_b, isi_bool_i, isi_bool_s, isi_bool_l, isi_bool_t, isi_bool_d, isi_str_non, isi_str_b, isi_str_i, isi_str_s, isi_str_l, isi_str_t, isi_str_d, isi_list_non, isi_list_b, isi_list_i, isi_list_s, isi_list_l, isi_list_t, isi_list_d, isi_tuple_non, isi_tuple_b, isi_tuple_i, isi_tuple_s, isi_tuple_l, isi_tuple_t, isi_tuple_d, isi_dict_non, isi_dict_b, isi_dict_i, isi_dict_s, isi_dict_l, isi_dict_t, isi_dict_d, isi2_non, isi2_b, isi2_i, isi2_s, isi2_l, isi2_t, isi2_d, isiC_non, isiC_b, isiC_i, isiC_s, isiC_l, isiC_t, isiC_d, isiC_o, dget_s, dget_i, inDct_sF, inDct_sT, inDct_iF, inDct_iT, val_own, val_bits, val_isi, kind_isi, kd_lines, kd_rule, kd_table, kd_firsts, kd_all, le1_val, le1_kind, km_rows, km_number, km_names, km_aliases, km_marks, km_mark_bits, km_name_of, km_known, km_rest, vm_kind, vm_number, vm_marks, vm_rest, run_ret, run_raise, forM_nil, tw1_run, tw2_run, on1_run, asK_run, ntK_run, an1_run, or1_run, av1_run, ov1_run, nvK_run, ch1_run, ch2_run, ch3_run, id1_run, cn1_run, cn2_run, ck_run, cp1_run, flK_run, mk1_run, mk2_run, mt1_run, mt3_run, tdK_run, itK_run, isK_run, sq1_run, st1_run, so1_run, rt1_run, ex1_run, if1_run, rf1_run, tp1_run, pa1_run, pa2_run, p31_run, p32_run, p33_run, fo1_run, lc1_run, rd1_run, at1_run, ir1_run, ir3_run, ri1_run, mo1_run, mo3_run, mo4_run, gd1_run, gd2_run, sm1_run, sl1_run, sl2_run, sl3_run, ap1_run, pu1_run, pu2_run, le1_run, le2_run, asK_retR, flK_iR, flK_bR, flK_sR, flK_nR, mk2_retR, sq1_nxR, sq1_rtR, sq1_bkR, sq1_ctR, rf1_iR, rf1_sR, rf1_nR, rd1_nxR, rd1_rtR, at1_retR, ri1_nxR, mo4_retR, gd1_retR, sm1_retR, ap1_retR, le1_objR, le2_natR, le1_valR, le1_kindR, eqG_o, eqG_t, eqG_i, eqG_n, eqG_val, insE_ap, in0_l, in1_ret, in1_raise, in2_ret, in2_raise, insK_ok, in1_run, in2_run, tryNE_ap, ty1_ret, ty1_run, List.set_cons_zero, List.set_cons_succ, Bool.not_true, Bool.not_false, Bool.and_true, Bool.true_and, Bool.and_false, Bool.false_and, Bool.or_false, Bool.false_or, Bool.true_or, Bool.or_true, Bool.not_not, Option.isSome_some, Option.isSome_none, Option.bind_some, eq_self, decide_true, decide_false, Int.reduceEq, Int.reduceLT, Int.reduceLE, Int.reduceNeg, Int.reduceAdd, Int.reduceSub, Nat.reduceAdd, List.nil_append, implies_true, forall_const, ↓reduceIte, Bool.false_eq_true, $[$es:term],*])
/-- what is wanted behind a turn that doesn't leave the loop -/
def nxP (P : EnvD → Prop) : Out → Prop
  | .nx ρ => P ρ
  | .ct ρ => P ρ
  | _ => False
section
variable {P : EnvD → Prop} {ρ : EnvD} {d : D}
theorem nxP_nx : nxP P (.nx ρ) = P ρ := rfl
theorem nxP_ct : nxP P (.ct ρ) = P ρ := rfl
end
theorem forM_itemsN {bt : D → EnvD → Option EnvD} {g : FS} {k : Out → Prop} {e : Exn × EnvD → Prop} {α : Type} (δ : α → D) (P : List α → EnvD → Prop)
    (hs : ∀ x xs ρ, P (x :: xs) ρ → ∃ ρ', bt (δ x) ρ = some ρ' ∧ (g ρ').run (nxP (P xs)) (fun _ => False))
    (hd : ∀ ρ, P [] ρ → k (.nx ρ)) (xs : List α) (ρ : EnvD) (h : P xs ρ) : (forM bt g (xs.map δ) ρ).run k e :=
  forM_items δ P (fun x xs ρ h => by
    obtain ⟨ρ', e1, h1⟩ := hs x xs ρ h
    refine ⟨ρ', e1, (g ρ').mono _ _ _ _ (fun o ho => ?_) (fun _ z => z.elim) h1⟩
    cases o with
    | nx ρ => exact ho
    | ct ρ => exact ho
    | bk ρ => exact ho.elim
    | rt d => exact ho.elim) hd xs ρ h
/-- .. over a list of data; .. of turns all alike -/
theorem forM_memN {bt : D → EnvD → Option EnvD} {g : FS} {k : Out → Prop} {e : Exn × EnvD → Prop} (P : EnvD → Prop) (ds : List D)
    (hs : ∀ d ∈ ds, ∀ ρ, P ρ → ∃ ρ', bt d ρ = some ρ' ∧ (g ρ').run (nxP P) (fun _ => False))
    (hd : ∀ ρ, P ρ → k (.nx ρ)) (ρ : EnvD) (h : P ρ) : (forM bt g ds ρ).run k e := by
  have := forM_itemsN (bt := bt) (g := g) (k := k) (e := e) (id : D → D) (fun xs ρ => (∀ x ∈ xs, x ∈ ds) ∧ P ρ) ?_ ?_ ds ρ ⟨fun x h => h, h⟩
  · rwa [List.map_id] at this
  · rintro x xs ρ ⟨hx, hp⟩
    obtain ⟨ρ', e1, h1⟩ := hs x (hx x (List.mem_cons_self ..)) ρ hp
    refine ⟨ρ', e1, (g ρ').mono _ _ _ _ (fun o ho => ?_) (fun _ z => z) h1⟩
    have hx2 := fun y hy => hx y (List.mem_cons_of_mem _ hy)
    cases o with
    | nx ρ => exact ⟨hx2, ho⟩
    | ct ρ => exact ⟨hx2, ho⟩
    | bk ρ => exact ho
    | rt d => exact ho
  · rintro ρ ⟨_, hp⟩; exact hd ρ hp
theorem forM_keepN {bt : D → EnvD → Option EnvD} {g : FS} {k : Out → Prop} {e : Exn × EnvD → Prop} (P : EnvD → Prop)
    (hs : ∀ d ρ, P ρ → ∃ ρ', bt d ρ = some ρ' ∧ (g ρ').run (nxP P) (fun _ => False))
    (hd : ∀ ρ, P ρ → k (.nx ρ)) (ds : List D) (ρ : EnvD) (h : P ρ) : (forM bt g ds ρ).run k e := forM_memN P ds (fun d _ => hs d) hd ρ h
section
variable (A : Cl) {due : Due} {r : Str} {n : Int}
/-! ### numbers that are refused -/
theorem made_no {k d : D} (h : noInt d = true) : m_made A [k, d] = raise ⟨A.BadNumber, none⟩ := by
  unfold m_made c_FARTHEST
  exists isnum_no A h
theorem made_far {k : D} (h : n < -1099511627776 ∨ 1099511627776 ≤ n) : m_made A [k, .int n] = raise ⟨A.BadNumber, none⟩ := by
  unfold m_made c_FARTHEST
  rcases h with h | h
  · exists isnum_int, decide_eq_false (show ¬ -1099511627776 ≤ n by omega)
  · exists isnum_int, decide_eq_false (show ¬ n ≤ 1099511627775 by omega)
def badNum (lo hi : Int) : D → Bool
  | .int n => !(decide (lo ≤ n) && decide (n ≤ hi))
  | d => noInt d
theorem vinit_bad {k d : D} (h : badNum 0 1099511627775 d = true) : m_Value___init__ A [k, d] = raise ⟨A.BadNumber, none⟩ := by
  by_cases hi : ∃ n, d = .int n
  · obtain ⟨n, rfl⟩ := hi
    have h2 : (!(decide (0 ≤ n) && decide (n ≤ 1099511627775))) = true := h
    refine vinit_far A ?_
    by_cases h0 : 0 ≤ n
    · rw [decide_eq_true h0] at h2
      have : ¬ n ≤ 1099511627775 := by simpa using h2
      omega
    · omega
  · refine vinit_no A ?_
    cases d with
    | int n => exact absurd ⟨n, rfl⟩ hi
    | _ => exact h
theorem made_bad {k d : D} (h : badNum (-1099511627776) 1099511627775 d = true) : m_made A [k, d] = raise ⟨A.BadNumber, none⟩ := by
  by_cases hi : ∃ n, d = .int n
  · obtain ⟨n, rfl⟩ := hi
    have h2 : (!(decide (-1099511627776 ≤ n) && decide (n ≤ 1099511627775))) = true := h
    refine made_far A ?_
    by_cases h0 : -1099511627776 ≤ n
    · rw [decide_eq_true h0] at h2
      have : ¬ n ≤ 1099511627775 := by simpa using h2
      omega
    · omega
  · refine made_no A ?_
    cases d with
    | int n => exact absurd ⟨n, rfl⟩ hi
    | _ => exact h
theorem all_mem {ds : List D} {p : D → Bool} (h : ds.all p = true) : ∀ d ∈ ds, p d = true := List.all_eq_true.mp h
/-! ### names that are refused -/
def noStr : D → Bool
  | .non => true | .bl _ => true | .int _ => true | .lst _ => true | .tup _ => true | .dct _ => true
  | _ => false
theorem numberE (ds : List D) : m_Kind_number A ds = runE 2 (seqE (ifE (orE (notE (tstE (oneE (getV 1) (isiD "str")))) (tstE (twoE (getV 1) (oneE (getV 0) (fldD A.Kind "table")) (inDct true)))) (raisePE A.BadName) nopE) (retE (twoE (oneE (getV 0) (fldD A.Kind "table")) (getV 1) dgetD))) ds := rfl
theorem isi_str_no {d : D} (h : noStr d = true) : isiD "str" d = ret (.bl false) := by
  cases d with
  | non => exact isi_str_non
  | bl b => exact isi_str_b
  | int i => exact isi_str_i
  | lst l => exact isi_str_l
  | tup l => exact isi_str_t
  | dct l => exact isi_str_d
  | _ => cases h
theorem tabD_eq {d : Due} (h : (d.map (·.1)).Nodup) : tabD d = d.map fun p => (Sum.inr p.1, D.int p.2) := by
  have key : ∀ (l acc : Due), ((acc ++ l).map (·.1)).Nodup → mergeD (acc.map fun p => (Sum.inr p.1, D.int p.2)) (l.map fun p => (Sum.inr p.1, D.int p.2)) = (acc ++ l).map fun p => (Sum.inr p.1, D.int p.2) := by
    intro l
    induction l with
    | nil => intro acc _; rw [List.append_nil]; rfl
    | cons x r ih =>
      intro acc hn
      have hn2 : ((acc ++ [x] ++ r).map (·.1)).Nodup := by rw [List.append_assoc]; exact hn
      have := ih (acc ++ [x]) hn2
      rw [List.append_assoc] at this
      rw [show acc ++ x :: r = acc ++ ([x] ++ r) from rfl, ← this]
      show mergeD (putD _ _ _) _ = _
      rw [putD_new]
      · rw [List.map_append]; rfl
      · have hx : x.1 ∉ acc.map (·.1) := by
          rw [List.map_append, List.nodup_append] at hn
          intro hm
          exact hn.2.2 _ hm x.1 (List.mem_map.mpr ⟨x, List.mem_cons_self .., rfl⟩) rfl
        clear this hn hn2 ih
        induction acc with
        | nil => rfl
        | cons y s ih2 =>
          rw [List.map_cons, valD_cons, if_neg, ih2]
          · exact fun z => hx (List.mem_map.mpr (by obtain ⟨a, b, c⟩ := List.mem_map.mp z; exact ⟨a, List.mem_cons_of_mem _ b, c⟩))
          · exact fun z => hx (List.mem_map.mpr ⟨y, List.mem_cons_self .., Sum.inr.inj z⟩)
  exact key d [] h
theorem valD_tab_no {d : Due} (h : (d.map (·.1)).Nodup) {s : Str} (hs : s ∉ d.map (·.1)) : valD (tabD d) (.inr s) = none := by
  rw [tabD_eq h]
  clear h
  induction d with
  | nil => rfl
  | cons y r ih =>
    rw [List.map_cons, valD_cons, if_neg, ih]
    · exact fun z => hs (List.mem_map.mpr (by obtain ⟨a, b, c⟩ := List.mem_map.mp z; exact ⟨a, List.mem_cons_of_mem _ b, c⟩))
    · exact fun z => hs (List.mem_map.mpr ⟨y, List.mem_cons_self .., Sum.inr.inj z⟩)
/-- no name of the kind -/
def BadNm (due : Due) (d : D) : Prop := noStr d = true ∨ ∃ s, d = .str s ∧ s ∉ due.map (·.1)
theorem number_bad (hd : (due.map (·.1)).Nodup) {d : D} (h : BadNm due d) : m_Kind_number A [kindD A.Kind due r, d] = raise ⟨A.BadName, none⟩ := by
  rw [numberE]
  rcases h with h | ⟨s, rfl, hs⟩
  · exists isi_str_no h
  · exists kd_table, valD_tab_no hd hs
theorem num_loop {g : FS} {kd x : D} (hgood : ∀ (p : Str × Int), p ∈ due → ∀ f, g [some (.im kd), some (.im x), some (.im (.int f)), some (.im (.str p.1))] = ret (.nx [some (.im kd), some (.im x), some (.im (.int (Builtin.bitOr f p.2))), some (.im (.str p.1))]))
    (hbad : ∀ d, BadNm due d → ∀ f, g [some (.im kd), some (.im x), some (.im (.int f)), some (.im d)] = raise (⟨A.BadName, none⟩, [some (.im kd), some (.im x), some (.im (.int f)), some (.im d)])) :
    ∀ (ds : List D) (f : Int) (c : Option SlotD), (∀ d ∈ ds, (∃ p ∈ due, d = .str p.1) ∨ BadNm due d) → (∃ d ∈ ds, BadNm due d) → ∃ ρ', forM (setS 3) g ds [some (.im kd), some (.im x), some (.im (.int f)), c] = raise (⟨A.BadName, none⟩, ρ')
  | [], f, c, _, h => by obtain ⟨d, h, _⟩ := h; cases h
  | d :: ds, f, c, ha, hb => by
    by_cases hd : BadNm due d
    · refine ⟨[some (.im kd), some (.im x), some (.im (.int f)), some (.im d)], ?_⟩
      show bnd (g [some (.im kd), some (.im x), some (.im (.int f)), some (.im d)]) _ = _
      rw [hbad d hd]
    · obtain ⟨p, hp, rfl⟩ := (ha d (List.mem_cons_self ..)).resolve_right hd
      have hb2 : ∃ d ∈ ds, BadNm due d := by
        obtain ⟨q, h1, h2⟩ := hb
        rcases List.mem_cons.mp h1 with rfl | h1
        · exact absurd h2 hd
        · exact ⟨q, h1, h2⟩
      obtain ⟨ρ', e⟩ := num_loop hgood hbad ds (Builtin.bitOr f p.2) (some (.im (.str p.1))) (fun q hq => ha q (List.mem_cons_of_mem _ hq)) hb2
      refine ⟨ρ', ?_⟩
      show bnd (g [some (.im kd), some (.im x), some (.im (.int f)), some (.im (.str p.1))]) _ = _
      rw [hgood p hp]
      exact e
theorem rd1_ex {m : MS} {x : Exn} (h : ∃ ρ', m = raise (x, ρ')) : rd1 m = raise x := by
  obtain ⟨ρ', e⟩ := h
  rw [e]; rfl
theorem sq1_ex {m : MS} {h : FS} {x : Exn} (q : ∃ ρ', m = raise (x, ρ')) : ∃ ρ', sq1 m h = raise (x, ρ') := by
  obtain ⟨ρ', e⟩ := q
  exact ⟨ρ', by rw [e]; rfl⟩
theorem numof_no {k d : D} (h : isi2D "list" "tuple" d = ret (.bl false)) : m_number_of A [k, d] = raise ⟨A.BadName, none⟩ := by
  unfold m_number_of
  exists h
theorem numof_bad (hd : (due.map (·.1)).Nodup) {ds : List D} {d : D} (hl : d = .lst ds ∨ d = .tup ds) (ha : ∀ d ∈ ds, (∃ p ∈ due, d = .str p.1) ∨ BadNm due d) (hb : ∃ d ∈ ds, BadNm due d) : m_number_of A [kindD A.Kind due r, d] = raise ⟨A.BadName, none⟩ := by
  unfold m_number_of
  rcases hl with rfl | rfl
  · exists eq_self
    refine rd1_ex (sq1_ex (num_loop A (due := due) (fun p hp f => ?_) (fun d h f => ?_) ds 0 none ha hb))
    · exists m_number_eq A hd hp
    · exists number_bad A hd h
  · exists eq_self
    refine rd1_ex (sq1_ex (num_loop A (due := due) (fun p hp f => ?_) (fun d h f => ?_) ds 0 none ha hb))
    · exists m_number_eq A hd hp
    · exists number_bad A hd h
theorem num_loop_ok {g : FS} {kd x : D} (hgood : ∀ (p : Str × Int), p ∈ due → ∀ f, g [some (.im kd), some (.im x), some (.im (.int f)), some (.im (.str p.1))] = ret (.nx [some (.im kd), some (.im x), some (.im (.int (Builtin.bitOr f p.2))), some (.im (.str p.1))])) :
    ∀ (qs : Due) (f : Int) (c : Option SlotD), (∀ q ∈ qs, q ∈ due) → ∃ ρ', (∃ c', ρ' = [some (.im kd), some (.im x), some (.im (.int (qs.foldl (fun a p => Builtin.bitOr a p.2) f))), c']) ∧ forM (setS 3) g (qs.map fun q => .str q.1) [some (.im kd), some (.im x), some (.im (.int f)), c] = ret (.nx ρ')
  | [], f, c, _ => ⟨_, ⟨c, rfl⟩, rfl⟩
  | p :: qs, f, c, ha => by
    obtain ⟨ρ', e1, e⟩ := num_loop_ok hgood qs (Builtin.bitOr f p.2) (some (.im (.str p.1))) (fun q hq => ha q (List.mem_cons_of_mem _ hq))
    refine ⟨ρ', e1, ?_⟩
    show bnd (g [some (.im kd), some (.im x), some (.im (.int f)), some (.im (.str p.1))]) _ = _
    rw [hgood p (ha p (List.mem_cons_self ..))]
    exact e
theorem orAll_fold (qs : Due) : qs.foldl (fun a p => Builtin.bitOr a p.2) 0 = orAll qs := rfl
theorem numof_ok (hd : (due.map (·.1)).Nodup) {qs : Due} {d : D} (hl : d = .lst (qs.map fun q => .str q.1) ∨ d = .tup (qs.map fun q => .str q.1)) (ha : ∀ q ∈ qs, q ∈ due) : m_number_of A [kindD A.Kind due r, d] = ret (.int (orAll qs)) := by
  unfold m_number_of
  rcases hl with rfl | rfl
  · exists eq_self
    refine rd1_of (loop_then _ (num_loop_ok (due := due) (fun p hp f => ?_) qs 0 none ha) ?_)
    · exists m_number_eq A hd hp
    · rintro _ ⟨c, rfl⟩
      exists orAll_fold
  · exists eq_self
    refine rd1_of (loop_then _ (num_loop_ok (due := due) (fun p hp f => ?_) qs 0 none ha) ?_)
    · exists m_number_eq A hd hp
    · rintro _ ⟨c, rfl⟩
      exists orAll_fold
/-- what is no list of names of the kind -/
def badNms (ok : Str → Bool) : D → Bool
  | .lst ds => ds.any (bad1 ok) && ds.all (one1 ok)
  | .tup ds => ds.any (bad1 ok) && ds.all (one1 ok)
  | .non => true | .bl _ => true | .int _ => true | .str _ => true
  | _ => false
where
  bad1 (ok : Str → Bool) : D → Bool
    | .str s => !ok s
    | d => noStr d
  one1 (ok : Str → Bool) : D → Bool
    | .str _ => true
    | d => noStr d
theorem numof_bads (hd : (due.map (·.1)).Nodup) {ok : Str → Bool} (hok : ∀ s, ok s = false → s ∉ due.map (·.1)) {d : D} (h : badNms ok d = true) : m_number_of A [kindD A.Kind due r, d] = raise ⟨A.BadName, none⟩ := by
  have h1 : ∀ x, badNms.one1 ok x = true → (∃ p ∈ due, x = .str p.1) ∨ BadNm due x := fun x hx => by
    cases x with
    | str s =>
      by_cases hs : s ∈ due.map (·.1)
      · obtain ⟨p, hp, rfl⟩ := List.mem_map.mp hs
        exact .inl ⟨p, hp, rfl⟩
      · exact .inr (.inr ⟨s, rfl, hs⟩)
    | _ => exact .inr (.inl hx)
  have h2 : ∀ x, badNms.bad1 ok x = true → BadNm due x := fun x hx => by
    cases x with
    | str s =>
      have hx : (!ok s) = true := hx
      exact .inr ⟨s, rfl, hok s (by simpa using hx)⟩
    | _ => exact .inl hx
  cases d with
  | non => exact numof_no A isi2_non
  | bl b => exact numof_no A isi2_b
  | int i => exact numof_no A isi2_i
  | str s => exact numof_no A isi2_s
  | lst ds =>
    have ⟨ha, hb⟩ := He.ba h
    obtain ⟨x, hx, hb⟩ := List.any_eq_true.mp ha
    exact numof_bad A hd (.inl rfl) (fun x hx => h1 x (List.all_eq_true.mp ‹_› x hx)) ⟨x, hx, h2 x hb⟩
  | tup ds =>
    have ⟨ha, hb⟩ := He.ba h
    obtain ⟨x, hx, hb⟩ := List.any_eq_true.mp ha
    exact numof_bad A hd (.inr rfl) (fun x hx => h1 x (List.all_eq_true.mp ‹_› x hx)) ⟨x, hx, h2 x hb⟩
  | _ => cases h
/-- the names that the law's kinds may have -/
def isW10 (s : Str) : Bool := decide (s ∈ W10)
theorem isW10_no {L : Ln} (hI : LinesI A L) : ∀ s, isW10 s = false → s ∉ (dueL L).map (·.1) := fun s h hm => by
  have h3 : (L.map (·.2)).map (·.1) = W10.take L.length := hI.2.2
  have hm : s ∈ (L.map (·.2)).map (·.1) := hm
  rw [h3] at hm
  exact of_decide_eq_false h (List.mem_of_mem_take hm)
theorem valof_raise {k d : D} {x : Exn} (h : m_number_of A [k, d] = raise x) : m_value_of A [k, d] = raise x := by
  unfold m_value_of
  exists h
/-! ### words of refusals -/
theorem eq_same {a : D} {n : Nat} (h : Lay n a) (hn : n ≤ 64 := by decide) : eqD false a a = ret (D.bl true) := by
  rw [eqD_lay h h hn hn, eqvD_refl h]; rfl
theorem ne_ref2 {s : Str} (h : s ∈ (["refused", "left", "BadRows", "BadRest", "BadText", "Unled", "BadRule", "BadName", "BadNumber", "Unlike", "BadPairs", "Never", "Nothing"] : List Str)) : eqD true (.tup [.str "refused", .str s]) (.tup [.str "refused", .str s]) = ret (.bl false) := ne_same (lay_ref2 h)
theorem ne_BadNumber : eqD true (.tup [.str "refused", .str "BadNumber"]) (.tup [.str "refused", .str "BadNumber"]) = ret (.bl false) := ne_ref2 (by decide)
theorem ne_BadName : eqD true (.tup [.str "refused", .str "BadName"]) (.tup [.str "refused", .str "BadName"]) = ret (.bl false) := ne_ref2 (by decide)
theorem ne_BadRule : eqD true (.tup [.str "refused", .str "BadRule"]) (.tup [.str "refused", .str "BadRule"]) = ret (.bl false) := ne_ref2 (by decide)
theorem ne_Unlike : eqD true (.tup [.str "refused", .str "Unlike"]) (.tup [.str "refused", .str "Unlike"]) = ret (.bl false) := ne_ref2 (by decide)
theorem ne_BadPairs : eqD true (.tup [.str "refused", .str "BadPairs"]) (.tup [.str "refused", .str "BadPairs"]) = ret (.bl false) := ne_ref2 (by decide)
theorem ne_Never : eqD true (.tup [.str "refused", .str "Never"]) (.tup [.str "refused", .str "Never"]) = ret (.bl false) := ne_ref2 (by decide)
theorem eq_BadNumber : eqD false (.tup [.str "refused", .str "BadNumber"]) (.tup [.str "refused", .str "BadNumber"]) = ret (.bl true) := eq_same (lay_ref2 (by decide))
theorem eqD_bl (neg a b : Bool) : eqD neg (.bl a) (.bl b) = ret (.bl (if neg then !decide (a = b) else decide (a = b))) := by
  cases neg <;> cases a <;> cases b <;> rfl
theorem eqF_b {a b : Bool} : eqD false (.bl a) (.bl b) = ret (.bl (decide (a = b))) := eqD_bl false a b
theorem eqT_b {a b : Bool} : eqD true (.bl a) (.bl b) = ret (.bl (!decide (a = b))) := eqD_bl true a b
theorem dec_tt : decide (true = true) = true := by decide
theorem dec_tf : decide (true = false) = false := by decide
theorem dec_ft : decide (false = true) = false := by decide
theorem dec_ff : decide (false = false) = true := by decide
theorem eqC_vtup (neg : Bool) {kd : D} (ds : List D) : eqC A.Value neg (m_Value___eq__ A) (valueD A kd n) (.tup ds) = ret (.bl (if neg then true else false)) := by
  have e : m_Value___eq__ A [valueD A kd n, .tup ds] = ret (.bl false) := by
    unfold m_Value___eq__
    exists eq_self
  show (if A.Value = A.Value ∧ okR A.Value (.tup ds) = true then bnd (noX (m_Value___eq__ A [valueD A kd n, .tup ds])) (fun r => match r with
    | .bl c => ret (D.bl (if neg then !c else c))
    | _ => stuck) else stuck) = _
  rw [if_pos ⟨rfl, rfl⟩, e, noX_ret, bnd_ret]
  cases neg <;> rfl
end

end DL

namespace DL
open PySem PySem.Spec L2

def m_law_body (A : Cl) : EnvD → MS := (seqE (tupSE (setTupN 2 (setCons (setS 4) (setCons (setS 5) setNil))) (callZE 1 (consE (kcE (.int 8)) nilE) (ofE 1 (m__law_lines A)))) (seqE (forE (itE (toE (consE (kcE (.str "bar")) (consE (kcE (.str "drop")) (consE (kcE (.str "keep")) (consE (kcE (.str "leave")) nilE)))) lstD) itemsL) (setS 2) (seqE (parE 8 9 .im .im (makeE (consE (getV 4) nilE) (getV 2) 1 (m_Kind___init__ A)) (toE (consE (getV 5) nilE) (ofE 1 (m__law_table_of A)))) (seqE (forE (itE (toE (consE (oneE (kcE (.int 1)) negD) (consE (twoE (kcE (.int 2)) (kcE (.int 40)) powD) (consE (kcE (.bl true)) (consE (kcE .non) (consE (kcE (.str "0")) (consE (toE (consE (kcE (.int 0)) nilE) tupD) (consE (twoE (kcE (.int 2)) (kcE (.int 50)) powD) nilE))))))) lstD) itemsL) (setS 3) (ifE (tstE (twoE (toldE A (toE (consE (getV 8) (consE (getV 3) nilE)) (ofE 2 (m_Value___init__ A)))) (toE (consE (kcE (.str "refused")) (consE (kcE (.str "BadNumber")) nilE)) tupD) (eqD true))) (retE (kcE (.bl false))) nopE)) (seqE (forE (itE (toE (consE (twoE (oneE (twoE (kcE (.int 2)) (kcE (.int 40)) powD) negD) (kcE (.int 1)) subD) (consE (twoE (kcE (.int 2)) (kcE (.int 40)) powD) (consE (kcE (.bl true)) (consE (kcE .non) (consE (kcE (.str "0")) (consE (toE (consE (kcE (.int 0)) nilE) tupD) nilE)))))) lstD) itemsL) (setS 3) (ifE (tstE (twoE (toldE A (toE (consE (getV 8) (consE (getV 3) nilE)) (ofE 2 (m_made A)))) (toE (consE (kcE (.str "refused")) (consE (kcE (.str "BadNumber")) nilE)) tupD) (eqD true))) (retE (kcE (.bl false))) nopE)) (seqE (setE 6 (twoE (twoE (kcE (.int 1)) (twoE (kcE (.int 21)) (callZE 1 (consE (kcE (.int 19)) nilE) (ofE 1 m_law_roll)) addD) shlD) (twoE (callZE 1 (consE (twoE (kcE (.int 2)) (kcE (.int 20)) powD) nilE) (ofE 1 m_law_roll)) (twoE (getV 9) (kcE (.str "known")) dgetD) andD) addD)) (seqE (setE 7 (toldE A (toE (consE (getV 8) (consE (getV 6) nilE)) (ofE 2 (m_Value___init__ A))))) (seqE (ifE (tstE (twoE (twoE (getV 7) (toE (consE (kcE (.str "refused")) (consE (kcE (.str "BadNumber")) nilE)) tupD) (eqG A.Value false (m_Value___eq__ A))) (twoE (getV 2) (kcE (.str "keep")) (eqD true)) (eqD true))) (retE (kcE (.bl false))) nopE) (seqE (ifE (tstE (twoE (methE A.Value "number" (toE (consE (getV 8) (consE (twoE (getV 9) (kcE (.str "known")) dgetD) nilE)) (ofE 2 (m_Value___init__ A))) nilE (m_Value_number A)) (twoE (getV 9) (kcE (.str "known")) dgetD) (eqD true))) (retE (kcE (.bl false))) nopE) (ifE (andE (tstE (twoE (getV 2) (kcE (.str "keep")) (eqD false))) (orE (tstE (twoE (methE A.Value "number" (getV 7) nilE (m_Value_number A)) (getV 6) (eqD true))) (tstE (twoE (methE A.Value "number" (toE (consE (getV 8) (consE (twoE (twoE (kcE (.int 2)) (kcE (.int 40)) powD) (kcE (.int 1)) subD) nilE)) (ofE 2 (m_made A))) nilE (m_Value_number A)) (twoE (twoE (kcE (.int 2)) (kcE (.int 40)) powD) (kcE (.int 1)) subD) (eqD true))))) (retE (kcE (.bl false))) nopE))))))))) (forE (itE (toE (consE (kcE .non) (consE (kcE (.int 5)) (consE (kcE (.str "A")) (consE (kcE (.str "")) (consE (toE (consE (kcE .non) nilE) lstD) (consE (toE (consE (kcE (.str "A")) (consE (kcE (.str "Z")) nilE)) lstD) (consE (toE (consE (kcE (.str "z")) nilE) tupD) (consE (toE (consE (toE (consE (kcE (.str "A")) nilE) tupD) nilE) lstD) (consE (toE (consE (kcE (.str "A")) (consE (kcE (.str "")) nilE)) lstD) nilE))))))))) lstD) itemsL) (setS 3) (ifE (tstE (twoE (toldE A (toE (consE (getV 8) (consE (getV 3) nilE)) (ofE 2 (m_value_of A)))) (toE (consE (kcE (.str "refused")) (consE (kcE (.str "BadName")) nilE)) tupD) (eqD true))) (retE (kcE (.bl false))) nopE))))

end DL

set_option maxHeartbeats 4000000
namespace DL
open PySem PySem.Spec L2
local macro_rules | `(tactic| exists $es,*) => `(tactic| simp (config := { failIfUnchanged := false }) only [loopK_nx, loopK_ct, loopK_bk, loopK_rt, nxP_nx, nxP_ct, getV_z, getV_s, getB_z, getB_o, getB_s, frz_o, frz_i, frz_n, frz_s, vzAt_z, vzAt_s, begin_z, begin_n, begin_s, wipe_z, wipe_c, kcE_ap, twoE_ap, tw1_ret, tw1_raise, tw2_ret, tw2_raise, oneE_ap, on1_ret, on1_raise, asK_ret, asK_raise, tstE_ap, notE_ap, ntK_ret, ntK_raise, andE_ap, an1_ret, an1_raise, ↓an2_t, ↓an2_f, an2_ret, orE_ap, or1_ret, or1_raise, ↓or2_t, ↓or2_f, or2_ret, andVE_ap, av1_ret, av1_raise, ↓av2_t, ↓av2_f, av2_ret, orVE_ap, ov1_ret, ov1_raise, ↓ov2_t, ↓ov2_f, ov2_ret, notVE_ap, nvK_ret, nvK_raise, chnE_ap, ch1_ret, ch2_ret, ch3_ret, ifDE_ap, id1_ret, id1_raise, ↓id2_t, ↓id2_f, id2_ret, nilE_ap, consE_ap, cn1_ret, cn1_raise, cn2_ret, cn2_raise, toE_ap, ck_ret, ck_raise, lenLe_n, lenLe_c, tupD_s, lstD_s, nilPE_ap, consPE_ap, cp1_ret, cp2_ret, dispE_ap, dpK_1, dpK_2, dpK_3, dpK_4, ofE_0, ofE_1, ofE_2, ofE_3, ofE_4, ofE_5, ofE_6, ofE_7, ofDE_1, flE_ap, flK_i, flK_b, flK_s, flK_n, flK_raise, callZE_ap, makeE_ap, mk1_ret, mk1_raise, mk2_ret, mk2_raise, methE_ap, mt1_ret, mt1_raise, mt2_obj, mt3_ret, mt3_raise, toldE_ap, tdK_ret, tdK_raise, itE_ap, itK_ret, itK_raise, itemsL_l, itemsL_t, itsE_ap, isK_ret, isK_raise, enumD_l, setS_ap, setNil_ap, setConsS_ap, setTup_1, setTup_2, setTup_3, setTup_4, setTup_5, setConsT_ap, seqE_ap, sq1_nx, sq1_rt, sq1_bk, sq1_ct, sq1_raise, setE_ap, st1_ret, st1_raise, setOE_ap, so1_ret, so1_raise, retE_ap, rt1_ret, rt1_raise, retNE_ap, breakE_ap, exprE_ap, ex1_ret, ex1_raise, nopE_ap, ifE_ap, if1_ret, if1_raise, ↓if2_t, ↓if2_f, frzE_ap, raisePE_ap, raiseFE_ap, rf1_i, rf1_s, rf1_n, rf1_raise, tupSE_ap, tp1_ret, tp1_raise, tp2_some, parE_ap, pa1_ret, pa1_raise, pa2_ret, pa2_raise, slot_im, slot_own, par3E_ap, p31_ret, p32_ret, p33_ret, forE_ap, fo1_ret, fo1_raise, yesE_ap, lcE_ap, runE_ap, rd1_nx, rd1_rt, rd1_raise, fsLe_n, fsLe_c, attE_ap, at1_ret, at1_raise, putFD_n, putFD_c, ifRE_ap, ir1_ret, ir1_raise, ↓ir2_t, ↓ir2_f, ir3_raise, runIE_ap, ri1_nx, ri1_raise, runZE_n, methOE_ap, mo1_ret, mo1_raise, mo2_obj, mo3_ret, mo3_raise, mo4_ret, mo4_raise, getDE_ap, gd1_ret, gd2_ret, gd3_some, keyD_i, keyD_s, noE_ap, someE_ap, sm1_ret, slE_ap, sl1_ret, sl2_ret, sl3_ret, slL_ap, ownAt_z, ownAt_s, appE_ap, ap0_l, ap1_ret, ap1_raise, putE_ap, pu0_d, pu1_ret, pu2_ret, pu3_some, lenE_ap, le1_obj, le2_nat, addD_i, subD_i, andD_i, orD_i, xorD_i, ltD_i, leD_i, gtD_i, geD_i, negD_i, eqF_i, eqT_i, len_t0, len_t1, len_t2, len_t3, len_l0, len_l1, len_l2, ix_t0, ix_t1, ix_t2, ix_l0, ix_l1, ix_l2, ix_l3, all_nil, list_l, list_t, tuple_l, tuple_t, pow_220, pow_221, pow_240, pow_219, pow_250, isN_n, notN_n, isN_b, notN_b, isN_i, notN_i, isN_s, notN_s, isN_l, notN_l, isN_t, notN_t, isN_d, notN_d, isN_o, notN_o, isi_int_non, isi_int_b, isi_int_i, isi_int_s, isi_int_l, isi_int_t, isi_int_d, isi_bool_non, isi_bool_b, isi_bool_i, isi_bool_s, isi_bool_l, isi_bool_t, isi_bool_d, isi_str_non, isi_str_b, isi_str_i, isi_str_s, isi_str_l, isi_str_t, isi_str_d, isi_list_non, isi_list_b, isi_list_i, isi_list_s, isi_list_l, isi_list_t, isi_list_d, isi_tuple_non, isi_tuple_b, isi_tuple_i, isi_tuple_s, isi_tuple_l, isi_tuple_t, isi_tuple_d, isi_dict_non, isi_dict_b, isi_dict_i, isi_dict_s, isi_dict_l, isi_dict_t, isi_dict_d, isi2_non, isi2_b, isi2_i, isi2_s, isi2_l, isi2_t, isi2_d, isiC_non, isiC_b, isiC_i, isiC_s, isiC_l, isiC_t, isiC_d, isiC_o, dget_s, dget_i, inDct_sF, inDct_sT, inDct_iF, inDct_iT, val_own, val_bits, val_isi, kind_isi, kd_lines, kd_rule, kd_table, kd_firsts, kd_all, le1_val, le1_kind, km_rows, km_number, km_names, km_aliases, km_marks, km_mark_bits, km_name_of, km_known, km_rest, vm_kind, vm_number, vm_marks, vm_rest, run_ret, run_raise, forM_nil, tw1_run, tw2_run, on1_run, asK_run, ntK_run, an1_run, or1_run, av1_run, ov1_run, nvK_run, ch1_run, ch2_run, ch3_run, id1_run, cn1_run, cn2_run, ck_run, cp1_run, flK_run, mk1_run, mk2_run, mt1_run, mt3_run, tdK_run, itK_run, isK_run, sq1_run, st1_run, so1_run, rt1_run, ex1_run, if1_run, rf1_run, tp1_run, pa1_run, pa2_run, p31_run, p32_run, p33_run, fo1_run, lc1_run, rd1_run, at1_run, ir1_run, ir3_run, ri1_run, mo1_run, mo3_run, mo4_run, gd1_run, gd2_run, sm1_run, sl1_run, sl2_run, sl3_run, ap1_run, pu1_run, pu2_run, le1_run, le2_run, asK_retR, flK_iR, flK_bR, flK_sR, flK_nR, mk2_retR, sq1_nxR, sq1_rtR, sq1_bkR, sq1_ctR, rf1_iR, rf1_sR, rf1_nR, rd1_nxR, rd1_rtR, at1_retR, ri1_nxR, mo4_retR, gd1_retR, sm1_retR, ap1_retR, le1_objR, le2_natR, le1_valR, le1_kindR, eqG_o, eqG_t, eqG_i, eqG_n, eqG_val, insE_ap, in0_l, in1_ret, in1_raise, in2_ret, in2_raise, insK_ok, in1_run, in2_run, tryNE_ap, ty1_ret, ty1_run, List.set_cons_zero, List.set_cons_succ, Bool.not_true, Bool.not_false, Bool.and_true, Bool.true_and, Bool.and_false, Bool.false_and, Bool.or_false, Bool.false_or, Bool.true_or, Bool.or_true, Bool.not_not, Option.isSome_some, Option.isSome_none, Option.bind_some, eq_self, decide_true, decide_false, Int.reduceEq, Int.reduceLT, Int.reduceLE, Int.reduceNeg, Int.reduceAdd, Int.reduceSub, Nat.reduceAdd, List.nil_append, implies_true, forall_const, ↓reduceIte, Bool.false_eq_true, $[$es:term],*])
def e21 (L : Ln) (a2 a3 a6 a7 a8 a9 : Option SlotD) : EnvD := [none, some (.vz 0), a2, a3, some (.im (.lst (rowsL L))), some (.im (.lst (dueD (dueL L)))), a6, a7, a8, a9]
theorem shl_1 {w : Int} (h0 : 0 ≤ w) (h1 : w ≤ 1000000) : shlD (.int 1) (.int w) = ret (.int (1 * 2 ^ w.toNat)) := if_pos ⟨h0, h1, by decide⟩
theorem vmade_top (A : Cl) {due : Due} (hnum : NumOk due) : m_made A [kindD A.Kind due "keep", .int 1099511627775] = ret (valueD A (kindD A.Kind due "keep") 1099511627775) := by
  have hK := orAll_lt hnum
  rw [made_eq A (by decide) hnum (by decide) (by decide), madeV_same hK.1 (by decide) (.inl rfl)]
  rfl
theorem law_math (A : Cl) (hA : DistA A) : (m_law_body A (rho0 10 1 0)).run LawOk (fun _ => False) := by
  show (m_law_body A [none, some (.vz 0), none, none, none, none, none, none, none, none]).run LawOk (fun _ => False)
  unfold m_law_body
  exists eq_self
  refine m_law_lines_run A (by decide) (by decide) fun L hI h1 h2 => ?_
  exists eq_self
  have hlen : (dueL L).length = L.length := List.length_map ..
  have hl : (dueL L).length < 64 := by omega
  have hnum : NumOk (dueL L) := hI.2.1
  have hn : NamesOk (dueL L) := linesI_names hI
  have hnd := linesI_nodup hI
  have hK := orAll_lt hnum
  show (forM _ _ (Rules4.map D.str) _).run _ _
  refine forM_itemsN D.str (fun xs ρ => (∀ x ∈ xs, x ∈ Rules4) ∧ ∃ a2 a3 a6 a7 a8 a9, ρ = e21 L a2 a3 a6 a7 a8 a9 ∧ (xs = [] → ∃ r ∈ Rules4, a8 = some (.im (kindD A.Kind (dueL L) r)))) ?_ ?_ Rules4 _ ⟨fun x h => h, _, _, _, _, _, _, rfl, fun z => by cases z⟩
  · rintro r xs _ ⟨hx, a2, a3, a6, a7, a8, a9, rfl, _⟩
    have hr := hx r (List.mem_cons_self ..)
    have hxs : ∀ x ∈ xs, x ∈ Rules4 := fun x h => hx x (List.mem_cons_of_mem _ h)
    refine ⟨e21 L (some (.im (.str r))) a3 a6 a7 a8 a9, rfl, ?_⟩
    unfold e21
    exists m_init_eq A hI h1 (by omega) hr, m_law_table_of_eq A hl hnum
    refine forM_memN (fun ρ => ∃ a3, ρ = e21 L (some (.im (.str r))) a3 a6 a7 (some (.im (kindD A.Kind (dueL L) r))) (some (.im (tableD (dueL L))))) _ ?_ ?_ _ ⟨a3, rfl⟩
    · rintro d hd _ ⟨a3, rfl⟩
      refine ⟨e21 L (some (.im (.str r))) (some (.im d)) a6 a7 (some (.im (kindD A.Kind (dueL L) r))) (some (.im (tableD (dueL L)))), rfl, ?_⟩
      have hv := fun k => vinit_bad A (k := k) (all_mem (p := badNum 0 1099511627775) (by rfl) d hd)
      unfold e21
      exists hv, tell_BadNumber hA, ne_BadNumber
      exact ⟨_, rfl⟩
    rintro _ ⟨a3, rfl⟩
    unfold e21
    exists eq_self
    refine forM_memN (fun ρ => ∃ a3, ρ = e21 L (some (.im (.str r))) a3 a6 a7 (some (.im (kindD A.Kind (dueL L) r))) (some (.im (tableD (dueL L))))) _ ?_ ?_ _ ⟨a3, rfl⟩
    · rintro d hd _ ⟨a3, rfl⟩
      refine ⟨e21 L (some (.im (.str r))) (some (.im d)) a6 a7 (some (.im (kindD A.Kind (dueL L) r))) (some (.im (tableD (dueL L)))), rfl, ?_⟩
      have hv := fun k => made_bad A (k := k) (all_mem (p := badNum (-1099511627776) 1099511627775) (by rfl) d hd)
      unfold e21
      exists hv, tell_BadNumber hA, ne_BadNumber
      exact ⟨_, rfl⟩
    rintro _ ⟨a3, rfl⟩
    unfold e21
    exists eq_self
    refine roll_ok (by decide) (by decide) fun w w0 w1 => ?_
    exists shl_1 (show 0 ≤ 21 + w by omega) (by omega)
    refine roll_ok (by decide) (by decide) fun u u0 u1 => ?_
    have ha := and_ge u0 hK.1
    have hb := and_le_r u0 hK.1
    obtain ⟨v, ev, v0, v1⟩ : ∃ v : Int, (1 * 2 ^ (21 + w).toNat : Int) + Builtin.bitAnd u (orAll (dueL L)) = v ∧ 2097152 ≤ v ∧ v < 1099511627776 := by
      refine ⟨_, rfl, ?_⟩
      obtain ⟨m, rfl⟩ : ∃ m : Nat, w = m := ⟨w.toNat, by omega⟩
      have e1 : (21 + (m : Int)).toNat = 21 + m := by omega
      rw [e1, Int.one_mul]
      have h1 : (2 : Int) ^ (21 + m) = ((2 ^ (21 + m) : Nat) : Int) := by simp
      have h2 : (2 : Nat) ^ 21 ≤ 2 ^ (21 + m) := Nat.pow_le_pow_right (by decide) (by omega)
      have h3 : (2 : Nat) ^ (21 + m) ≤ 2 ^ 39 := Nat.pow_le_pow_right (by decide) (by omega)
      have h4 : (2 : Nat) ^ 21 = 2097152 := by decide
      have h5 : (2 : Nat) ^ 39 = 549755813888 := by decide
      rw [h1]
      omega
    have hbv : Builtin.bitAnd v (orAll (dueL L)) ≠ v := by
      have := and_le_r (show 0 ≤ v by omega) hK.1
      omega
    have hK2 : m_Value___init__ A [kindD A.Kind (dueL L) r, .int (orAll (dueL L))] = ret (valueD A (kindD A.Kind (dueL L) r) (orAll (dueL L))) := vinit_ok A hr hK.1 (by omega) (.inr (by
      rw [and_nat hK.1 hK.1, Nat.and_self]; omega))
    exists tab_known, ev
    by_cases hk : r = "keep"
    · subst hk
      exists vinit_ok A hr (show 0 ≤ v by omega) v1 (.inl rfl), eqF_s ok_keep ok_keep, eqT_s ok_keep ok_keep, hK2, vnumber A, vmade_top A hnum, tab_known, eqC_vtup A, eqT_b, dec_tt, dec_ff, dec_tf, dec_ft
      exact ⟨hxs, _, _, _, _, _, _, rfl, fun _ => ⟨_, hr, rfl⟩⟩
    · exists vinit_rest A hr (show 0 ≤ v by omega) v1 hk hbv, tell_BadNumber hA, eqT_s (strOk_rule hr) ok_keep, eqF_s (strOk_rule hr) ok_keep, decide_eq_false hk, hK2, vnumber A, tab_known, eqG_t, eq_BadNumber, eqT_b, dec_tt, dec_ff, dec_tf, dec_ft
      exact ⟨hxs, _, _, _, _, _, _, rfl, fun _ => ⟨_, hr, rfl⟩⟩
  · rintro _ ⟨_, a2, a3, a6, a7, a8, a9, rfl, h8⟩
    obtain ⟨r, hr, rfl⟩ := h8 rfl
    unfold e21
    exists eq_self
    refine forM_memN (fun ρ => ∃ a3, ρ = e21 L a2 a3 a6 a7 (some (.im (kindD A.Kind (dueL L) r))) a9) _ ?_ ?_ _ ⟨a3, rfl⟩
    · rintro d hd _ ⟨a3, rfl⟩
      refine ⟨e21 L a2 (some (.im d)) a6 a7 (some (.im (kindD A.Kind (dueL L) r))) a9, rfl, ?_⟩
      have hv := numof_bads A (r := r) hnd (isW10_no A hI) (all_mem (p := badNms isW10) (by decide +kernel) d hd)
      unfold e21
      exists valof_raise A hv, tell_BadName hA, ne_BadName
      exact ⟨_, rfl⟩
    · rintro _ ⟨a3, rfl⟩
      unfold e21
      exists eq_self
      trivial

end DL

namespace DL
open PySem PySem.Spec L2

def topS (i : Nat) : Stmt := PySem.Challenge.pw_markworks_k21_values_refused.main.body.getD i (.Pass ⟨0, 0, 0, 0⟩)
abbrev s_BadRows___init__ : Stmt := (inClass (topS 3) 0)
abbrev s_BadRest___init__ : Stmt := (inClass (topS 4) 0)
abbrev s_BadText___init__ : Stmt := (inClass (topS 5) 0)
abbrev s_Unled___init__ : Stmt := (inClass (topS 6) 0)
abbrev s_is_word : Stmt := (topS 20)
abbrev s_is_number : Stmt := (topS 19)
abbrev s_next_bit : Stmt := (topS 22)
abbrev s_number_by : Stmt := (topS 23)
abbrev s_read_rows : Stmt := (topS 24)
abbrev s_Kind___init__ : Stmt := (inClass (topS 25) 0)
abbrev s_Kind___eq__ : Stmt := (inClass (topS 25) 2)
abbrev s_Kind_number : Stmt := (inClass (topS 25) 4)
abbrev s_Kind_known : Stmt := (inClass (topS 25) 10)
abbrev s_Kind_rest : Stmt := (inClass (topS 25) 11)
abbrev s_Value___init__ : Stmt := (inClass (topS 28) 0)
abbrev s_Value___eq__ : Stmt := (inClass (topS 28) 2)
abbrev s_Value_number : Stmt := (inClass (topS 28) 4)
abbrev s_without_bits : Stmt := (topS 29)
abbrev s_made : Stmt := (topS 30)
abbrev s_number_of : Stmt := (topS 31)
abbrev s_value_of : Stmt := (topS 32)
abbrev s__law_drawn : Stmt := (topS 35)
abbrev s__law_roll : Stmt := (topS 36)
abbrev s__law_cell : Stmt := (topS 34)
abbrev s__law_rounds : Stmt := (topS 37)
abbrev s__law_word : Stmt := (topS 38)
abbrev s__law_told : Stmt := (topS 39)
abbrev s__law_lines : Stmt := (topS 41)
abbrev s__law_bits_of : Stmt := (topS 40)
abbrev s__law_table_of : Stmt := (topS 42)
abbrev s_law : Stmt := (topS 43)
def cl (K : PySem.W.Frag) : Cl := { MarkError := He.ga K "MarkError", BadRows := He.ga K "BadRows", BadRest := He.ga K "BadRest", BadText := He.ga K "BadText", Unled := He.ga K "Unled", BadRule := He.ga K "BadRule", BadName := He.ga K "BadName", BadNumber := He.ga K "BadNumber", Unlike := He.ga K "Unlike", BadPairs := He.ga K "BadPairs", Never := He.ga K "Never", Nothing := He.ga K "Nothing", Kind := He.ga K "Kind", Value := He.ga K "Value" }
def d_BadRows___init__ : He.DefD := ⟨("BadRows", some "__init__"), "__init__", "BadRows.__init__", defArgs s_BadRows___init__, defBody s_BadRows___init__, defScope s_BadRows___init__, [], []⟩
def d_BadRest___init__ : He.DefD := ⟨("BadRest", some "__init__"), "__init__", "BadRest.__init__", defArgs s_BadRest___init__, defBody s_BadRest___init__, defScope s_BadRest___init__, [], []⟩
def d_BadText___init__ : He.DefD := ⟨("BadText", some "__init__"), "__init__", "BadText.__init__", defArgs s_BadText___init__, defBody s_BadText___init__, defScope s_BadText___init__, [], []⟩
def d_Unled___init__ : He.DefD := ⟨("Unled", some "__init__"), "__init__", "Unled.__init__", defArgs s_Unled___init__, defBody s_Unled___init__, defScope s_Unled___init__, [], []⟩
def d_is_word : He.DefD := ⟨("is_word", none), "is_word", "is_word", defArgs s_is_word, defBody s_is_word, defScope s_is_word, [], []⟩
def d_is_number : He.DefD := ⟨("is_number", none), "is_number", "is_number", defArgs s_is_number, defBody s_is_number, defScope s_is_number, [], []⟩
def d_next_bit : He.DefD := ⟨("next_bit", none), "next_bit", "next_bit", defArgs s_next_bit, defBody s_next_bit, defScope s_next_bit, [], []⟩
def d_number_by : He.DefD := ⟨("number_by", none), "number_by", "number_by", defArgs s_number_by, defBody s_number_by, defScope s_number_by, [], []⟩
def d_read_rows : He.DefD := ⟨("read_rows", none), "read_rows", "read_rows", defArgs s_read_rows, defBody s_read_rows, defScope s_read_rows, [], []⟩
def d_Kind___init__ : He.DefD := ⟨("Kind", some "__init__"), "__init__", "Kind.__init__", defArgs s_Kind___init__, defBody s_Kind___init__, defScope s_Kind___init__, [], [("rest", .str "bar")]⟩
def d_Kind___eq__ : He.DefD := ⟨("Kind", some "__eq__"), "__eq__", "Kind.__eq__", defArgs s_Kind___eq__, defBody s_Kind___eq__, defScope s_Kind___eq__, [], []⟩
def d_Kind_number : He.DefD := ⟨("Kind", some "number"), "number", "Kind.number", defArgs s_Kind_number, defBody s_Kind_number, defScope s_Kind_number, [], []⟩
def d_Kind_known : He.DefD := ⟨("Kind", some "known"), "known", "Kind.known", defArgs s_Kind_known, defBody s_Kind_known, defScope s_Kind_known, [], []⟩
def d_Kind_rest : He.DefD := ⟨("Kind", some "rest"), "rest", "Kind.rest", defArgs s_Kind_rest, defBody s_Kind_rest, defScope s_Kind_rest, [], []⟩
def d_Value___init__ : He.DefD := ⟨("Value", some "__init__"), "__init__", "Value.__init__", defArgs s_Value___init__, defBody s_Value___init__, defScope s_Value___init__, [], []⟩
def d_Value___eq__ : He.DefD := ⟨("Value", some "__eq__"), "__eq__", "Value.__eq__", defArgs s_Value___eq__, defBody s_Value___eq__, defScope s_Value___eq__, [], []⟩
def d_Value_number : He.DefD := ⟨("Value", some "number"), "number", "Value.number", defArgs s_Value_number, defBody s_Value_number, defScope s_Value_number, [], []⟩
def d_without_bits : He.DefD := ⟨("without_bits", none), "without_bits", "without_bits", defArgs s_without_bits, defBody s_without_bits, defScope s_without_bits, [], []⟩
def d_made : He.DefD := ⟨("made", none), "made", "made", defArgs s_made, defBody s_made, defScope s_made, [], []⟩
def d_number_of : He.DefD := ⟨("number_of", none), "number_of", "number_of", defArgs s_number_of, defBody s_number_of, defScope s_number_of, [], []⟩
def d_value_of : He.DefD := ⟨("value_of", none), "value_of", "value_of", defArgs s_value_of, defBody s_value_of, defScope s_value_of, [], []⟩
def d__law_drawn : He.DefD := ⟨("_law_drawn", none), "_law_drawn", "_law_drawn", defArgs s__law_drawn, defBody s__law_drawn, defScope s__law_drawn, [], []⟩
def d__law_roll : He.DefD := ⟨("_law_roll", none), "_law_roll", "_law_roll", defArgs s__law_roll, defBody s__law_roll, defScope s__law_roll, [], []⟩
def d__law_cell : He.DefD := ⟨("_law_cell", none), "_law_cell", "_law_cell", defArgs s__law_cell, defBody s__law_cell, defScope s__law_cell, [], []⟩
def d__law_rounds : He.DefD := ⟨("_law_rounds", none), "_law_rounds", "_law_rounds", defArgs s__law_rounds, defBody s__law_rounds, defScope s__law_rounds, [], []⟩
def d__law_word : He.DefD := ⟨("_law_word", none), "_law_word", "_law_word", defArgs s__law_word, defBody s__law_word, defScope s__law_word, [], []⟩
def d__law_told : He.DefD := ⟨("_law_told", none), "_law_told", "_law_told", defArgs s__law_told, defBody s__law_told, defScope s__law_told, [], []⟩
def d__law_lines : He.DefD := ⟨("_law_lines", none), "_law_lines", "_law_lines", defArgs s__law_lines, defBody s__law_lines, defScope s__law_lines, [], []⟩
def d__law_bits_of : He.DefD := ⟨("_law_bits_of", none), "_law_bits_of", "_law_bits_of", defArgs s__law_bits_of, defBody s__law_bits_of, defScope s__law_bits_of, [], []⟩
def d__law_table_of : He.DefD := ⟨("_law_table_of", none), "_law_table_of", "_law_table_of", defArgs s__law_table_of, defBody s__law_table_of, defScope s__law_table_of, [], []⟩
def d_law : He.DefD := ⟨("law", none), "law", "law", defArgs s_law, defBody s_law, defScope s_law, [], []⟩
def fa : List He.Fa := [.glo "is_word",
  .glo "is_number",
  .glo "next_bit",
  .glo "number_by",
  .glo "read_rows",
  .meth "Kind" "__eq__",
  .meth "Kind" "number",
  .meth "Kind" "known",
  .meth "Kind" "rest",
  .meth "Value" "__eq__",
  .meth "Value" "number",
  .glo "without_bits",
  .glo "made",
  .glo "number_of",
  .glo "value_of",
  .glo "_law_drawn",
  .glo "_law_roll",
  .glo "_law_cell",
  .glo "_law_rounds",
  .glo "_law_word",
  .glo "_law_told",
  .glo "_law_lines",
  .glo "_law_bits_of",
  .glo "_law_table_of",
  .glo "law",
  .glo "Kind",
  .cls "Kind",
  .mkr "Kind",
  .noat "Kind" "lines",
  .noat "Kind" "rule",
  .noat "Kind" "table",
  .noat "Kind" "firsts",
  .noat "Kind" "all_bits",
  .glo "Value",
  .cls "Value",
  .mkr "Value",
  .noat "Value" "own",
  .noat "Value" "own_bits",
  .glo "MarkError",
  .glo "BadRows",
  .glo "BadRest",
  .glo "BadText",
  .glo "Unled",
  .glo "BadRule",
  .glo "BadName",
  .glo "BadNumber",
  .glo "Unlike",
  .glo "BadPairs",
  .glo "Never",
  .glo "Nothing",
  .exc "BadRule",
  .exc "BadName",
  .exc "BadNumber",
  .exc "Unlike",
  .exc "BadPairs",
  .exc "Never",
  .exc "Nothing",
  .str "CAPITAL" "ABCDEFGHIJKLMNOPQRSTUVWXYZ",
  .int "MOST_ROWS" 10,
  .int "GREATEST" 1048575,
  .glo "RULES",
  .int "FARTHEST" 1099511627775,
  .free "len",
  .free "all",
  .free "any",
  .free "sum",
  .free "list",
  .free "tuple",
  .free "dict",
  .free "isinstance",
  .free "sorted",
  .free "max",
  .free "min",
  .free "range",
  .free "enumerate",
  .free "int",
  .free "str",
  .free "set",
  .free "bool",
  .free "ValueError"]
def fn : List He.DefD := [d_BadRows___init__, d_BadRest___init__, d_BadText___init__, d_Unled___init__, d_is_word, d_is_number, d_next_bit, d_number_by, d_read_rows, d_Kind___init__, d_Kind___eq__, d_Kind_number, d_Kind_known, d_Kind_rest, d_Value___init__, d_Value___eq__, d_Value_number, d_without_bits, d_made, d_number_of, d_value_of, d__law_drawn, d__law_roll, d__law_cell, d__law_rounds, d__law_word, d__law_told, d__law_lines, d__law_bits_of, d__law_table_of, d_law]
def exB (K : PySem.W.Frag) : Bool := toldB K && (fieldB K (He.ga K "BadRows") (He.ma K (He.ga K "BadRows") "__init__") "at" && (fieldB K (He.ga K "BadRest") (He.ma K (He.ga K "BadRest") "__init__") "bits" && (fieldB K (He.ga K "BadText") (He.ma K (He.ga K "BadText") "__init__") "at" && (fieldB K (He.ga K "Unled") (He.ma K (He.ga K "Unled") "__init__") "name" && (baseB K (He.ga K "MarkError") && (isCB K (He.ga K "Kind") && (neB K (He.ga K "Kind") && (isCB K (He.ga K "Value") && (neB K (He.ga K "Value") && (He.tupB K "RULES" ((["bar", "drop", "keep", "leave"] : List Str).map He.Dv.str)))))))))))
structure Txt (K : PySem.W.Frag) (mg : Str → Option Value) : Prop where
  t : Tx fa fn exB K mg
section
variable {P : Program} {w : World} {K : PySem.W.Frag} {mg : Str → Option Value} {base : Heap}
theorem Txt.e10 (T : Txt K mg) : He.tupB K "RULES" ((["bar", "drop", "keep", "leave"] : List Str).map He.Dv.str) = true := (He.ba (He.ba (He.ba (He.ba (He.ba (He.ba (He.ba (He.ba (He.ba (He.ba T.t.e).2).2).2).2).2).2).2).2).2).2
theorem Txt.e9 (T : Txt K mg) : neB K (He.ga K "Value") = true := (He.ba (He.ba (He.ba (He.ba (He.ba (He.ba (He.ba (He.ba (He.ba (He.ba T.t.e).2).2).2).2).2).2).2).2).2).1
theorem Txt.e8 (T : Txt K mg) : isCB K (He.ga K "Value") = true := (He.ba (He.ba (He.ba (He.ba (He.ba (He.ba (He.ba (He.ba (He.ba T.t.e).2).2).2).2).2).2).2).2).1
theorem Txt.e7 (T : Txt K mg) : neB K (He.ga K "Kind") = true := (He.ba (He.ba (He.ba (He.ba (He.ba (He.ba (He.ba (He.ba T.t.e).2).2).2).2).2).2).2).1
theorem Txt.e6 (T : Txt K mg) : isCB K (He.ga K "Kind") = true := (He.ba (He.ba (He.ba (He.ba (He.ba (He.ba (He.ba T.t.e).2).2).2).2).2).2).1
theorem Txt.e5 (T : Txt K mg) : baseB K (He.ga K "MarkError") = true := (He.ba (He.ba (He.ba (He.ba (He.ba (He.ba T.t.e).2).2).2).2).2).1
theorem Txt.e4 (T : Txt K mg) : fieldB K (He.ga K "Unled") (He.ma K (He.ga K "Unled") "__init__") "name" = true := (He.ba (He.ba (He.ba (He.ba (He.ba T.t.e).2).2).2).2).1
theorem Txt.e3 (T : Txt K mg) : fieldB K (He.ga K "BadText") (He.ma K (He.ga K "BadText") "__init__") "at" = true := (He.ba (He.ba (He.ba (He.ba T.t.e).2).2).2).1
theorem Txt.e2 (T : Txt K mg) : fieldB K (He.ga K "BadRest") (He.ma K (He.ga K "BadRest") "__init__") "bits" = true := (He.ba (He.ba (He.ba T.t.e).2).2).1
theorem Txt.e1 (T : Txt K mg) : fieldB K (He.ga K "BadRows") (He.ma K (He.ga K "BadRows") "__init__") "at" = true := (He.ba (He.ba T.t.e).2).1
theorem Txt.e0 (T : Txt K mg) : toldB K = true := (He.ba T.t.e).1
theorem Txt.ex_RULES (T : Txt K mg) : He.tupB K "RULES" ((["bar", "drop", "keep", "leave"] : List Str).map He.Dv.str) = true := T.e10
theorem Txt.D_BadRows___init__ (T : Txt K mg) : FunD K "__init__" "BadRows.__init__" (defArgs s_BadRows___init__) (defBody s_BadRows___init__) (defScope s_BadRows___init__) [] [] (He.ma K (He.ga K "BadRows") "__init__") (fdOf K ("BadRows", some "__init__")) := T.t.funD 0 (d := d_BadRows___init__)
theorem Txt.k_BadRows___init__ (T : Txt K mg) : PySem.W.keepIn K (.ref (He.ma K (He.ga K "BadRows") "__init__")) = true := (T.D_BadRows___init__).kp
theorem Txt.F_BadRows___init__ (T : Txt K mg) : Fun K "__init__" "BadRows.__init__" s_BadRows___init__ (He.ma K (He.ga K "BadRows") "__init__") (fdOf K ("BadRows", some "__init__")) := fun_of T.D_BadRows___init__
theorem Txt.B_BadRows___init__ (T : Txt K mg) : Binds K (fdOf K ("BadRows", some "__init__")) ["self", "at"] [] := FunD.bindsN T.D_BadRows___init__ fun _ _ _ _ _ _ us hl => match us, hl with | [_, _], _ => rfl
theorem Txt.D_BadRest___init__ (T : Txt K mg) : FunD K "__init__" "BadRest.__init__" (defArgs s_BadRest___init__) (defBody s_BadRest___init__) (defScope s_BadRest___init__) [] [] (He.ma K (He.ga K "BadRest") "__init__") (fdOf K ("BadRest", some "__init__")) := T.t.funD 1 (d := d_BadRest___init__)
theorem Txt.k_BadRest___init__ (T : Txt K mg) : PySem.W.keepIn K (.ref (He.ma K (He.ga K "BadRest") "__init__")) = true := (T.D_BadRest___init__).kp
theorem Txt.F_BadRest___init__ (T : Txt K mg) : Fun K "__init__" "BadRest.__init__" s_BadRest___init__ (He.ma K (He.ga K "BadRest") "__init__") (fdOf K ("BadRest", some "__init__")) := fun_of T.D_BadRest___init__
theorem Txt.B_BadRest___init__ (T : Txt K mg) : Binds K (fdOf K ("BadRest", some "__init__")) ["self", "bits"] [] := FunD.bindsN T.D_BadRest___init__ fun _ _ _ _ _ _ us hl => match us, hl with | [_, _], _ => rfl
theorem Txt.D_BadText___init__ (T : Txt K mg) : FunD K "__init__" "BadText.__init__" (defArgs s_BadText___init__) (defBody s_BadText___init__) (defScope s_BadText___init__) [] [] (He.ma K (He.ga K "BadText") "__init__") (fdOf K ("BadText", some "__init__")) := T.t.funD 2 (d := d_BadText___init__)
theorem Txt.k_BadText___init__ (T : Txt K mg) : PySem.W.keepIn K (.ref (He.ma K (He.ga K "BadText") "__init__")) = true := (T.D_BadText___init__).kp
theorem Txt.F_BadText___init__ (T : Txt K mg) : Fun K "__init__" "BadText.__init__" s_BadText___init__ (He.ma K (He.ga K "BadText") "__init__") (fdOf K ("BadText", some "__init__")) := fun_of T.D_BadText___init__
theorem Txt.B_BadText___init__ (T : Txt K mg) : Binds K (fdOf K ("BadText", some "__init__")) ["self", "at"] [] := FunD.bindsN T.D_BadText___init__ fun _ _ _ _ _ _ us hl => match us, hl with | [_, _], _ => rfl
theorem Txt.D_Unled___init__ (T : Txt K mg) : FunD K "__init__" "Unled.__init__" (defArgs s_Unled___init__) (defBody s_Unled___init__) (defScope s_Unled___init__) [] [] (He.ma K (He.ga K "Unled") "__init__") (fdOf K ("Unled", some "__init__")) := T.t.funD 3 (d := d_Unled___init__)
theorem Txt.k_Unled___init__ (T : Txt K mg) : PySem.W.keepIn K (.ref (He.ma K (He.ga K "Unled") "__init__")) = true := (T.D_Unled___init__).kp
theorem Txt.F_Unled___init__ (T : Txt K mg) : Fun K "__init__" "Unled.__init__" s_Unled___init__ (He.ma K (He.ga K "Unled") "__init__") (fdOf K ("Unled", some "__init__")) := fun_of T.D_Unled___init__
theorem Txt.B_Unled___init__ (T : Txt K mg) : Binds K (fdOf K ("Unled", some "__init__")) ["self", "name"] [] := FunD.bindsN T.D_Unled___init__ fun _ _ _ _ _ _ us hl => match us, hl with | [_, _], _ => rfl
theorem Txt.D_is_word (T : Txt K mg) : FunD K "is_word" "is_word" (defArgs s_is_word) (defBody s_is_word) (defScope s_is_word) [] [] (He.ga K "is_word") (fdOf K ("is_word", none)) := T.t.funD 4 (d := d_is_word)
theorem Txt.k_is_word (T : Txt K mg) : PySem.W.keepIn K (.ref (He.ga K "is_word")) = true := (T.D_is_word).kp
theorem Txt.F_is_word (T : Txt K mg) : Fun K "is_word" "is_word" s_is_word (He.ga K "is_word") (fdOf K ("is_word", none)) := fun_of T.D_is_word
theorem Txt.B_is_word (T : Txt K mg) : Binds K (fdOf K ("is_word", none)) ["thing", "signs", "most"] [] := FunD.bindsN T.D_is_word fun _ _ _ _ _ _ us hl => match us, hl with | [_, _, _], _ => rfl
theorem Txt.m_is_word (T : Txt K mg) : mg "is_word" = some (.ref (He.ga K "is_word")) := T.t.glo 0
theorem Txt.D_is_number (T : Txt K mg) : FunD K "is_number" "is_number" (defArgs s_is_number) (defBody s_is_number) (defScope s_is_number) [] [] (He.ga K "is_number") (fdOf K ("is_number", none)) := T.t.funD 5 (d := d_is_number)
theorem Txt.k_is_number (T : Txt K mg) : PySem.W.keepIn K (.ref (He.ga K "is_number")) = true := (T.D_is_number).kp
theorem Txt.F_is_number (T : Txt K mg) : Fun K "is_number" "is_number" s_is_number (He.ga K "is_number") (fdOf K ("is_number", none)) := fun_of T.D_is_number
theorem Txt.B_is_number (T : Txt K mg) : Binds K (fdOf K ("is_number", none)) ["thing", "low", "high"] [] := FunD.bindsN T.D_is_number fun _ _ _ _ _ _ us hl => match us, hl with | [_, _, _], _ => rfl
theorem Txt.m_is_number (T : Txt K mg) : mg "is_number" = some (.ref (He.ga K "is_number")) := T.t.glo 1
theorem Txt.D_next_bit (T : Txt K mg) : FunD K "next_bit" "next_bit" (defArgs s_next_bit) (defBody s_next_bit) (defScope s_next_bit) [] [] (He.ga K "next_bit") (fdOf K ("next_bit", none)) := T.t.funD 6 (d := d_next_bit)
theorem Txt.k_next_bit (T : Txt K mg) : PySem.W.keepIn K (.ref (He.ga K "next_bit")) = true := (T.D_next_bit).kp
theorem Txt.F_next_bit (T : Txt K mg) : Fun K "next_bit" "next_bit" s_next_bit (He.ga K "next_bit") (fdOf K ("next_bit", none)) := fun_of T.D_next_bit
theorem Txt.B_next_bit (T : Txt K mg) : Binds K (fdOf K ("next_bit", none)) ["rows"] [] := FunD.bindsN T.D_next_bit fun _ _ _ _ _ _ us hl => match us, hl with | [_], _ => rfl
theorem Txt.m_next_bit (T : Txt K mg) : mg "next_bit" = some (.ref (He.ga K "next_bit")) := T.t.glo 2
theorem Txt.D_number_by (T : Txt K mg) : FunD K "number_by" "number_by" (defArgs s_number_by) (defBody s_number_by) (defScope s_number_by) [] [] (He.ga K "number_by") (fdOf K ("number_by", none)) := T.t.funD 7 (d := d_number_by)
theorem Txt.k_number_by (T : Txt K mg) : PySem.W.keepIn K (.ref (He.ga K "number_by")) = true := (T.D_number_by).kp
theorem Txt.F_number_by (T : Txt K mg) : Fun K "number_by" "number_by" s_number_by (He.ga K "number_by") (fdOf K ("number_by", none)) := fun_of T.D_number_by
theorem Txt.B_number_by (T : Txt K mg) : Binds K (fdOf K ("number_by", none)) ["thing", "rows"] [] := FunD.bindsN T.D_number_by fun _ _ _ _ _ _ us hl => match us, hl with | [_, _], _ => rfl
theorem Txt.m_number_by (T : Txt K mg) : mg "number_by" = some (.ref (He.ga K "number_by")) := T.t.glo 3
theorem Txt.D_read_rows (T : Txt K mg) : FunD K "read_rows" "read_rows" (defArgs s_read_rows) (defBody s_read_rows) (defScope s_read_rows) [] [] (He.ga K "read_rows") (fdOf K ("read_rows", none)) := T.t.funD 8 (d := d_read_rows)
theorem Txt.k_read_rows (T : Txt K mg) : PySem.W.keepIn K (.ref (He.ga K "read_rows")) = true := (T.D_read_rows).kp
theorem Txt.F_read_rows (T : Txt K mg) : Fun K "read_rows" "read_rows" s_read_rows (He.ga K "read_rows") (fdOf K ("read_rows", none)) := fun_of T.D_read_rows
theorem Txt.B_read_rows (T : Txt K mg) : Binds K (fdOf K ("read_rows", none)) ["rows"] [] := FunD.bindsN T.D_read_rows fun _ _ _ _ _ _ us hl => match us, hl with | [_], _ => rfl
theorem Txt.m_read_rows (T : Txt K mg) : mg "read_rows" = some (.ref (He.ga K "read_rows")) := T.t.glo 4
theorem Txt.D_Kind___init__ (T : Txt K mg) : FunD K "__init__" "Kind.__init__" (defArgs s_Kind___init__) (defBody s_Kind___init__) (defScope s_Kind___init__) [] [("rest", .str "bar")] (He.ma K (He.ga K "Kind") "__init__") (fdOf K ("Kind", some "__init__")) := T.t.funD 9 (d := d_Kind___init__)
theorem Txt.k_Kind___init__ (T : Txt K mg) : PySem.W.keepIn K (.ref (He.ma K (He.ga K "Kind") "__init__")) = true := (T.D_Kind___init__).kp
theorem Txt.D_Kind___eq__ (T : Txt K mg) : FunD K "__eq__" "Kind.__eq__" (defArgs s_Kind___eq__) (defBody s_Kind___eq__) (defScope s_Kind___eq__) [] [] (He.ma K (He.ga K "Kind") "__eq__") (fdOf K ("Kind", some "__eq__")) := T.t.funD 10 (d := d_Kind___eq__)
theorem Txt.k_Kind___eq__ (T : Txt K mg) : PySem.W.keepIn K (.ref (He.ma K (He.ga K "Kind") "__eq__")) = true := (T.D_Kind___eq__).kp
theorem Txt.F_Kind___eq__ (T : Txt K mg) : Fun K "__eq__" "Kind.__eq__" s_Kind___eq__ (He.ma K (He.ga K "Kind") "__eq__") (fdOf K ("Kind", some "__eq__")) := fun_of T.D_Kind___eq__
theorem Txt.B_Kind___eq__ (T : Txt K mg) : Binds K (fdOf K ("Kind", some "__eq__")) ["self", "other"] [] := FunD.bindsN T.D_Kind___eq__ fun _ _ _ _ _ _ us hl => match us, hl with | [_, _], _ => rfl
theorem Txt.t_Kind___eq__ (T : Txt K mg) : Meth K (He.ga K "Kind") "__eq__" (He.ma K (He.ga K "Kind") "__eq__") := T.t.meth 5
theorem Txt.D_Kind_number (T : Txt K mg) : FunD K "number" "Kind.number" (defArgs s_Kind_number) (defBody s_Kind_number) (defScope s_Kind_number) [] [] (He.ma K (He.ga K "Kind") "number") (fdOf K ("Kind", some "number")) := T.t.funD 11 (d := d_Kind_number)
theorem Txt.k_Kind_number (T : Txt K mg) : PySem.W.keepIn K (.ref (He.ma K (He.ga K "Kind") "number")) = true := (T.D_Kind_number).kp
theorem Txt.F_Kind_number (T : Txt K mg) : Fun K "number" "Kind.number" s_Kind_number (He.ma K (He.ga K "Kind") "number") (fdOf K ("Kind", some "number")) := fun_of T.D_Kind_number
theorem Txt.B_Kind_number (T : Txt K mg) : Binds K (fdOf K ("Kind", some "number")) ["self", "name"] [] := FunD.bindsN T.D_Kind_number fun _ _ _ _ _ _ us hl => match us, hl with | [_, _], _ => rfl
theorem Txt.t_Kind_number (T : Txt K mg) : Meth K (He.ga K "Kind") "number" (He.ma K (He.ga K "Kind") "number") := T.t.meth 6
theorem Txt.D_Kind_known (T : Txt K mg) : FunD K "known" "Kind.known" (defArgs s_Kind_known) (defBody s_Kind_known) (defScope s_Kind_known) [] [] (He.ma K (He.ga K "Kind") "known") (fdOf K ("Kind", some "known")) := T.t.funD 12 (d := d_Kind_known)
theorem Txt.k_Kind_known (T : Txt K mg) : PySem.W.keepIn K (.ref (He.ma K (He.ga K "Kind") "known")) = true := (T.D_Kind_known).kp
theorem Txt.F_Kind_known (T : Txt K mg) : Fun K "known" "Kind.known" s_Kind_known (He.ma K (He.ga K "Kind") "known") (fdOf K ("Kind", some "known")) := fun_of T.D_Kind_known
theorem Txt.B_Kind_known (T : Txt K mg) : Binds K (fdOf K ("Kind", some "known")) ["self"] [] := FunD.bindsN T.D_Kind_known fun _ _ _ _ _ _ us hl => match us, hl with | [_], _ => rfl
theorem Txt.t_Kind_known (T : Txt K mg) : Meth K (He.ga K "Kind") "known" (He.ma K (He.ga K "Kind") "known") := T.t.meth 7
theorem Txt.D_Kind_rest (T : Txt K mg) : FunD K "rest" "Kind.rest" (defArgs s_Kind_rest) (defBody s_Kind_rest) (defScope s_Kind_rest) [] [] (He.ma K (He.ga K "Kind") "rest") (fdOf K ("Kind", some "rest")) := T.t.funD 13 (d := d_Kind_rest)
theorem Txt.k_Kind_rest (T : Txt K mg) : PySem.W.keepIn K (.ref (He.ma K (He.ga K "Kind") "rest")) = true := (T.D_Kind_rest).kp
theorem Txt.F_Kind_rest (T : Txt K mg) : Fun K "rest" "Kind.rest" s_Kind_rest (He.ma K (He.ga K "Kind") "rest") (fdOf K ("Kind", some "rest")) := fun_of T.D_Kind_rest
theorem Txt.B_Kind_rest (T : Txt K mg) : Binds K (fdOf K ("Kind", some "rest")) ["self"] [] := FunD.bindsN T.D_Kind_rest fun _ _ _ _ _ _ us hl => match us, hl with | [_], _ => rfl
theorem Txt.t_Kind_rest (T : Txt K mg) : Meth K (He.ga K "Kind") "rest" (He.ma K (He.ga K "Kind") "rest") := T.t.meth 8
theorem Txt.D_Value___init__ (T : Txt K mg) : FunD K "__init__" "Value.__init__" (defArgs s_Value___init__) (defBody s_Value___init__) (defScope s_Value___init__) [] [] (He.ma K (He.ga K "Value") "__init__") (fdOf K ("Value", some "__init__")) := T.t.funD 14 (d := d_Value___init__)
theorem Txt.k_Value___init__ (T : Txt K mg) : PySem.W.keepIn K (.ref (He.ma K (He.ga K "Value") "__init__")) = true := (T.D_Value___init__).kp
theorem Txt.F_Value___init__ (T : Txt K mg) : Fun K "__init__" "Value.__init__" s_Value___init__ (He.ma K (He.ga K "Value") "__init__") (fdOf K ("Value", some "__init__")) := fun_of T.D_Value___init__
theorem Txt.B_Value___init__ (T : Txt K mg) : Binds K (fdOf K ("Value", some "__init__")) ["self", "kind", "number"] [] := FunD.bindsN T.D_Value___init__ fun _ _ _ _ _ _ us hl => match us, hl with | [_, _, _], _ => rfl
theorem Txt.D_Value___eq__ (T : Txt K mg) : FunD K "__eq__" "Value.__eq__" (defArgs s_Value___eq__) (defBody s_Value___eq__) (defScope s_Value___eq__) [] [] (He.ma K (He.ga K "Value") "__eq__") (fdOf K ("Value", some "__eq__")) := T.t.funD 15 (d := d_Value___eq__)
theorem Txt.k_Value___eq__ (T : Txt K mg) : PySem.W.keepIn K (.ref (He.ma K (He.ga K "Value") "__eq__")) = true := (T.D_Value___eq__).kp
theorem Txt.F_Value___eq__ (T : Txt K mg) : Fun K "__eq__" "Value.__eq__" s_Value___eq__ (He.ma K (He.ga K "Value") "__eq__") (fdOf K ("Value", some "__eq__")) := fun_of T.D_Value___eq__
theorem Txt.B_Value___eq__ (T : Txt K mg) : Binds K (fdOf K ("Value", some "__eq__")) ["self", "other"] [] := FunD.bindsN T.D_Value___eq__ fun _ _ _ _ _ _ us hl => match us, hl with | [_, _], _ => rfl
theorem Txt.t_Value___eq__ (T : Txt K mg) : Meth K (He.ga K "Value") "__eq__" (He.ma K (He.ga K "Value") "__eq__") := T.t.meth 9
theorem Txt.D_Value_number (T : Txt K mg) : FunD K "number" "Value.number" (defArgs s_Value_number) (defBody s_Value_number) (defScope s_Value_number) [] [] (He.ma K (He.ga K "Value") "number") (fdOf K ("Value", some "number")) := T.t.funD 16 (d := d_Value_number)
theorem Txt.k_Value_number (T : Txt K mg) : PySem.W.keepIn K (.ref (He.ma K (He.ga K "Value") "number")) = true := (T.D_Value_number).kp
theorem Txt.F_Value_number (T : Txt K mg) : Fun K "number" "Value.number" s_Value_number (He.ma K (He.ga K "Value") "number") (fdOf K ("Value", some "number")) := fun_of T.D_Value_number
theorem Txt.B_Value_number (T : Txt K mg) : Binds K (fdOf K ("Value", some "number")) ["self"] [] := FunD.bindsN T.D_Value_number fun _ _ _ _ _ _ us hl => match us, hl with | [_], _ => rfl
theorem Txt.t_Value_number (T : Txt K mg) : Meth K (He.ga K "Value") "number" (He.ma K (He.ga K "Value") "number") := T.t.meth 10
theorem Txt.D_without_bits (T : Txt K mg) : FunD K "without_bits" "without_bits" (defArgs s_without_bits) (defBody s_without_bits) (defScope s_without_bits) [] [] (He.ga K "without_bits") (fdOf K ("without_bits", none)) := T.t.funD 17 (d := d_without_bits)
theorem Txt.k_without_bits (T : Txt K mg) : PySem.W.keepIn K (.ref (He.ga K "without_bits")) = true := (T.D_without_bits).kp
theorem Txt.F_without_bits (T : Txt K mg) : Fun K "without_bits" "without_bits" s_without_bits (He.ga K "without_bits") (fdOf K ("without_bits", none)) := fun_of T.D_without_bits
theorem Txt.B_without_bits (T : Txt K mg) : Binds K (fdOf K ("without_bits", none)) ["number", "bits"] [] := FunD.bindsN T.D_without_bits fun _ _ _ _ _ _ us hl => match us, hl with | [_, _], _ => rfl
theorem Txt.m_without_bits (T : Txt K mg) : mg "without_bits" = some (.ref (He.ga K "without_bits")) := T.t.glo 11
theorem Txt.D_made (T : Txt K mg) : FunD K "made" "made" (defArgs s_made) (defBody s_made) (defScope s_made) [] [] (He.ga K "made") (fdOf K ("made", none)) := T.t.funD 18 (d := d_made)
theorem Txt.k_made (T : Txt K mg) : PySem.W.keepIn K (.ref (He.ga K "made")) = true := (T.D_made).kp
theorem Txt.F_made (T : Txt K mg) : Fun K "made" "made" s_made (He.ga K "made") (fdOf K ("made", none)) := fun_of T.D_made
theorem Txt.B_made (T : Txt K mg) : Binds K (fdOf K ("made", none)) ["kind", "number"] [] := FunD.bindsN T.D_made fun _ _ _ _ _ _ us hl => match us, hl with | [_, _], _ => rfl
theorem Txt.m_made (T : Txt K mg) : mg "made" = some (.ref (He.ga K "made")) := T.t.glo 12
theorem Txt.D_number_of (T : Txt K mg) : FunD K "number_of" "number_of" (defArgs s_number_of) (defBody s_number_of) (defScope s_number_of) [] [] (He.ga K "number_of") (fdOf K ("number_of", none)) := T.t.funD 19 (d := d_number_of)
theorem Txt.k_number_of (T : Txt K mg) : PySem.W.keepIn K (.ref (He.ga K "number_of")) = true := (T.D_number_of).kp
theorem Txt.F_number_of (T : Txt K mg) : Fun K "number_of" "number_of" s_number_of (He.ga K "number_of") (fdOf K ("number_of", none)) := fun_of T.D_number_of
theorem Txt.B_number_of (T : Txt K mg) : Binds K (fdOf K ("number_of", none)) ["kind", "names"] [] := FunD.bindsN T.D_number_of fun _ _ _ _ _ _ us hl => match us, hl with | [_, _], _ => rfl
theorem Txt.m_number_of (T : Txt K mg) : mg "number_of" = some (.ref (He.ga K "number_of")) := T.t.glo 13
theorem Txt.D_value_of (T : Txt K mg) : FunD K "value_of" "value_of" (defArgs s_value_of) (defBody s_value_of) (defScope s_value_of) [] [] (He.ga K "value_of") (fdOf K ("value_of", none)) := T.t.funD 20 (d := d_value_of)
theorem Txt.k_value_of (T : Txt K mg) : PySem.W.keepIn K (.ref (He.ga K "value_of")) = true := (T.D_value_of).kp
theorem Txt.F_value_of (T : Txt K mg) : Fun K "value_of" "value_of" s_value_of (He.ga K "value_of") (fdOf K ("value_of", none)) := fun_of T.D_value_of
theorem Txt.B_value_of (T : Txt K mg) : Binds K (fdOf K ("value_of", none)) ["kind", "names"] [] := FunD.bindsN T.D_value_of fun _ _ _ _ _ _ us hl => match us, hl with | [_, _], _ => rfl
theorem Txt.m_value_of (T : Txt K mg) : mg "value_of" = some (.ref (He.ga K "value_of")) := T.t.glo 14
theorem Txt.D__law_drawn (T : Txt K mg) : FunD K "_law_drawn" "_law_drawn" (defArgs s__law_drawn) (defBody s__law_drawn) (defScope s__law_drawn) [] [] (He.ga K "_law_drawn") (fdOf K ("_law_drawn", none)) := T.t.funD 21 (d := d__law_drawn)
theorem Txt.k__law_drawn (T : Txt K mg) : PySem.W.keepIn K (.ref (He.ga K "_law_drawn")) = true := (T.D__law_drawn).kp
theorem Txt.F__law_drawn (T : Txt K mg) : Fun K "_law_drawn" "_law_drawn" s__law_drawn (He.ga K "_law_drawn") (fdOf K ("_law_drawn", none)) := fun_of T.D__law_drawn
theorem Txt.B__law_drawn (T : Txt K mg) : Binds K (fdOf K ("_law_drawn", none)) ["_law_cell_here", "_law_k"] [] := FunD.bindsN T.D__law_drawn fun _ _ _ _ _ _ us hl => match us, hl with | [_, _], _ => rfl
theorem Txt.m__law_drawn (T : Txt K mg) : mg "_law_drawn" = some (.ref (He.ga K "_law_drawn")) := T.t.glo 15
theorem Txt.D__law_roll (T : Txt K mg) : FunD K "_law_roll" "_law_roll" (defArgs s__law_roll) (defBody s__law_roll) (defScope s__law_roll) [] [] (He.ga K "_law_roll") (fdOf K ("_law_roll", none)) := T.t.funD 22 (d := d__law_roll)
theorem Txt.k__law_roll (T : Txt K mg) : PySem.W.keepIn K (.ref (He.ga K "_law_roll")) = true := (T.D__law_roll).kp
theorem Txt.F__law_roll (T : Txt K mg) : Fun K "_law_roll" "_law_roll" s__law_roll (He.ga K "_law_roll") (fdOf K ("_law_roll", none)) := fun_of T.D__law_roll
theorem Txt.B__law_roll (T : Txt K mg) : Binds K (fdOf K ("_law_roll", none)) ["_law_dice", "_law_many"] [] := FunD.bindsN T.D__law_roll fun _ _ _ _ _ _ us hl => match us, hl with | [_, _], _ => rfl
theorem Txt.m__law_roll (T : Txt K mg) : mg "_law_roll" = some (.ref (He.ga K "_law_roll")) := T.t.glo 16
theorem Txt.D__law_cell (T : Txt K mg) : FunD K "_law_cell" "_law_cell" (defArgs s__law_cell) (defBody s__law_cell) (defScope s__law_cell) [] [] (He.ga K "_law_cell") (fdOf K ("_law_cell", none)) := T.t.funD 23 (d := d__law_cell)
theorem Txt.k__law_cell (T : Txt K mg) : PySem.W.keepIn K (.ref (He.ga K "_law_cell")) = true := (T.D__law_cell).kp
theorem Txt.F__law_cell (T : Txt K mg) : Fun K "_law_cell" "_law_cell" s__law_cell (He.ga K "_law_cell") (fdOf K ("_law_cell", none)) := fun_of T.D__law_cell
theorem Txt.B__law_cell (T : Txt K mg) : Binds K (fdOf K ("_law_cell", none)) ["_law_script", "_law_k"] [] := FunD.bindsN T.D__law_cell fun _ _ _ _ _ _ us hl => match us, hl with | [_, _], _ => rfl
theorem Txt.m__law_cell (T : Txt K mg) : mg "_law_cell" = some (.ref (He.ga K "_law_cell")) := T.t.glo 17
theorem Txt.D__law_rounds (T : Txt K mg) : FunD K "_law_rounds" "_law_rounds" (defArgs s__law_rounds) (defBody s__law_rounds) (defScope s__law_rounds) [] [] (He.ga K "_law_rounds") (fdOf K ("_law_rounds", none)) := T.t.funD 24 (d := d__law_rounds)
theorem Txt.k__law_rounds (T : Txt K mg) : PySem.W.keepIn K (.ref (He.ga K "_law_rounds")) = true := (T.D__law_rounds).kp
theorem Txt.F__law_rounds (T : Txt K mg) : Fun K "_law_rounds" "_law_rounds" s__law_rounds (He.ga K "_law_rounds") (fdOf K ("_law_rounds", none)) := fun_of T.D__law_rounds
theorem Txt.B__law_rounds (T : Txt K mg) : Binds K (fdOf K ("_law_rounds", none)) ["_law_script", "_law_most"] [] := FunD.bindsN T.D__law_rounds fun _ _ _ _ _ _ us hl => match us, hl with | [_, _], _ => rfl
theorem Txt.m__law_rounds (T : Txt K mg) : mg "_law_rounds" = some (.ref (He.ga K "_law_rounds")) := T.t.glo 18
theorem Txt.D__law_word (T : Txt K mg) : FunD K "_law_word" "_law_word" (defArgs s__law_word) (defBody s__law_word) (defScope s__law_word) [] [] (He.ga K "_law_word") (fdOf K ("_law_word", none)) := T.t.funD 25 (d := d__law_word)
theorem Txt.k__law_word (T : Txt K mg) : PySem.W.keepIn K (.ref (He.ga K "_law_word")) = true := (T.D__law_word).kp
theorem Txt.F__law_word (T : Txt K mg) : Fun K "_law_word" "_law_word" s__law_word (He.ga K "_law_word") (fdOf K ("_law_word", none)) := fun_of T.D__law_word
theorem Txt.B__law_word (T : Txt K mg) : Binds K (fdOf K ("_law_word", none)) ["_law_e"] [] := FunD.bindsN T.D__law_word fun _ _ _ _ _ _ us hl => match us, hl with | [_], _ => rfl
theorem Txt.m__law_word (T : Txt K mg) : mg "_law_word" = some (.ref (He.ga K "_law_word")) := T.t.glo 19
theorem Txt.D__law_told (T : Txt K mg) : FunD K "_law_told" "_law_told" (defArgs s__law_told) (defBody s__law_told) (defScope s__law_told) [] [] (He.ga K "_law_told") (fdOf K ("_law_told", none)) := T.t.funD 26 (d := d__law_told)
theorem Txt.k__law_told (T : Txt K mg) : PySem.W.keepIn K (.ref (He.ga K "_law_told")) = true := (T.D__law_told).kp
theorem Txt.F__law_told (T : Txt K mg) : Fun K "_law_told" "_law_told" s__law_told (He.ga K "_law_told") (fdOf K ("_law_told", none)) := fun_of T.D__law_told
theorem Txt.B__law_told (T : Txt K mg) : Binds K (fdOf K ("_law_told", none)) ["_law_deed"] [] := FunD.bindsN T.D__law_told fun _ _ _ _ _ _ us hl => match us, hl with | [_], _ => rfl
theorem Txt.m__law_told (T : Txt K mg) : mg "_law_told" = some (.ref (He.ga K "_law_told")) := T.t.glo 20
theorem Txt.D__law_lines (T : Txt K mg) : FunD K "_law_lines" "_law_lines" (defArgs s__law_lines) (defBody s__law_lines) (defScope s__law_lines) [] [] (He.ga K "_law_lines") (fdOf K ("_law_lines", none)) := T.t.funD 27 (d := d__law_lines)
theorem Txt.k__law_lines (T : Txt K mg) : PySem.W.keepIn K (.ref (He.ga K "_law_lines")) = true := (T.D__law_lines).kp
theorem Txt.F__law_lines (T : Txt K mg) : Fun K "_law_lines" "_law_lines" s__law_lines (He.ga K "_law_lines") (fdOf K ("_law_lines", none)) := fun_of T.D__law_lines
theorem Txt.B__law_lines (T : Txt K mg) : Binds K (fdOf K ("_law_lines", none)) ["_law_dice", "_law_most"] [] := FunD.bindsN T.D__law_lines fun _ _ _ _ _ _ us hl => match us, hl with | [_, _], _ => rfl
theorem Txt.m__law_lines (T : Txt K mg) : mg "_law_lines" = some (.ref (He.ga K "_law_lines")) := T.t.glo 21
theorem Txt.D__law_bits_of (T : Txt K mg) : FunD K "_law_bits_of" "_law_bits_of" (defArgs s__law_bits_of) (defBody s__law_bits_of) (defScope s__law_bits_of) [] [] (He.ga K "_law_bits_of") (fdOf K ("_law_bits_of", none)) := T.t.funD 28 (d := d__law_bits_of)
theorem Txt.k__law_bits_of (T : Txt K mg) : PySem.W.keepIn K (.ref (He.ga K "_law_bits_of")) = true := (T.D__law_bits_of).kp
theorem Txt.F__law_bits_of (T : Txt K mg) : Fun K "_law_bits_of" "_law_bits_of" s__law_bits_of (He.ga K "_law_bits_of") (fdOf K ("_law_bits_of", none)) := fun_of T.D__law_bits_of
theorem Txt.B__law_bits_of (T : Txt K mg) : Binds K (fdOf K ("_law_bits_of", none)) ["_law_number"] [] := FunD.bindsN T.D__law_bits_of fun _ _ _ _ _ _ us hl => match us, hl with | [_], _ => rfl
theorem Txt.m__law_bits_of (T : Txt K mg) : mg "_law_bits_of" = some (.ref (He.ga K "_law_bits_of")) := T.t.glo 22
theorem Txt.D__law_table_of (T : Txt K mg) : FunD K "_law_table_of" "_law_table_of" (defArgs s__law_table_of) (defBody s__law_table_of) (defScope s__law_table_of) [] [] (He.ga K "_law_table_of") (fdOf K ("_law_table_of", none)) := T.t.funD 29 (d := d__law_table_of)
theorem Txt.k__law_table_of (T : Txt K mg) : PySem.W.keepIn K (.ref (He.ga K "_law_table_of")) = true := (T.D__law_table_of).kp
theorem Txt.F__law_table_of (T : Txt K mg) : Fun K "_law_table_of" "_law_table_of" s__law_table_of (He.ga K "_law_table_of") (fdOf K ("_law_table_of", none)) := fun_of T.D__law_table_of
theorem Txt.B__law_table_of (T : Txt K mg) : Binds K (fdOf K ("_law_table_of", none)) ["_law_due"] [] := FunD.bindsN T.D__law_table_of fun _ _ _ _ _ _ us hl => match us, hl with | [_], _ => rfl
theorem Txt.m__law_table_of (T : Txt K mg) : mg "_law_table_of" = some (.ref (He.ga K "_law_table_of")) := T.t.glo 23
theorem Txt.D_law (T : Txt K mg) : FunD K "law" "law" (defArgs s_law) (defBody s_law) (defScope s_law) [] [] (He.ga K "law") (fdOf K ("law", none)) := T.t.funD 30 (d := d_law)
theorem Txt.k_law (T : Txt K mg) : PySem.W.keepIn K (.ref (He.ga K "law")) = true := (T.D_law).kp
theorem Txt.F_law (T : Txt K mg) : Fun K "law" "law" s_law (He.ga K "law") (fdOf K ("law", none)) := fun_of T.D_law
theorem Txt.B_law (T : Txt K mg) : Binds K (fdOf K ("law", none)) ["_law_script"] [] := FunD.bindsN T.D_law fun _ _ _ _ _ _ us hl => match us, hl with | [_], _ => rfl
theorem Txt.m_law (T : Txt K mg) : mg "law" = some (.ref (He.ga K "law")) := T.t.glo 24
theorem Txt.m_Kind (T : Txt K mg) : mg "Kind" = some (.ref (He.ga K "Kind")) := T.t.glo 25
theorem Txt.c_Kind (T : Txt K mg) : Cls K (He.ga K "Kind") := T.t.cls 26
theorem Txt.M_Kind (T : Txt K mg) : Mk K (He.ga K "Kind") (He.ma K (He.ga K "Kind") "__init__") := T.t.mkr 27
theorem Txt.n_Kind_lines (T : Txt K mg) : NoAttr K (He.ga K "Kind") "lines" := T.t.noat 28
theorem Txt.n_Kind_rule (T : Txt K mg) : NoAttr K (He.ga K "Kind") "rule" := T.t.noat 29
theorem Txt.n_Kind_table (T : Txt K mg) : NoAttr K (He.ga K "Kind") "table" := T.t.noat 30
theorem Txt.n_Kind_firsts (T : Txt K mg) : NoAttr K (He.ga K "Kind") "firsts" := T.t.noat 31
theorem Txt.n_Kind_all_bits (T : Txt K mg) : NoAttr K (He.ga K "Kind") "all_bits" := T.t.noat 32
theorem Txt.m_Value (T : Txt K mg) : mg "Value" = some (.ref (He.ga K "Value")) := T.t.glo 33
theorem Txt.c_Value (T : Txt K mg) : Cls K (He.ga K "Value") := T.t.cls 34
theorem Txt.M_Value (T : Txt K mg) : Mk K (He.ga K "Value") (He.ma K (He.ga K "Value") "__init__") := T.t.mkr 35
theorem Txt.n_Value_own (T : Txt K mg) : NoAttr K (He.ga K "Value") "own" := T.t.noat 36
theorem Txt.n_Value_own_bits (T : Txt K mg) : NoAttr K (He.ga K "Value") "own_bits" := T.t.noat 37
theorem Txt.m_MarkError (T : Txt K mg) : mg "MarkError" = some (.ref (He.ga K "MarkError")) := T.t.glo 38
theorem Txt.m_BadRows (T : Txt K mg) : mg "BadRows" = some (.ref (He.ga K "BadRows")) := T.t.glo 39
theorem Txt.m_BadRest (T : Txt K mg) : mg "BadRest" = some (.ref (He.ga K "BadRest")) := T.t.glo 40
theorem Txt.m_BadText (T : Txt K mg) : mg "BadText" = some (.ref (He.ga K "BadText")) := T.t.glo 41
theorem Txt.m_Unled (T : Txt K mg) : mg "Unled" = some (.ref (He.ga K "Unled")) := T.t.glo 42
theorem Txt.m_BadRule (T : Txt K mg) : mg "BadRule" = some (.ref (He.ga K "BadRule")) := T.t.glo 43
theorem Txt.m_BadName (T : Txt K mg) : mg "BadName" = some (.ref (He.ga K "BadName")) := T.t.glo 44
theorem Txt.m_BadNumber (T : Txt K mg) : mg "BadNumber" = some (.ref (He.ga K "BadNumber")) := T.t.glo 45
theorem Txt.m_Unlike (T : Txt K mg) : mg "Unlike" = some (.ref (He.ga K "Unlike")) := T.t.glo 46
theorem Txt.m_BadPairs (T : Txt K mg) : mg "BadPairs" = some (.ref (He.ga K "BadPairs")) := T.t.glo 47
theorem Txt.m_Never (T : Txt K mg) : mg "Never" = some (.ref (He.ga K "Never")) := T.t.glo 48
theorem Txt.m_Nothing (T : Txt K mg) : mg "Nothing" = some (.ref (He.ga K "Nothing")) := T.t.glo 49
theorem Txt.tc (T : Txt K mg) : ToldC K := toldB_ok T.e0
theorem Txt.clok (T : Txt K mg) : ClOk K (cl K) := ⟨rfl⟩
theorem Txt.x_BadRows (T : Txt K mg) : fieldB K (He.ga K "BadRows") (He.ma K (He.ga K "BadRows") "__init__") "at" = true := T.e1
theorem Txt.x_BadRest (T : Txt K mg) : fieldB K (He.ga K "BadRest") (He.ma K (He.ga K "BadRest") "__init__") "bits" = true := T.e2
theorem Txt.x_BadText (T : Txt K mg) : fieldB K (He.ga K "BadText") (He.ma K (He.ga K "BadText") "__init__") "at" = true := T.e3
theorem Txt.x_Unled (T : Txt K mg) : fieldB K (He.ga K "Unled") (He.ma K (He.ga K "Unled") "__init__") "name" = true := T.e4
theorem Txt.X_BadRule (T : Txt K mg) : ExcP K mg "BadRule" (He.ga K "BadRule") := excP_of (T.t.glo 43) (T.t.c.fact 50 rfl)
theorem Txt.X_BadName (T : Txt K mg) : ExcP K mg "BadName" (He.ga K "BadName") := excP_of (T.t.glo 44) (T.t.c.fact 51 rfl)
theorem Txt.X_BadNumber (T : Txt K mg) : ExcP K mg "BadNumber" (He.ga K "BadNumber") := excP_of (T.t.glo 45) (T.t.c.fact 52 rfl)
theorem Txt.X_Unlike (T : Txt K mg) : ExcP K mg "Unlike" (He.ga K "Unlike") := excP_of (T.t.glo 46) (T.t.c.fact 53 rfl)
theorem Txt.X_BadPairs (T : Txt K mg) : ExcP K mg "BadPairs" (He.ga K "BadPairs") := excP_of (T.t.glo 47) (T.t.c.fact 54 rfl)
theorem Txt.X_Never (T : Txt K mg) : ExcP K mg "Never" (He.ga K "Never") := excP_of (T.t.glo 48) (T.t.c.fact 55 rfl)
theorem Txt.X_Nothing (T : Txt K mg) : ExcP K mg "Nothing" (He.ga K "Nothing") := excP_of (T.t.glo 49) (T.t.c.fact 56 rfl)
theorem Txt.xbase (T : Txt K mg) : BaseInit K mg "MarkError" (He.ga K "MarkError") := baseB_ok T.m_MarkError T.e5
theorem Txt.i_Kind (T : Txt K mg) : IsC K (He.ga K "Kind") := isCB_ok T.c_Kind T.e6
theorem Txt.q_Kind (T : Txt K mg) : EqCls K (He.ga K "Kind") (He.ma K (He.ga K "Kind") "__eq__") := eqCls_ok T.t_Kind___eq__ T.i_Kind T.e7
theorem Txt.i_Value (T : Txt K mg) : IsC K (He.ga K "Value") := isCB_ok T.c_Value T.e8
theorem Txt.q_Value (T : Txt K mg) : EqCls K (He.ga K "Value") (He.ma K (He.ga K "Value") "__eq__") := eqCls_ok T.t_Value___eq__ T.i_Value T.e9
theorem Txt.g_CAPITAL (T : Txt K mg) : GConst K mg "CAPITAL" c_CAPITAL := T.t.gstr 57
theorem Txt.g_MOST_ROWS (T : Txt K mg) : GConst K mg "MOST_ROWS" c_MOST_ROWS := T.t.gint 58
theorem Txt.g_GREATEST (T : Txt K mg) : GConst K mg "GREATEST" c_GREATEST := T.t.gint 59
theorem Txt.g_RULES (T : Txt K mg) : GConst K mg "RULES" c_RULES := T.t.gtup 60 (ss := ["bar", "drop", "keep", "leave"]) rfl (T.ex_RULES) (by decide)
theorem Txt.g_FARTHEST (T : Txt K mg) : GConst K mg "FARTHEST" c_FARTHEST := T.t.gint 61
theorem Txt.b_len (T : Txt K mg) : mg "len" = none := T.t.free 62
theorem Txt.b_all (T : Txt K mg) : mg "all" = none := T.t.free 63
theorem Txt.b_any (T : Txt K mg) : mg "any" = none := T.t.free 64
theorem Txt.b_sum (T : Txt K mg) : mg "sum" = none := T.t.free 65
theorem Txt.b_list (T : Txt K mg) : mg "list" = none := T.t.free 66
theorem Txt.b_tuple (T : Txt K mg) : mg "tuple" = none := T.t.free 67
theorem Txt.b_dict (T : Txt K mg) : mg "dict" = none := T.t.free 68
theorem Txt.b_isinstance (T : Txt K mg) : mg "isinstance" = none := T.t.free 69
theorem Txt.b_sorted (T : Txt K mg) : mg "sorted" = none := T.t.free 70
theorem Txt.b_max (T : Txt K mg) : mg "max" = none := T.t.free 71
theorem Txt.b_min (T : Txt K mg) : mg "min" = none := T.t.free 72
theorem Txt.b_range (T : Txt K mg) : mg "range" = none := T.t.free 73
theorem Txt.b_enumerate (T : Txt K mg) : mg "enumerate" = none := T.t.free 74
theorem Txt.b_int (T : Txt K mg) : mg "int" = none := T.t.free 75
theorem Txt.b_str (T : Txt K mg) : mg "str" = none := T.t.free 76
theorem Txt.b_set (T : Txt K mg) : mg "set" = none := T.t.free 77
theorem Txt.b_bool (T : Txt K mg) : mg "bool" = none := T.t.free 78
theorem Txt.b_ValueError (T : Txt K mg) : mg "ValueError" = none := T.t.free 79
theorem Txt.DB_Kind (T : Txt K mg) : ∃ ds, Vals [V.str "bar"] ds ∧ Binds K (fdOf K ("Kind", some "__init__")) ["self", "rows", "rest"] ds := FunD.binds0 T.D_Kind___init__ 2 (by decide) rfl fun D doc pm an cdv ct us ks h1 h2 => match us, ks, h1, h2 with | [_, _], [_], _, _ => ⟨_, _, _, _, _, _, rfl, rfl, rfl⟩
theorem Txt.KB_Kind (T : Txt K mg) : ∃ mv : List Value, KBn K (fdOf K ("Kind", some "__init__")) ["self", "rows", "rest"] 2 ["rest"] (fun us ws => us ++ ws) (fun vs zs => vs ++ zs) := FunD.kbinds0 T.D_Kind___init__ 2 ["rest"] [] (fun vs mz zs => vs ++ zs) (by decide) (fun _ h => nomatch h) (fun a b c => a.append c) fun D doc pm an cdv ct us mv ws h1 h2 h3 => match us, mv, ws, h1, h2, h3 with | [_, _], [], [_], _, _, _ => rfl
end
end DL

namespace DL
open PySem PySem.Spec L2

section
variable {P : Program} {w : World} {K : PySem.W.Frag} {mg : Str → Option Value} {base : Heap}
theorem sc_BadRows___init__ : FnScope ["self", "at"] ["self", "at"] (defScope s_BadRows___init__) := ⟨rfl, rfl, rfl, by decide +kernel, rfl, by decide +kernel, by decide +kernel⟩
theorem ox_BadRows (T : Txt K mg) : ExcFd P w K mg base "BadRows" (He.ga K "BadRows") (He.ma K (He.ga K "BadRows") "__init__") (fdOf K ("BadRows", some "__init__")) ["self", "at"] "at" := by
  have ⟨h1, h⟩ := He.ba T.x_BadRows
  have ⟨h2, h⟩ := He.ba h
  have ⟨h3, h4⟩ := He.ba h
  exact ⟨oexB_ok h1, He.eqO_ok h3, of_decide_eq_true h4, excinit_ok (args := defArgs s_BadRows___init__) (sc := defScope s_BadRows___init__) (p1 := ⟨0, 0, 0, 0⟩) (p2 := ⟨0, 0, 0, 0⟩) (p3 := ⟨0, 0, 0, 0⟩) (p4 := ⟨0, 0, 0, 0⟩) (p5 := ⟨0, 0, 0, 0⟩) (p6 := ⟨0, 0, 0, 0⟩) (p7 := ⟨0, 0, 0, 0⟩) (p8 := ⟨0, 0, 0, 0⟩) (p9 := ⟨0, 0, 0, 0⟩) (p10 := ⟨0, 0, 0, 0⟩) (j := 0) T.F_BadRows___init__ sc_BadRows___init__ (oexB_ok h1) (He.eqO_ok h2) T.xbase
    (fun cdv A outer s H E => ⟨_, pss_cons (ps_expr (pe_baseinit (by rfl) T.xbase (pa_cons (pv 0) (pa_cons pe_str pa_nil)))) (pss_one (ps_ost (pv 0) (pv 1))), rfl⟩), T.B_BadRows___init__, T.m_BadRows⟩


theorem sc_BadRest___init__ : FnScope ["self", "bits"] ["self", "bits"] (defScope s_BadRest___init__) := ⟨rfl, rfl, rfl, by decide +kernel, rfl, by decide +kernel, by decide +kernel⟩
theorem ox_BadRest (T : Txt K mg) : ExcFd P w K mg base "BadRest" (He.ga K "BadRest") (He.ma K (He.ga K "BadRest") "__init__") (fdOf K ("BadRest", some "__init__")) ["self", "bits"] "bits" := by
  have ⟨h1, h⟩ := He.ba T.x_BadRest
  have ⟨h2, h⟩ := He.ba h
  have ⟨h3, h4⟩ := He.ba h
  exact ⟨oexB_ok h1, He.eqO_ok h3, of_decide_eq_true h4, excinit_ok (args := defArgs s_BadRest___init__) (sc := defScope s_BadRest___init__) (p1 := ⟨0, 0, 0, 0⟩) (p2 := ⟨0, 0, 0, 0⟩) (p3 := ⟨0, 0, 0, 0⟩) (p4 := ⟨0, 0, 0, 0⟩) (p5 := ⟨0, 0, 0, 0⟩) (p6 := ⟨0, 0, 0, 0⟩) (p7 := ⟨0, 0, 0, 0⟩) (p8 := ⟨0, 0, 0, 0⟩) (p9 := ⟨0, 0, 0, 0⟩) (p10 := ⟨0, 0, 0, 0⟩) (j := 0) T.F_BadRest___init__ sc_BadRest___init__ (oexB_ok h1) (He.eqO_ok h2) T.xbase
    (fun cdv A outer s H E => ⟨_, pss_cons (ps_expr (pe_baseinit (by rfl) T.xbase (pa_cons (pv 0) (pa_cons pe_str pa_nil)))) (pss_one (ps_ost (pv 0) (pv 1))), rfl⟩), T.B_BadRest___init__, T.m_BadRest⟩


theorem sc_BadText___init__ : FnScope ["self", "at"] ["self", "at"] (defScope s_BadText___init__) := ⟨rfl, rfl, rfl, by decide +kernel, rfl, by decide +kernel, by decide +kernel⟩
theorem ox_BadText (T : Txt K mg) : ExcFd P w K mg base "BadText" (He.ga K "BadText") (He.ma K (He.ga K "BadText") "__init__") (fdOf K ("BadText", some "__init__")) ["self", "at"] "at" := by
  have ⟨h1, h⟩ := He.ba T.x_BadText
  have ⟨h2, h⟩ := He.ba h
  have ⟨h3, h4⟩ := He.ba h
  exact ⟨oexB_ok h1, He.eqO_ok h3, of_decide_eq_true h4, excinit_ok (args := defArgs s_BadText___init__) (sc := defScope s_BadText___init__) (p1 := ⟨0, 0, 0, 0⟩) (p2 := ⟨0, 0, 0, 0⟩) (p3 := ⟨0, 0, 0, 0⟩) (p4 := ⟨0, 0, 0, 0⟩) (p5 := ⟨0, 0, 0, 0⟩) (p6 := ⟨0, 0, 0, 0⟩) (p7 := ⟨0, 0, 0, 0⟩) (p8 := ⟨0, 0, 0, 0⟩) (p9 := ⟨0, 0, 0, 0⟩) (p10 := ⟨0, 0, 0, 0⟩) (j := 0) T.F_BadText___init__ sc_BadText___init__ (oexB_ok h1) (He.eqO_ok h2) T.xbase
    (fun cdv A outer s H E => ⟨_, pss_cons (ps_expr (pe_baseinit (by rfl) T.xbase (pa_cons (pv 0) (pa_cons pe_str pa_nil)))) (pss_one (ps_ost (pv 0) (pv 1))), rfl⟩), T.B_BadText___init__, T.m_BadText⟩


theorem sc_Unled___init__ : FnScope ["self", "name"] ["self", "name"] (defScope s_Unled___init__) := ⟨rfl, rfl, rfl, by decide +kernel, rfl, by decide +kernel, by decide +kernel⟩
theorem ox_Unled (T : Txt K mg) : ExcFd P w K mg base "Unled" (He.ga K "Unled") (He.ma K (He.ga K "Unled") "__init__") (fdOf K ("Unled", some "__init__")) ["self", "name"] "name" := by
  have ⟨h1, h⟩ := He.ba T.x_Unled
  have ⟨h2, h⟩ := He.ba h
  have ⟨h3, h4⟩ := He.ba h
  exact ⟨oexB_ok h1, He.eqO_ok h3, of_decide_eq_true h4, excinit_ok (args := defArgs s_Unled___init__) (sc := defScope s_Unled___init__) (p1 := ⟨0, 0, 0, 0⟩) (p2 := ⟨0, 0, 0, 0⟩) (p3 := ⟨0, 0, 0, 0⟩) (p4 := ⟨0, 0, 0, 0⟩) (p5 := ⟨0, 0, 0, 0⟩) (p6 := ⟨0, 0, 0, 0⟩) (p7 := ⟨0, 0, 0, 0⟩) (p8 := ⟨0, 0, 0, 0⟩) (p9 := ⟨0, 0, 0, 0⟩) (p10 := ⟨0, 0, 0, 0⟩) (j := 0) T.F_Unled___init__ sc_Unled___init__ (oexB_ok h1) (He.eqO_ok h2) T.xbase
    (fun cdv A outer s H E => ⟨_, pss_cons (ps_expr (pe_baseinit (by rfl) T.xbase (pa_cons (pv 0) (pa_cons pe_str pa_nil)))) (pss_one (ps_ost (pv 0) (pv 1))), rfl⟩), T.B_Unled___init__, T.m_Unled⟩


theorem sc_is_word : FnScope ["thing", "signs", "most", "sign"] ["thing", "signs", "most"] (defScope s_is_word) := ⟨rfl, rfl, rfl, by decide +kernel, rfl, by decide +kernel, by decide +kernel⟩
theorem ok_is_word (T : Txt K mg) : FnOk P w K mg base (L2N.CX P w) 1 (He.ga K "is_word") (fdOf K ("is_word", none)) ["thing", "signs", "most"] (spD vol0 K 3 (m_is_word (cl K))) :=
  fn_ok T.F_is_word sc_is_word (fun _ _ _ _ _ _ _ g0 cx => (dss_one (ds_ret g0 (dv_and (df_isi ((df_var 0 (pv 0))).toB (by decide +kernel) (by rfl) T.b_isinstance (by rfl) T.b_str) (dv_and (df_lele (df_int).toB ((df_len (ab_cons ((df_var 0 (pv 0))).toB ab_nil) (by rfl) T.b_len)).toB ((df_var 2 (pv 2))).toB) (dv_one (df_all (ab_cons ((dn_lc (own := [("sign", 3)]) cx (ie_str ((df_var 0 (pv 0))).toB) (by first | decide +kernel | kernel_rfl) (fun _ _ _ _ _ cx => (dg_name (pg_name cx.nd rfl (by first | exact Or.inl rfl | exact Or.inr rfl)) (by decide))) (fun _ _ _ _ _ cx => dts_nil) (fun _ _ _ _ _ cx => (df_inS ((df_var 3 (pv 3))).toB ((df_var 1 (pv 1))).toB rfl)))).toB ab_nil) cx (by rfl) T.b_all)))))))

theorem sc_is_number : FnScope ["thing", "low", "high"] ["thing", "low", "high"] (defScope s_is_number) := ⟨rfl, rfl, rfl, by decide +kernel, rfl, by decide +kernel, by decide +kernel⟩
theorem ok_is_number (T : Txt K mg) : FnOk P w K mg base (L2N.CX P w) 1 (He.ga K "is_number") (fdOf K ("is_number", none)) ["thing", "low", "high"] (spD vol0 K 3 (m_is_number (cl K))) :=
  fn_ok T.F_is_number sc_is_number (fun _ _ _ _ _ _ _ g0 cx => (dss_one (ds_ret g0 (dv_and (df_isi ((df_var 0 (pv 0))).toB (by decide +kernel) (by rfl) T.b_isinstance (by rfl) T.b_int) (dv_and (dv_not (df_isi ((df_var 0 (pv 0))).toB (by decide +kernel) (by rfl) T.b_isinstance (by rfl) T.b_bool)) (dv_one (df_lele ((df_var 1 (pv 1))).toB ((df_var 0 (pv 0))).toB ((df_var 2 (pv 2))).toB)))))))

theorem sc_next_bit : FnScope ["rows", "found", "name", "number"] ["rows"] (defScope s_next_bit) := ⟨rfl, rfl, rfl, by decide +kernel, rfl, by decide +kernel, by decide +kernel⟩
theorem ok_next_bit (T : Txt K mg) : FnOk P w K mg base (L2N.CX P w) 1 (He.ga K "next_bit") (fdOf K ("next_bit", none)) ["rows"] (spD vol0 K 1 (m_next_bit (cl K))) :=
  fn_ok T.F_next_bit sc_next_bit (fun _ _ _ _ _ _ _ g0 cx => (dss_cons (ds_set 1 g0 cx rfl (by first | exact Or.inl rfl | exact Or.inr rfl) df_int) (dss_cons (ds_while g0 cx (dt_val ((df_any (ab_cons ((dn_lc (own := [("name", 2), ("number", 3)]) cx (ie_seq ((df_var 0 (pv 0))).toB) (by first | decide +kernel | kernel_rfl) (fun _ _ _ _ _ cx => (dg_tup cx.calm (dgs_cons (dg_name (pg_name cx.nd rfl (by first | exact Or.inl rfl | exact Or.inr rfl)) (by decide)) (dgs_cons (dg_name (pg_name cx.nd rfl (by first | exact Or.inl rfl | exact Or.inr rfl)) (by decide)) dgs_nil)))) (fun _ _ _ _ _ cx => dts_nil) (fun _ _ _ _ _ cx => (df_ge ((df_var 3 (pv 3))).toB ((df_var 1 (pv 1))).toB)))).toB ab_nil) cx (by rfl) T.b_any)).toB) (dss_one (ds_set 1 g0 cx rfl (by first | exact Or.inl rfl | exact Or.inr rfl) (df_mul ((df_var 1 (pv 1))).toB (df_int).toB)))) (dss_one (ds_ret g0 (df_var 1 (pv 1)))))))

theorem sc_number_by : FnScope ["thing", "rows", "found", "table", "name"] ["thing", "rows"] (defScope s_number_by) := ⟨rfl, rfl, rfl, by decide +kernel, rfl, by decide +kernel, by decide +kernel⟩
theorem ok_number_by (T : Txt K mg) : FnOk P w K mg base (L2N.CX P w) 2 (He.ga K "number_by") (fdOf K ("number_by", none)) ["thing", "rows"] (spD vol0 K 2 (m_number_by (cl K))) :=
  fn_ok T.F_number_by sc_number_by (fun _ _ _ _ _ _ _ g0 cx => (dss_cons (ds_if g0 (dt_isN ((df_var 0 (pv 0))).toB (df_non).toB) (dss_cons (ds_set 2 g0 cx rfl (by first | exact Or.inl rfl | exact Or.inr rfl) (df_call (ok_next_bit T) (VLe.zero _) (cx.mono (by decide)) (by rfl) T.m_next_bit T.k_next_bit T.B_next_bit (af_cons (df_var 1 (pv 1)) af_nil))) (dss_one (ds_ret g0 (df_ifExp (dt_le ((df_var 2 (pv 2))).toB ((df_glob T.g_GREATEST (by rfl))).toB) (df_var 2 (pv 2)) (df_neg (df_int).toB))))) dss_nil) (dss_cons (ds_if g0 (dt_val ((df_isi ((df_var 0 (pv 0))).toB (by decide +kernel) (by rfl) T.b_isinstance (by rfl) T.b_tuple)).toB) (dss_cons (ds_set 3 g0 cx rfl (by first | exact Or.inl rfl | exact Or.inr rfl) (dn_dict cx (by rfl) T.b_dict (ab_cons ((df_var 1 (pv 1))).toB ab_nil)).toF) (dss_cons (ds_if g0 ((dw_or (dt_eq ((df_var 0 (pv 0))).toB ((df_tup af_nil)).toB cx.room) (dw_or1 (dt_not (dt_val ((df_all (ab_cons ((dn_lc (own := [("name", 4)]) cx (ie_seq ((df_var 0 (pv 0))).toB) (by first | decide +kernel | kernel_rfl) (fun _ _ _ _ _ cx => (dg_name (pg_name cx.nd rfl (by first | exact Or.inl rfl | exact Or.inr rfl)) (by decide))) (fun _ _ _ _ _ cx => dts_nil) (fun _ _ _ _ _ cx => (dv_and (df_isi ((df_var 4 (pv 4))).toB (by decide +kernel) (by rfl) T.b_isinstance (by rfl) T.b_str) (dv_one (df_inDct cx.room ((df_var 4 (pv 4))).toB ((df_var 3 (pv 3))).toB rfl)))))).toB ab_nil) cx (by rfl) T.b_all)).toB))))).t (dss_one (ds_ret g0 (df_neg (df_int).toB))) dss_nil) (dss_cons (ds_set 2 g0 cx rfl (by first | exact Or.inl rfl | exact Or.inr rfl) df_int) (dss_cons (ds_for g0 cx (is_seq (df_var 0 (pv 0))) (fun _ _ => (tg_name (pg_name cx.nd rfl (by first | exact Or.inl rfl | exact Or.inr rfl)))) (fun _ _ g0 => (dss_one (ds_set 2 g0 cx rfl (by first | exact Or.inl rfl | exact Or.inr rfl) (df_or ((df_var 2 (pv 2))).toB ((df_dget cx.room ((df_var 3 (pv 3))).toB ((df_var 4 (pv 4))).toB (fun _ _ => rfl))).toB))))) (dss_one (ds_ret g0 (df_var 2 (pv 2)))))))) dss_nil) (dss_one (ds_ret g0 (df_ifExp (dt_val ((df_call (ok_is_number T) (VLe.zero _) (cx.mono (by decide)) (by rfl) T.m_is_number T.k_is_number T.B_is_number (af_cons (df_var 0 (pv 0)) (af_cons df_int (af_cons (df_glob T.g_GREATEST (by rfl)) af_nil))))).toB) (df_var 0 (pv 0)) (df_neg (df_int).toB)))))))

theorem sc_read_rows : FnScope ["rows", "found", "at", "row", "number", "name"] ["rows"] (defScope s_read_rows) := ⟨rfl, rfl, rfl, by decide +kernel, rfl, by decide +kernel, by decide +kernel⟩
theorem ok_read_rows (T : Txt K mg) : FnOk P w K mg base (L2N.CX P w) 3 (He.ga K "read_rows") (fdOf K ("read_rows", none)) ["rows"] (spD vol0 K 1 (m_read_rows (cl K))) :=
  fn_ok T.F_read_rows sc_read_rows (fun _ _ _ _ _ _ _ g0 cx => (dss_cons (ds_if g0 ((dw_or (dt_not (dt_val ((df_isi ((df_var 0 (pv 0))).toB (by decide +kernel) (by rfl) T.b_isinstance (by rfl) T.b_list)).toB)) (dw_or1 (dt_not (dt_lele (df_int).toB ((df_len (ab_cons ((df_var 0 (pv 0))).toB ab_nil) (by rfl) T.b_len)).toB ((df_glob T.g_MOST_ROWS (by rfl))).toB))))).t (dss_one (ds_raiseF g0 cx (by decide) (ox_BadRows (P := P) (w := w) (base := base) T).ox (ox_BadRows (P := P) (w := w) (base := base) T).iC (ox_BadRows (P := P) (w := w) (base := base) T).tI (ox_BadRows (P := P) (w := w) (base := base) T).ok (ox_BadRows (P := P) (w := w) (base := base) T).B rfl (ox_BadRows (P := P) (w := w) (base := base) T).g df_non)) dss_nil) (dss_cons (ds_own 1 g0 cx rfl (by first | exact Or.inl rfl | exact Or.inr rfl) (dn_lst af_nil)) (dss_cons (ds_for g0 cx (is_enum (by rfl) T.b_enumerate (af_cons (df_var 0 (pv 0)) af_nil)) (fun _ _ => (tg_tup cx.calm (tgs_cons (tg_name (pg_name cx.nd rfl (by first | exact Or.inl rfl | exact Or.inr rfl))) (tgs_cons (tg_name (pg_name cx.nd rfl (by first | exact Or.inl rfl | exact Or.inr rfl))) tgs_nil)))) (fun _ _ g0 => (dss_cons (ds_if g0 ((dw_or (dt_not (dt_val ((df_isi ((df_var 3 (pv 3))).toB (by decide +kernel) (by rfl) T.b_isinstance (by rfl) T.b_tuple)).toB)) (dw_or (dt_ne ((df_len (ab_cons ((df_var 3 (pv 3))).toB ab_nil) (by rfl) T.b_len)).toB (df_int).toB cx.room) (dw_or1 (dt_not (dt_val ((df_call (ok_is_word T) (VLe.zero _) (cx.mono (by decide)) (by rfl) T.m_is_word T.k_is_word T.B_is_word (af_cons (df_item ((df_var 3 (pv 3))).toB (df_int).toB (fun _ _ => rfl)) (af_cons (df_glob T.g_CAPITAL (by rfl)) (af_cons df_int af_nil))))).toB)))))).t (dss_one (ds_raiseF g0 cx (by decide) (ox_BadRows (P := P) (w := w) (base := base) T).ox (ox_BadRows (P := P) (w := w) (base := base) T).iC (ox_BadRows (P := P) (w := w) (base := base) T).tI (ox_BadRows (P := P) (w := w) (base := base) T).ok (ox_BadRows (P := P) (w := w) (base := base) T).B rfl (ox_BadRows (P := P) (w := w) (base := base) T).g (df_var 2 (pv 2)))) dss_nil) (dss_cons (ds_if g0 (dt_in ((df_item ((df_var 3 (pv 3))).toB (df_int).toB (fun _ _ => rfl))).toB ((dn_lc (own := [("name", 5), ("number", 4)]) cx (ie_seq (db_var 1 (pv 1))) (by first | decide +kernel | kernel_rfl) (fun _ _ _ _ _ cx => (dg_tup cx.calm (dgs_cons (dg_name (pg_name cx.nd rfl (by first | exact Or.inl rfl | exact Or.inr rfl)) (by decide)) (dgs_cons (dg_name (pg_name cx.nd rfl (by first | exact Or.inl rfl | exact Or.inr rfl)) (by decide)) dgs_nil)))) (fun _ _ _ _ _ cx => dts_nil) (fun _ _ _ _ _ cx => (df_var 5 (pv 5))))).toB rfl) (dss_one (ds_raiseF g0 cx (by decide) (ox_BadRows (P := P) (w := w) (base := base) T).ox (ox_BadRows (P := P) (w := w) (base := base) T).iC (ox_BadRows (P := P) (w := w) (base := base) T).tI (ox_BadRows (P := P) (w := w) (base := base) T).ok (ox_BadRows (P := P) (w := w) (base := base) T).B rfl (ox_BadRows (P := P) (w := w) (base := base) T).g (df_var 2 (pv 2)))) dss_nil) (dss_cons (ds_set 4 g0 cx rfl (by first | exact Or.inl rfl | exact Or.inr rfl) (df_callF (ok_number_by T) (cx.mono (by decide)) (by rfl) T.m_number_by T.k_number_by T.B_number_by (ab_cons ((df_item ((df_var 3 (pv 3))).toB (df_int).toB (fun _ _ => rfl))).toB (ab_cons (db_var 1 (pv 1)) ab_nil)))) (dss_cons (ds_if g0 (dt_lt ((df_var 4 (pv 4))).toB (df_int).toB) (dss_one (ds_raiseF g0 cx (by decide) (ox_BadRows (P := P) (w := w) (base := base) T).ox (ox_BadRows (P := P) (w := w) (base := base) T).iC (ox_BadRows (P := P) (w := w) (base := base) T).tI (ox_BadRows (P := P) (w := w) (base := base) T).ok (ox_BadRows (P := P) (w := w) (base := base) T).B rfl (ox_BadRows (P := P) (w := w) (base := base) T).g (df_var 2 (pv 2)))) dss_nil) (dss_one (ds_append (apos := ⟨0, 0, 0, 0⟩) (cpos := ⟨0, 0, 0, 0⟩) 1 g0 (pv 1) (df_tup (af_cons (df_item ((df_var 3 (pv 3))).toB (df_int).toB (fun _ _ => rfl)) (af_cons (df_var 4 (pv 4)) af_nil))) (fun _ _ ho he => ps_expr (pe_bm PySem.F.plainAttrs_list PySem.F.slot_list_append PySem.F.type_list_append mt_append ho (pa_cons he pa_nil))))))))))) (dss_frz 1 (dss_one (ds_ret g0 (df_var 1 (pv 1)))))))))

theorem sc_Kind___init__ : FnScope ["self", "rows", "rest", "name", "number"] ["self", "rows", "rest"] (defScope s_Kind___init__) := ⟨rfl, rfl, rfl, by decide +kernel, rfl, by decide +kernel, by decide +kernel⟩
theorem ok_Kind___init__ (T : Txt K mg) : FnOk P w K mg base (L2N.CX P w) 4 (He.ma K (He.ga K "Kind") "__init__") (fdOf K ("Kind", some "__init__")) ["self", "rows", "rest"] (spI K (He.ga K "Kind") 2 (m_Kind___init__ (cl K))) := by
  refine FunD.ok (CX := L2N.CX P w) T.D_Kind___init__ sc_Kind___init__ (fun vs H Q E h => ?_) (fun cdv A outer s H vs Q E hr h => ?_)
  · obtain ⟨a, dx, F, H₀, ds, ws, rfl, _, _, _, hl, _, r, _⟩ := h
    rw [List.length_cons, r.length, hl]; rfl
  obtain ⟨p, dx, F, H₀, ds, ws, rfl, hp, hp0, sH, hl, sF, r, q⟩ := h
  match ds, hl with
  | [rows, rest], _ =>
  obtain ⟨v0, _, rfl, r0, v1, _, rfl, r1, rfl⟩ := r
  have cx : Ctx (cxOf (L2N.CX P w) P w K mg base ["self", "rows", "rest", "name", "number"] "Kind.__init__" (defScope s_Kind___init__) (He.ma K (He.ga K "Kind") "__init__") cdv A outer s H E) (fun c d _ H => E c d H) 3 := ⟨L2N.takes_of rfl rfl rfl rfl, passes_of rfl, rfl, sc_Kind___init__.nd, hr⟩
  have hu := hu_of hr
  refine ⟨_, pss_cons (ps_fld (pv 0) (pe_callS (ok_read_rows T) (cx.room.mono (by decide)) rfl T.m_read_rows T.k_read_rows T.B_read_rows (fun σ => L2N.passAt cx.tk σ) (pa_cons (pv 1) pa_nil)) rfl)
    (pss_cons (ps_if (DT.run (vol := vol0) (W := fun c d _ H => E c d H) (f := cond_Kind) ((dw_or (dt_not (dt_val ((df_isi ((df_var 2 (pv 2))).toB (by decide +kernel) (by rfl) T.b_isinstance (by rfl) T.b_str)).toB)) (dw_or1 (dt_notIn ((df_var 2 (pv 2))).toB ((df_glob T.g_RULES (by rfl))).toB rfl)))).t) (pss_any (vol := vol0) (W := fun c d _ H => E c d H) (g := (raiseP (cl K).BadRule)) fun F0 H0 g0 => dss_one (ds_raiseP g0 cx T.X_BadRule rfl)) pss_nil)
    (pss_cons (ps_fld (pv 0) (pv 2) rfl)
    (pss_cons (ps_fld (pv 0) (pe_callTy (call_dictP cx.calm) rfl T.b_dict (by decide +kernel) (pa_cons (pe_fld (pv 0) rfl) pa_nil)) rfl)
    (pss_cons (ps_fld (pv 0) pe_dnewK rfl)
    (pss_cons (ps_fld (pv 0) pe_int rfl)
    (pss_one (ps_for cx.ps cx.calm (pi_list (pe_fld (pv 0) rfl)) (pg_tup cx.calm (pgs_cons (pg_name (i := 3) cx.nd rfl (Or.inl rfl)) (pgs_cons (pg_name (i := 4) cx.nd rfl (Or.inl rfl)) pgs_nil)))
      (pss_cons (ps_fld (pv 0) (pe_op op_or (pe_fld (pv 0) rfl) (pv 4)) rfl)
      (pss_one (ps_if (pt_cmp (pc_dnotin hu (pv 4) (pe_fld (pv 0) rfl))) (pss_one (ps_dput hu (pe_fld (pv 0) rfl) (pv 4) (pv 3) rfl)) pss_nil)))))))))), ?_⟩
  -- self.lines = read_rows(rows)
  refine ⟨_, rfl, F, [rows], rfl, good0 (sF.trans sH), ⟨_, _, rfl, r0, rfl⟩, (m_read_rows (cl K) [rows]).mono _ _ _ _ (fun l ql => ?_) (fun x hx dd F' H' x2 xr => hx dd F' H' (ext_sub sH x2) xr) q⟩
  intro v F1 H1 x1 rl
  have h1 : H1 p = some (.ins (He.ga K "Kind") dx []) := x1.sH _ _ hp fun z => z.elim
  have hFp : F p = none := by
    cases e : F p with
    | none => rfl
    | some o => have := sF _ _ e; rw [hp0] at this; cases this
  have hF1p : F1 p = none := x1.nw _ _ hp hFp
  have s01 : Same H₀ H1 := fun a o e => x1.sH _ _ (sH _ _ e) fun z => z.elim
  have x10 : Ext vol0 F H₀ F1 H1 := ext_sub sH x1
  refine ⟨_, rfl, p, _, dx, [], rfl, h1, T.c_Kind, T.n_Kind_lines, by decide, ?_⟩
  cases l with
  | lst ds =>
    have q2 : (match dueOf ds with
      | some due => if due.length ≤ 900 then bnd (cond_Kind [none, some (.im rows), some (.im rest), none, none]) (kindFin2 (cl K) due rest) else stuck
      | none => (stuck : M Exn D)).run _ _ := ql
    cases ed : dueOf ds with
    | none => rw [ed] at q2; exact q2.elim
    | some due =>
      rw [ed] at q2
      by_cases hdl : due.length ≤ 900
      · have q3 : (if due.length ≤ 900 then bnd (cond_Kind [none, some (.im rows), some (.im rest), none, none]) (kindFin2 (cl K) due rest) else (stuck : M Exn D)).run _ _ := q2
        rw [if_pos hdl] at q3
        obtain rfl := dueOf_eq ed
        have rl0 := id rl
        unfold Rep at rl
        obtain ⟨hsz, la, vs, rfl, hla, rvs⟩ := rl
        have npl : p ≠ la := fun z => by rw [z] at hF1p; rw [hF1p] at hla; cases hla
        -- the test
        have hne : ∀ (H' : Hp) (f : List (Str × V)), Same F1 H' → Same F1 (upd H' p (.ins (He.ga K "Kind") dx f)) := fun H' f s a o e => by rw [upd_ne (fun z => by rw [z] at e; rw [hF1p] at e; cases e)]; exact s a o e
        have hn0 : ∀ (H' : Hp) (f : List (Str × V)), Same H₀ H' → Same H₀ (upd H' p (.ins (He.ga K "Kind") dx f)) := fun H' f s a o e => by rw [upd_ne (fun z => by rw [z] at e; rw [hp0] at e; cases e)]; exact s a o e
        have gF := hne _ (putF "lines" (.ref la) []) x1.g.sub
        have x1p : Ext vol0 F H₀ F1 (upd H1 p (.ins (He.ga K "Kind") dx (putF "lines" (.ref la) []))) := ⟨good0 gF, x10.sF, fun a o e _ => hn0 _ _ s01 _ _ e, x10.nw⟩
        refine ⟨F1, [none, some (.im rows), some (.im rest), none, none], good0 gF, erep_none (erep_im (r0.up x1.sF) (erep_im (r1.up x1.sF) (erep_none (erep_none erep_nil)))), (cond_Kind _).mono _ _ _ _ (fun b hb => ?_) (fun x hx dd F' H' x2 xr => hx dd F' H' (x1p.trans (good0 sF) x2) xr) q3⟩
        intro F2 H3 x3
        cases b with
        | true =>
          refine iteT ?_
          refine ⟨F2, H3, x3.g, F2, _, SRep.plain x3.g ((erep_none (erep_im (r0.up x1.sF) (erep_im (r1.up x1.sF) (erep_none (erep_none erep_nil))))).ext x3) (by intro i d; match i with | 0 => exact (fun z => nomatch z) | 1 => exact (fun z => nomatch z) | 2 => exact (fun z => nomatch z) | 3 => exact (fun z => nomatch z) | 4 => exact (fun z => nomatch z) | i + 5 => exact (fun z => nomatch z)), ?_⟩
          exact fun dd σ F' H' s' xr => hb dd F' H' ((x1p.trans (good0 sF) x3).trans (good0 sF) s'.x) xr
        | false =>
          cases rest with
          | str rr =>
          have r1 : v1 = .str rr := r1
          subst r1
          have q3 : (ret (kindD (cl K).Kind due rr) : M Exn D).run _ _ := hb
          refine iteF ?_
          have h3 : H3 p = some (.ins (He.ga K "Kind") dx [("lines", .ref la)]) := x3.sH _ _ upd_same fun z => z.elim
          have s13 : Same F1 H3 := fun a o e => x3.sH _ _ (gF _ _ e) fun z => z.elim
          have s03 : Same H₀ H3 := fun a o e => x3.sH _ _ (hn0 _ _ s01 _ _ e) fun z => z.elim
          -- self.rule = rest
          refine ⟨_, rfl, _, rfl, p, _, dx, _, rfl, h3, T.c_Kind, T.n_Kind_rule, (by show 1 < 1000; decide), ?_⟩
          have s14 := hne _ (putF "rule" (.str rr) [("lines", .ref la)]) s13
          have s04 := hn0 _ (putF "rule" (.str rr) [("lines", .ref la)]) s03
          -- self.table = dict(self.lines)
          obtain ⟨ps, ws, evs, pr, rk⟩ := pairs_rep s14 (pairsOf_due due) rvs
          subst evs
          refine ⟨_, rfl, p, _, dx, _, _, rfl, upd_same, T.c_Kind, T.n_Kind_lines, rfl, la, ps, ws, rfl, .inl (.inl (s14 _ _ hla)), pr, ?_⟩
          intro dT hdT
          have npT : p ≠ dT := fun z => by rw [← z, upd_same] at hdT; cases hdT
          refine ⟨_, rfl, p, _, dx, _, rfl, (by rw [upd_ne npT]; exact upd_same), T.c_Kind, T.n_Kind_table, (by show 2 < 1000; decide), ?_⟩
          -- self.firsts = {}
          intro dF hdF
          have npF : p ≠ dF := fun z => by rw [← z, upd_same] at hdF; cases hdF
          have nTF : dT ≠ dF := fun z => by rw [← z, upd_ne npT.symm, upd_same] at hdF; cases hdF
          refine ⟨_, rfl, p, _, dx, _, rfl, (by rw [upd_ne npF]; exact upd_same), T.c_Kind, T.n_Kind_firsts, (by show 3 < 1000; decide), ?_⟩
          -- self.all_bits = 0
          refine ⟨_, rfl, p, _, dx, _, rfl, upd_same, T.c_Kind, T.n_Kind_all_bits, (by show 4 < 1000; decide), ?_⟩
          have hla1 : F1 la = some (.lst (ps.map V.ref)) := hla
          have h0S : ∀ (H' : Hp) (a : Addr) (u : HO), H' a = none → Same H₀ H' → Same H₀ (upd H' a u) := fun H' a u n s b o' e => by rw [upd_ne (fun z => by have := s _ _ e; rw [z, n] at this; cases this)]; exact s b o' e
          have h1S : ∀ (H' : Hp) (a : Addr) (u : HO), H' a = none → Same F1 H' → Same F1 (upd H' a u) := fun H' a u n s b o' e => by rw [upd_ne (fun z => by have := s _ _ e; rw [z, n] at this; cases this)]; exact s b o' e
          have hF1T : F1 dT = none := s14.free hdT
          have h0T : H₀ dT = none := s04.free hdT
          have hF1F : F1 dF = none := (hne _ _ (h1S _ _ _ hdT s14)).free hdF
          have h0F : H₀ dF = none := (hn0 _ _ (h0S _ _ _ hdT s04)).free hdF
          -- for name, number in self.lines
          refine ⟨_, rfl, p, _, dx, _, _, rfl, upd_same, T.c_Kind, T.n_Kind_lines, rfl, la, rfl, ⟨_, .inl (.inl (hne _ _ (hne _ _ (h1S _ _ _ hdF (hne _ _ (h1S _ _ _ hdT s14)))) _ _ hla))⟩, ?_⟩
          refine for_list (K := K) (a := la) (xs := ps.map V.ref) (fun i σ H => ∃ (n m : Option V) (fk : List (Key × V)), σ = [some (.ref p), some v0, some (.str rr), n, m] ∧ Same F1 H ∧ Same H₀ H ∧
            H p = some (.ins (He.ga K "Kind") dx [("lines", .ref la), ("rule", .str rr), ("table", .ref dT), ("firsts", .ref dF), ("all_bits", .int (orAll (due.take i)))]) ∧ H dT = some (.dK (mergeK [] ws)) ∧ H dF = some (.dK fk) ∧ RepK K F1 (firstsD (due.take i)) fk) ?_ ?_ ?_ ?_
          · refine ⟨none, none, [], rfl, hne _ _ (hne _ _ (h1S _ _ _ hdF (hne _ _ (h1S _ _ _ hdT s14)))), hn0 _ _ (hn0 _ _ (h0S _ _ _ hdF (hn0 _ _ (h0S _ _ _ hdT s04)))), upd_same, ?_, ?_, rfl⟩
            · rw [upd_ne npT.symm, upd_ne npT.symm, upd_ne nTF, upd_ne npT.symm, upd_same]
            · rw [upd_ne npF.symm, upd_ne npF.symm, upd_same]
          · rintro i σ H' _ ⟨n, m, fk, rfl, s1, s0, _⟩
            exact .inl (.inl (s1 _ _ hla))
          · rintro i x σ H' hx ⟨n, m, fk, rfl, s1, s0, hpi, hT, hF, rkf⟩
            obtain ⟨a, pr1, hdue, rfl, hsq⟩ := due_at rvs hx
            refine ⟨a, _, rfl, Same.seqT (show Same F1 H' from s1) hsq, rfl, _, _, rfl, _, _, rfl, rfl, ?_⟩
            have elen : due.take (i + 1) = due.take i ++ [pr1] := take_succ' hdue
            -- self.all_bits = self.all_bits | number
            refine ⟨_, rfl, p, _, dx, _, _, rfl, hpi, T.c_Kind, T.n_Kind_all_bits, rfl, _, rfl, _, _, rfl, rfl, _, rfl, p, _, dx, _, rfl, hpi, T.c_Kind, T.n_Kind_all_bits, by show 5 < 1000; decide, ?_⟩
            have npT' : dT ≠ p := npT.symm
            have npF' : dF ≠ p := npF.symm
            have flds : putF "all_bits" (V.int (Builtin.bitOr (orAll (due.take i)) pr1.2)) [("lines", V.ref la), ("rule", V.str rr), ("table", V.ref dT), ("firsts", V.ref dF), ("all_bits", V.int (orAll (due.take i)))] = ([("lines", V.ref la), ("rule", V.str rr), ("table", V.ref dT), ("firsts", V.ref dF), ("all_bits", V.int (orAll (due.take (i + 1))))] : List (Str × V)) := by
              rw [elen, orAll_snoc]; rfl
            -- if number not in self.firsts
            refine ⟨_, rfl, _, rfl, p, _, dx, _, _, rfl, upd_same, T.c_Kind, T.n_Kind_firsts, rfl, dF, _, rfl, DGet.k (k := Sum.inl pr1.2) (by rw [upd_ne npF']; exact hF), _, rfl, ?_⟩
            have hl9 : fk.length ≤ 1000 := by
              rw [rkf.length]
              refine Nat.le_trans (firstsD_len _) ?_
              rw [List.length_take]; omega
            cases ev : valV fk (Sum.inl pr1.2 : Key) with
            | none =>
              refine iteT ?_
              refine ⟨_, rfl, _, rfl, p, _, dx, _, _, rfl, upd_same, T.c_Kind, T.n_Kind_firsts, rfl, _, rfl, dF, _, rfl, DPut.k (k := Sum.inl pr1.2) (by rw [upd_ne npF']; exact hF) (small1000 hl9), ?_⟩
              refine ⟨_, _, _, rfl, ?_, ?_, ?_, ?_, upd_same, ?_⟩
              · intro b o e
                rw [upd_ne (fun z => by rw [z, hF1F] at e; cases e)]; exact hne _ _ s1 _ _ e
              · intro b o e
                rw [upd_ne (fun z => by rw [z, h0F] at e; cases e)]; exact hn0 _ _ s0 _ _ e
              · rw [upd_ne npF, upd_same, flds]
              · rw [upd_ne nTF, upd_ne npT']; exact hT
              · rw [elen, firstsD_snoc]; exact (firsts_rep rkf pr1).1 ev
            | some vv =>
              refine iteF ?_
              refine ⟨_, _, fk, rfl, hne _ _ s1, hn0 _ _ s0, ?_, ?_, ?_, ?_⟩
              · rw [upd_same, flds]
              · rw [upd_ne npT']; exact hT
              · rw [upd_ne npF']; exact hF
              · rw [elen, firstsD_snoc]; exact (firsts_rep rkf pr1).2 _ ev
          · rintro σ H' ⟨n, m, fk, rfl, s1, s0, hpi, hT, hF, rkf⟩
            have hlen : (ps.map V.ref).length = due.length := by rw [rvs.length]; exact List.length_map ..
            have et : due.take (ps.map V.ref).length = due := by rw [hlen]; exact List.take_length
            rw [et] at hpi rkf
            have up : Same F1 (upd (upd (upd F1 dT (.dK (mergeK [] ws))) dF (.dK fk)) p (.ins (He.ga K "Kind") dx [("lines", .ref la), ("rule", .str rr), ("table", .ref dT), ("firsts", .ref dF), ("all_bits", .int (orAll due))])) := fun a o e => by
              rw [upd_ne (fun z => by rw [z, hF1p] at e; cases e), upd_ne (fun z => by rw [z, hF1F] at e; cases e), upd_ne (fun z => by rw [z, hF1T] at e; cases e)]; exact e
            have r9 : RepK K F1 (tabD due) (mergeK [] ws) := mergeD_rep rk rfl
            refine q3 (upd (upd (upd F1 dT (.dK (mergeK [] ws))) dF (.dK fk)) p (.ins (He.ga K "Kind") dx [("lines", .ref la), ("rule", .str rr), ("table", .ref dT), ("firsts", .ref dF), ("all_bits", .int (orAll due))])) H' ⟨⟨fun a o e => ?_, fun _ z => z.elim, trivial⟩, fun a o e => up _ _ (x1.sF _ _ e), fun a o e _ => s0 _ _ e, fun a o e1 e2 => ?_⟩ ?_
            · by_cases e1 : a = p
              · subst e1; rw [upd_same] at e; cases e; exact hpi
              rw [upd_ne e1] at e
              by_cases e2 : a = dF
              · subst e2; rw [upd_same] at e; cases e; exact hF
              rw [upd_ne e2] at e
              by_cases e3 : a = dT
              · subst e3; rw [upd_same] at e; cases e; exact hT
              rw [upd_ne e3] at e
              exact s1 _ _ e
            · rw [upd_ne (fun z => by rw [z, hp0] at e1; cases e1), upd_ne (fun z => by rw [z, h0F] at e1; cases e1), upd_ne (fun z => by rw [z, h0T] at e1; cases e1)]
              exact x10.nw _ _ e1 e2
            · refine (show Rep K _ (.obj (He.ga K "Kind") [("lines", .lst (dueD due)), ("rule", .str rr), ("table", .dct (tabD due)), ("firsts", .dct (firstsD due)), ("all_bits", .int (orAll due))]) (.ref p) from ?_)
              unfold Rep
              refine ⟨p, dx, _, rfl, upd_same, .ref la, _, rfl, Rep.up up _ _ rl0, .str rr, _, rfl, rfl, .ref dT, _, rfl, ?_, .ref dF, _, rfl, ?_, .int (orAll due), _, rfl, rfl, rfl⟩
              · unfold Rep
                refine ⟨?_, dT, _, rfl, (by rw [upd_ne npT.symm, upd_ne nTF, upd_same]), RepK.up up _ _ r9⟩
                refine Nat.le_trans (mergeD_len _ _) ?_
                rw [List.length_nil, List.length_map]
                exact Nat.le_of_lt (small1000 (by omega))
              · unfold Rep
                exact ⟨Nat.le_trans (firstsD_len _) (Nat.le_of_lt (small1000 (by omega))), dF, _, rfl, (by rw [upd_ne npF.symm, upd_same]), RepK.up up _ _ rkf⟩
          | _ => exact hb.elim
      · have q3 : (if due.length ≤ 900 then bnd (cond_Kind [none, some (.im rows), some (.im rest), none, none]) (kindFin2 (cl K) due rest) else (stuck : M Exn D)).run _ _ := q2
        rw [if_neg hdl] at q3
        exact q3.elim
  | _ => exact ql.elim


theorem sc_Kind___eq__ : FnScope ["self", "other"] ["self", "other"] (defScope s_Kind___eq__) := ⟨rfl, rfl, rfl, by decide +kernel, rfl, by decide +kernel, by decide +kernel⟩
theorem ok_Kind___eq__ (T : Txt K mg) : FnOk P w K mg base (L2N.CX P w) 1 (He.ma K (He.ga K "Kind") "__eq__") (fdOf K ("Kind", some "__eq__")) ["self", "other"] (spD vol0 K 2 (m_Kind___eq__ (cl K))) :=
  fn_ok T.F_Kind___eq__ sc_Kind___eq__ (fun _ _ _ _ _ _ _ g0 cx => (dss_one (ds_ret g0 (dv_and (df_isC T.i_Kind ((df_var 1 (pv 1))).toB (by rfl) T.b_isinstance (by rfl) T.m_Kind) (dv_and (df_eq ((df_fld T.c_Kind T.n_Kind_lines ((df_var 0 (pv 0))).toB rfl)).toB ((df_fld T.c_Kind T.n_Kind_lines ((df_var 1 (pv 1))).toB rfl)).toB cx.room) (dv_one (df_eq ((df_fld T.c_Kind T.n_Kind_rule ((df_var 0 (pv 0))).toB rfl)).toB ((df_fld T.c_Kind T.n_Kind_rule ((df_var 1 (pv 1))).toB rfl)).toB cx.room)))))))

theorem sc_Kind_number : FnScope ["self", "name"] ["self", "name"] (defScope s_Kind_number) := ⟨rfl, rfl, rfl, by decide +kernel, rfl, by decide +kernel, by decide +kernel⟩
theorem ok_Kind_number (T : Txt K mg) : FnOk P w K mg base (L2N.CX P w) 1 (He.ma K (He.ga K "Kind") "number") (fdOf K ("Kind", some "number")) ["self", "name"] (spD vol0 K 2 (m_Kind_number (cl K))) :=
  fn_ok T.F_Kind_number sc_Kind_number (fun _ _ _ _ _ _ _ g0 cx => (dss_cons (ds_if g0 ((dw_or (dt_not (dt_val ((df_isi ((df_var 1 (pv 1))).toB (by decide +kernel) (by rfl) T.b_isinstance (by rfl) T.b_str)).toB)) (dw_or1 (dt_notInDct cx.room ((df_var 1 (pv 1))).toB ((df_fld T.c_Kind T.n_Kind_table ((df_var 0 (pv 0))).toB rfl)).toB rfl)))).t (dss_one (ds_raiseP g0 cx T.X_BadName rfl)) dss_nil) (dss_one (ds_ret g0 (df_dget cx.room ((df_fld T.c_Kind T.n_Kind_table ((df_var 0 (pv 0))).toB rfl)).toB ((df_var 1 (pv 1))).toB (fun _ _ => rfl))))))

theorem sc_Kind_known : FnScope ["self"] ["self"] (defScope s_Kind_known) := ⟨rfl, rfl, rfl, by decide +kernel, rfl, by decide +kernel, by decide +kernel⟩
theorem ok_Kind_known (T : Txt K mg) : FnOk P w K mg base (L2N.CX P w) 1 (He.ma K (He.ga K "Kind") "known") (fdOf K ("Kind", some "known")) ["self"] (spD vol0 K 1 (m_Kind_known (cl K))) :=
  fn_ok T.F_Kind_known sc_Kind_known (fun _ _ _ _ _ _ _ g0 cx => (dss_one (ds_ret g0 (df_fld T.c_Kind T.n_Kind_all_bits ((df_var 0 (pv 0))).toB rfl))))

theorem sc_Kind_rest : FnScope ["self"] ["self"] (defScope s_Kind_rest) := ⟨rfl, rfl, rfl, by decide +kernel, rfl, by decide +kernel, by decide +kernel⟩
theorem ok_Kind_rest (T : Txt K mg) : FnOk P w K mg base (L2N.CX P w) 1 (He.ma K (He.ga K "Kind") "rest") (fdOf K ("Kind", some "rest")) ["self"] (spD vol0 K 1 (m_Kind_rest (cl K))) :=
  fn_ok T.F_Kind_rest sc_Kind_rest (fun _ _ _ _ _ _ _ g0 cx => (dss_one (ds_ret g0 (df_fld T.c_Kind T.n_Kind_rule ((df_var 0 (pv 0))).toB rfl))))

theorem sc_Value___init__ : FnScope ["self", "kind", "number"] ["self", "kind", "number"] (defScope s_Value___init__) := ⟨rfl, rfl, rfl, by decide +kernel, rfl, by decide +kernel, by decide +kernel⟩
theorem ok_Value___init__ (T : Txt K mg) : FnOk P w K mg base (L2N.CX P w) 2 (He.ma K (He.ga K "Value") "__init__") (fdOf K ("Value", some "__init__")) ["self", "kind", "number"] (spI K (He.ga K "Value") 2 (m_Value___init__ (cl K))) :=
  fn_okI T.F_Value___init__ sc_Value___init__ rfl (fun _ _ _ _ _ _ _ _ _ g0 cx => (dis_cons (di_ifR g0 (dt_not (dt_val ((df_call (ok_is_number T) (VLe.zero _) (cx.mono (by decide)) (by rfl) T.m_is_number T.k_is_number T.B_is_number (af_cons (df_var 2 (pv 2)) (af_cons df_int (af_cons (df_glob T.g_FARTHEST (by rfl)) af_nil))))).toB)) (dss_one (ds_raiseP g0 cx T.X_BadNumber rfl))) (dis_cons (di_ifR g0 ((dw_and (dt_ne ((df_meth0 (ok_Kind_rest T) (VLe.zero _) (cx.mono (by decide)) T.c_Kind T.t_Kind_rest T.B_Kind_rest (df_var 1 (pv 1)))).toB (df_str).toB cx.room) (dw_and1 (dt_ne ((df_and ((df_var 2 (pv 2))).toB ((df_meth0 (ok_Kind_known T) (VLe.zero _) (cx.mono (by decide)) T.c_Kind T.t_Kind_known T.B_Kind_known (df_var 1 (pv 1)))).toB)).toB ((df_var 2 (pv 2))).toB cx.room)))).t (dss_one (ds_raiseP g0 cx T.X_BadNumber rfl))) (dis_cons (di_att g0 (pv 0) (df_var 1 (pv 1)) T.c_Value T.n_Value_own) (dis_one (di_att g0 (pv 0) (df_var 2 (pv 2)) T.c_Value T.n_Value_own_bits))))))

theorem sc_Value___eq__ : FnScope ["self", "other"] ["self", "other"] (defScope s_Value___eq__) := ⟨rfl, rfl, rfl, by decide +kernel, rfl, by decide +kernel, by decide +kernel⟩
theorem ok_Value___eq__ (T : Txt K mg) : FnOk P w K mg base (L2N.CX P w) 3 (He.ma K (He.ga K "Value") "__eq__") (fdOf K ("Value", some "__eq__")) ["self", "other"] (spD vol0 K 2 (m_Value___eq__ (cl K))) :=
  fn_ok T.F_Value___eq__ sc_Value___eq__ (fun _ _ _ _ _ _ _ g0 cx => (dss_one (ds_ret g0 (dv_and (df_isC T.i_Value ((df_var 1 (pv 1))).toB (by rfl) T.b_isinstance (by rfl) T.m_Value) (dv_and (df_eqC (ok_Kind___eq__ T) cx (by decide) T.q_Kind T.B_Kind___eq__ (df_fld T.c_Value T.n_Value_own ((df_var 0 (pv 0))).toB rfl) (df_fld T.c_Value T.n_Value_own ((df_var 1 (pv 1))).toB rfl)) (dv_one (df_eq ((df_fld T.c_Value T.n_Value_own_bits ((df_var 0 (pv 0))).toB rfl)).toB ((df_fld T.c_Value T.n_Value_own_bits ((df_var 1 (pv 1))).toB rfl)).toB cx.room)))))))

theorem sc_Value_number : FnScope ["self"] ["self"] (defScope s_Value_number) := ⟨rfl, rfl, rfl, by decide +kernel, rfl, by decide +kernel, by decide +kernel⟩
theorem ok_Value_number (T : Txt K mg) : FnOk P w K mg base (L2N.CX P w) 1 (He.ma K (He.ga K "Value") "number") (fdOf K ("Value", some "number")) ["self"] (spD vol0 K 1 (m_Value_number (cl K))) :=
  fn_ok T.F_Value_number sc_Value_number (fun _ _ _ _ _ _ _ g0 cx => (dss_one (ds_ret g0 (df_fld T.c_Value T.n_Value_own_bits ((df_var 0 (pv 0))).toB rfl))))

theorem sc_without_bits : FnScope ["number", "bits"] ["number", "bits"] (defScope s_without_bits) := ⟨rfl, rfl, rfl, by decide +kernel, rfl, by decide +kernel, by decide +kernel⟩
theorem ok_without_bits (T : Txt K mg) : FnOk P w K mg base (L2N.CX P w) 1 (He.ga K "without_bits") (fdOf K ("without_bits", none)) ["number", "bits"] (spD vol0 K 2 (m_without_bits (cl K))) :=
  fn_ok T.F_without_bits sc_without_bits (fun _ _ _ _ _ _ _ g0 cx => (dss_one (ds_ret g0 (df_sub ((df_var 0 (pv 0))).toB ((df_and ((df_var 0 (pv 0))).toB ((df_var 1 (pv 1))).toB)).toB))))

theorem sc_made : FnScope ["kind", "number", "plain", "rest", "known", "rule"] ["kind", "number"] (defScope s_made) := ⟨rfl, rfl, rfl, by decide +kernel, rfl, by decide +kernel, by decide +kernel⟩
theorem ok_made (T : Txt K mg) : FnOk P w K mg base (L2N.CX P w) 4 (He.ga K "made") (fdOf K ("made", none)) ["kind", "number"] (spD vol0 K 2 (m_made (cl K))) :=
  fn_ok T.F_made sc_made (fun _ _ _ _ _ _ _ g0 cx => (dss_cons (ds_if g0 (dt_not (dt_val ((df_call (ok_is_number T) (VLe.zero _) (cx.mono (by decide)) (by rfl) T.m_is_number T.k_is_number T.B_is_number (af_cons (df_var 1 (pv 1)) (af_cons (df_sub ((df_neg ((df_glob T.g_FARTHEST (by rfl))).toB)).toB (df_int).toB) (af_cons (df_glob T.g_FARTHEST (by rfl)) af_nil))))).toB)) (dss_one (ds_raiseP g0 cx T.X_BadNumber rfl)) dss_nil) (dss_cons (ds_par (w1 := .im) (w2 := .im) g0 cx rfl rfl (by decide) rfl rfl (df_meth0 (ok_Kind_known T) (VLe.zero _) (cx.mono (by decide)) T.c_Kind T.t_Kind_known T.B_Kind_known (df_var 0 (pv 0))) (df_meth0 (ok_Kind_rest T) (VLe.zero _) (cx.mono (by decide)) T.c_Kind T.t_Kind_rest T.B_Kind_rest (df_var 0 (pv 0))) (by rfl)) (dss_cons (ds_set 2 g0 cx rfl (by first | exact Or.inl rfl | exact Or.inr rfl) (df_ifExp (dt_ge ((df_var 1 (pv 1))).toB (df_int).toB) (df_var 1 (pv 1)) (df_sub ((df_neg ((df_var 1 (pv 1))).toB)).toB (df_int).toB))) (dss_cons (ds_set 3 g0 cx rfl (by first | exact Or.inl rfl | exact Or.inr rfl) (df_call (ok_without_bits T) (VLe.zero _) (cx.mono (by decide)) (by rfl) T.m_without_bits T.k_without_bits T.B_without_bits (af_cons (df_var 2 (pv 2)) (af_cons (df_var 4 (pv 4)) af_nil)))) (dss_cons (ds_if g0 ((dw_and (dt_gt ((df_var 3 (pv 3))).toB (df_int).toB) (dw_and1 (dt_eq ((df_var 5 (pv 5))).toB (df_str).toB cx.room)))).t (dss_one (ds_raiseF g0 cx (by decide) (ox_BadRest (P := P) (w := w) (base := base) T).ox (ox_BadRest (P := P) (w := w) (base := base) T).iC (ox_BadRest (P := P) (w := w) (base := base) T).tI (ox_BadRest (P := P) (w := w) (base := base) T).ok (ox_BadRest (P := P) (w := w) (base := base) T).B rfl (ox_BadRest (P := P) (w := w) (base := base) T).g (df_var 3 (pv 3)))) dss_nil) (dss_cons (ds_if g0 (dt_lt ((df_var 1 (pv 1))).toB (df_int).toB) (dss_one (ds_ret g0 (df_make T.M_Value (ok_Value___init__ T) cx (by decide) (by rfl) T.m_Value T.B_Value___init__ (af_cons (df_var 0 (pv 0)) (af_cons (df_call (ok_without_bits T) (VLe.zero _) (cx.mono (by decide)) (by rfl) T.m_without_bits T.k_without_bits T.B_without_bits (af_cons (df_var 4 (pv 4)) (af_cons (df_var 2 (pv 2)) af_nil))) af_nil))))) dss_nil) (dss_cons (ds_if g0 ((dw_and (dt_gt ((df_var 3 (pv 3))).toB (df_int).toB) (dw_and1 (dt_eq ((df_var 5 (pv 5))).toB (df_str).toB cx.room)))).t (dss_one (ds_ret g0 (df_var 1 (pv 1)))) dss_nil) (dss_one (ds_ret g0 (df_make T.M_Value (ok_Value___init__ T) cx (by decide) (by rfl) T.m_Value T.B_Value___init__ (af_cons (df_var 0 (pv 0)) (af_cons (df_ifExp (dt_eq ((df_var 5 (pv 5))).toB (df_str).toB cx.room) (df_var 1 (pv 1)) (df_and ((df_var 1 (pv 1))).toB ((df_var 4 (pv 4))).toB)) af_nil)))))))))))))

theorem sc_number_of : FnScope ["kind", "names", "found", "name"] ["kind", "names"] (defScope s_number_of) := ⟨rfl, rfl, rfl, by decide +kernel, rfl, by decide +kernel, by decide +kernel⟩
theorem ok_number_of (T : Txt K mg) : FnOk P w K mg base (L2N.CX P w) 2 (He.ga K "number_of") (fdOf K ("number_of", none)) ["kind", "names"] (spD vol0 K 2 (m_number_of (cl K))) :=
  fn_ok T.F_number_of sc_number_of (fun _ _ _ _ _ _ _ g0 cx => (dss_cons (ds_if g0 (dt_not (dt_val ((df_isi2 ((df_var 1 (pv 1))).toB (by decide +kernel) (by decide +kernel) (by rfl) T.b_isinstance (by rfl) T.b_list (by rfl) T.b_tuple)).toB)) (dss_one (ds_raiseP g0 cx T.X_BadName rfl)) dss_nil) (dss_cons (ds_set 2 g0 cx rfl (by first | exact Or.inl rfl | exact Or.inr rfl) df_int) (dss_cons (ds_for g0 cx (is_seq (df_var 1 (pv 1))) (fun _ _ => (tg_name (pg_name cx.nd rfl (by first | exact Or.inl rfl | exact Or.inr rfl)))) (fun _ _ g0 => (dss_one (ds_set 2 g0 cx rfl (by first | exact Or.inl rfl | exact Or.inr rfl) (df_or ((df_var 2 (pv 2))).toB ((df_meth (ok_Kind_number T) (VLe.zero _) (cx.mono (by decide)) T.c_Kind T.t_Kind_number T.B_Kind_number (df_var 0 (pv 0)) (af_cons (df_var 3 (pv 3)) af_nil))).toB))))) (dss_one (ds_ret g0 (df_var 2 (pv 2))))))))

theorem sc_value_of : FnScope ["kind", "names"] ["kind", "names"] (defScope s_value_of) := ⟨rfl, rfl, rfl, by decide +kernel, rfl, by decide +kernel, by decide +kernel⟩
theorem ok_value_of (T : Txt K mg) : FnOk P w K mg base (L2N.CX P w) 4 (He.ga K "value_of") (fdOf K ("value_of", none)) ["kind", "names"] (spD vol0 K 2 (m_value_of (cl K))) :=
  fn_ok T.F_value_of sc_value_of (fun _ _ _ _ _ _ _ g0 cx => (dss_one (ds_ret g0 (df_make T.M_Value (ok_Value___init__ T) cx (by decide) (by rfl) T.m_Value T.B_Value___init__ (af_cons (df_var 0 (pv 0)) (af_cons (df_call (ok_number_of T) (VLe.zero _) (cx.mono (by decide)) (by rfl) T.m_number_of T.k_number_of T.B_number_of (af_cons (df_var 0 (pv 0)) (af_cons (df_var 1 (pv 1)) af_nil))) af_nil))))))

theorem sc__law_drawn : FnScope ["_law_cell_here", "_law_k", "_law_more"] ["_law_cell_here", "_law_k"] (defScope s__law_drawn) := ⟨rfl, rfl, rfl, by decide +kernel, rfl, by decide +kernel, by decide +kernel⟩
theorem ok__law_drawn (T : Txt K mg) : FnOk P w K mg base (L2N.CX P w) 1 (He.ga K "_law_drawn") (fdOf K ("_law_drawn", none)) ["_law_cell_here", "_law_k"] spDrawn := by
  refine fun_okN T.F__law_drawn sc__law_drawn (fun vs H Q E h => ?_) (fun cdv A outer s H vs Q E hr h => ?_)
  · obtain ⟨c, k, rfl, _⟩ := h
    rfl
  obtain ⟨c, k, rfl, q⟩ := h
  refine ⟨_, pss_cons (ps_set (i := 2) sc__law_drawn.nd rfl (Or.inl rfl) (pe_op op_mod (pe_op op_add (pe_op op_mulO (pv 0) pe_int) (pe_op op_mulO (pe_op op_add (pv 1) pe_int) pe_int)) pe_int))
    (pss_cons (ps_set (i := 2) sc__law_drawn.nd rfl (Or.inl rfl) (pe_op op_mod (pe_op op_mulW (pv 2) (pv 2)) pe_int))
    (pss_cons (ps_set (i := 2) sc__law_drawn.nd rfl (Or.inl rfl) (pe_op op_mulW (pe_op op_mulW (pe_op op_add (pe_op op_mod (pv 2) pe_int) pe_int) (pe_op op_add (pe_op op_fdivW (pv 2) pe_int) pe_int)) (pv 2)))
    (pss_one (ps_ret (pe_op op_mod (pv 2) pe_int))))), ?_⟩
  refine ⟨_, rfl, _, _, rfl, rfl, mulOk_r (by decide) (by decide), _, rfl, _, _, rfl, rfl, _, _, rfl, rfl, mulOk_r (by decide) (by decide), _, _, rfl, rfl, _, _, rfl, rfl, pos_m1, ?_⟩
  refine ⟨_, rfl, _, rfl, _, _, rfl, rfl, drawn1 _, _, _, rfl, rfl, pos_m2, ?_⟩
  refine ⟨_, rfl, _, _, rfl, rfl, pos_m3, _, _, rfl, rfl, _, rfl, _, _, rfl, rfl, drawn2 _, _, _, rfl, rfl, _, _, rfl, rfl, drawn3 _, _, rfl, _, _, rfl, rfl, drawn4 _, ?_⟩
  exact ⟨_, rfl, _, _, rfl, rfl, pos_m1, q _ (Int.emod_nonneg _ (by decide))⟩


theorem sc__law_roll : FnScope ["_law_dice", "_law_many", "_law_told_here"] ["_law_dice", "_law_many"] (defScope s__law_roll) := ⟨rfl, rfl, rfl, by decide +kernel, rfl, by decide +kernel, by decide +kernel⟩
theorem ok__law_roll (T : Txt K mg) : FnOk P w K mg base (L2N.CX P w) 2 (He.ga K "_law_roll") (fdOf K ("_law_roll", none)) ["_law_dice", "_law_many"] (spZ K 1 m_law_roll) := by
  refine fun_okN T.F__law_roll sc__law_roll (fun vs H Q E h => ?_) (fun cdv A outer s H vs Q E hr h => ?_)
  · obtain ⟨z, F0, ds, ws, rfl, hl, g0, r, q⟩ := h
    rw [List.length_cons, r.length, hl]; rfl
  obtain ⟨z, F0, ds, ws, rfl, hl, g0, r, q⟩ := h
  match ds, hl with
  | [d], _ =>
  obtain ⟨v0, _, rfl, r0, rfl⟩ := r
  have cx : Ctx (cxOf (L2N.CX P w) P w K mg base ["_law_dice", "_law_many", "_law_told_here"] "_law_roll" (defScope s__law_roll) (He.ga K "_law_roll") cdv A outer s H E) (fun c d _ H => E c d H) 1 := ⟨L2N.takes_of rfl rfl rfl rfl, passes_of rfl, rfl, sc__law_roll.nd, hr⟩
  refine ⟨_, pss_cons (ps_if (pt_cmpR op_ge (pe_ix ix_seq (pv 0) pe_int fun _ _ => rfl) (pe_op op_pow pe_int pe_int) (nomark _))
      (pss_cons (ps_set (i := 2) sc__law_roll.nd rfl (Or.inl rfl) (pe_op op_mod (pe_ix ix_seq (pv 0) pe_int fun _ _ => rfl) (pv 1)))
      (pss_cons (ps_asg (pe_op op_fdivW (pe_ix ix_seq (pv 0) pe_int fun _ _ => rfl) (pv 1)) (pg_sub (pv 0) pe_int set_list))
      (pss_one (ps_ret (pv 2))))) pss_nil)
    (pss_cons (ps_asg (pe_op op_add (pe_ix ix_seq (pv 0) pe_int fun _ _ => rfl) pe_int) (pg_sub (pv 0) pe_int set_list))
    (pss_one (ps_ret (pe_op op_mod (pe_op op_fdiv (pe_callS (ok__law_drawn T) cx.room rfl T.m__law_drawn T.k__law_drawn T.B__law_drawn (fun σ => L2N.passAt cx.tk σ) (pa_cons (pe_ix ix_seq (pv 0) pe_int fun _ _ => rfl) (pa_cons (pe_ix ix_seq (pv 0) pe_int fun _ _ => rfl) pa_nil))) pe_int) (pv 1))))), ?_⟩
  obtain ⟨i, j, hz⟩ := g0.vi
  cases d with
  | int n =>
    have r0 : v0 = .int n := r0
    subst r0
    by_cases hn : n < 1267650600228229401496703205376
    · have q1 : (if n < 1267650600228229401496703205376 then bnd (pick n) fun r => ret (.int r) else (stuck : M Exn D)).run (VF (volD z) K F0 H Q) (EXd (volD z) E F0 H) := q
      rw [if_pos hn] at q1
      obtain ⟨hn0, q2⟩ := q1
      have q3 : ∀ r : Int, 0 ≤ r → r < n → ∀ a b : Int, Q (.int r) (upd H z (.lst [.int a, .int b])) := fun r h1 h2 a b => q2 r h1 h2 _ _ _ (ext_dice g0 a b) rfl
      have at0 : ∀ x y : V, atI [x, y] 0 = some x := fun _ _ => rfl
      have at1 : ∀ x y : V, atI [x, y] 1 = some y := fun _ _ => rfl
      refine ⟨_, rfl, .inl ⟨z, _, 0, _, rfl, rfl, SqL.of hz, at0 _ _, _, _, rfl, rfl, ⟨by decide, by decide, by decide⟩, _, _, rfl, rfl, _, rfl, ?_⟩⟩
      refine ite2 (fun _ => ?_) (fun _ => ?_)
      · refine ⟨_, rfl, .inl ⟨z, _, 0, _, rfl, rfl, SqL.of hz, at0 _ _, _, rfl, _, _, rfl, rfl, hn0, ?_⟩⟩
        refine ⟨_, rfl, .inl ⟨z, _, 0, _, rfl, rfl, SqL.of hz, at0 _ _, _, rfl, _, _, rfl, rfl, wide_div (b := 100) hn0 (by omega) (by decide) (by decide), _, rfl, z, _, 0, 0, rfl, rfl, hz, rfl, _, rfl, ?_⟩⟩
        exact q3 _ (Int.emod_nonneg _ (by omega)) (Int.emod_lt_of_pos _ hn0) _ _
      · refine ⟨_, rfl, .inl ⟨z, _, 1, _, rfl, rfl, SqL.of hz, at1 _ _, _, _, rfl, rfl, _, rfl, z, _, 1, 1, rfl, rfl, hz, rfl, ?_⟩⟩
        refine ⟨_, rfl, .inl ⟨z, _, 0, _, rfl, rfl, SqL.of upd_same, at0 _ _, _, rfl, .inl ⟨z, _, 1, _, rfl, rfl, SqL.of upd_same, at1 _ _, _, _, rfl, fun r hr => ⟨_, _, rfl, rfl, ⟨by decide, by decide⟩, _, rfl, _, _, rfl, rfl, hn0, ?_⟩⟩⟩⟩
        exact q3 _ (Int.emod_nonneg _ (by omega)) (Int.emod_lt_of_pos _ hn0) _ _
    · have q1 : (if n < 1267650600228229401496703205376 then bnd (pick n) fun r => ret (.int r) else (stuck : M Exn D)).run (VF (volD z) K F0 H Q) (EXd (volD z) E F0 H) := q
      rw [if_neg hn] at q1
      exact q1.elim
  | _ => exact q.elim


theorem sc__law_cell : FnScope ["_law_script", "_law_k"] ["_law_script", "_law_k"] (defScope s__law_cell) := ⟨rfl, rfl, rfl, by decide +kernel, rfl, by decide +kernel, by decide +kernel⟩
theorem ok__law_cell (T : Txt K mg) : FnOk P w K mg base (L2N.CX P w) 1 (He.ga K "_law_cell") (fdOf K ("_law_cell", none)) ["_law_script", "_law_k"] (spCell K) := by
  refine fun_okN T.F__law_cell sc__law_cell (fun vs H Q E h => ?_) (fun cdv A outer s H vs Q E hr h => ?_)
  · obtain ⟨a, ns, k, rfl, _⟩ := h
    rfl
  obtain ⟨a, ns, k, rfl, hS, hl, hk, q⟩ := h
  refine ⟨_, pss_cons (ps_if (pt_cmpR (op_eqD hr.units) (pv 0) (pe_lst pa_nil) (nomark _)) (pss_one (ps_ret (pe_op op_mulO (pv 1) pe_int))) pss_nil)
    (pss_one (ps_ret (pe_op op_add (pe_ix ix_seq (pv 0) (pe_op op_mod (pv 1) (pe_callB call_len (by rfl) T.b_len boot_len (pa_cons (pv 0) pa_nil))) fun _ _ => rfl)
      (pe_op op_mulO (pe_op op_fdiv (pv 1) (pe_callB call_len (by rfl) T.b_len boot_len (pa_cons (pv 0) pa_nil))) pe_int)))), ?_⟩
  have hlen : (ns.map V.int).length = ns.length := List.length_map ..
  refine ⟨_, rfl, Nat.zero_le _, fun a2 ha2 => ?_⟩
  have s2 : Same H (upd H a2 (.lst [])) := fun b o e => by rw [upd_ne (fun z => by rw [z, ha2] at e; cases e)]; exact e
  refine ⟨_, _, .lst (s2.seq hS) (dpAll_ints ns), .lst (SqL.of upd_same) .nil, PySem.W.ke_shaped_ints ns, rfl, _, rfl, ?_⟩
  cases ns with
  | nil => exact iteT ⟨_, rfl, _, _, rfl, rfl, mulOk_r (by decide) (by decide), q _ _ s2⟩
  | cons n0 nr =>
    refine iteF ?_
    have hpos : (0 : Int) < (((n0 :: nr).map V.int).length : Nat) := by rw [List.length_map, List.length_cons]; omega
    refine ⟨_, rfl, _, rfl, _, rfl, _, _, rfl, .inl ⟨_, s2.seq hS, rfl⟩, _, _, rfl, rfl, hpos, .inl ⟨a, _, _, _, rfl, rfl, s2.seq hS, cell_at (n0 :: nr) k (by simp), _, rfl, _, rfl, _, _, rfl, .inl ⟨_, s2.seq hS, rfl⟩, _, _, rfl, rfl, ⟨hpos, ?_⟩, _, _, rfl, rfl, mulOk_r (by decide) (by decide), _, _, rfl, rfl, q _ _ s2⟩⟩
    rw [hlen]; omega


theorem sc__law_rounds : FnScope ["_law_script", "_law_most", "_law_k"] ["_law_script", "_law_most"] (defScope s__law_rounds) := ⟨rfl, rfl, rfl, by decide +kernel, rfl, by decide +kernel, by decide +kernel⟩
theorem ok__law_rounds (T : Txt K mg) : FnOk P w K mg base (L2N.CX P w) 2 (He.ga K "_law_rounds") (fdOf K ("_law_rounds", none)) ["_law_script", "_law_most"] (spRounds K) := by
  refine fun_okN T.F__law_rounds sc__law_rounds (fun vs H Q E h => ?_) (fun cdv A outer s H vs Q E hr h => ?_)
  · obtain ⟨a, ns, m, rfl, _⟩ := h
    rfl
  obtain ⟨a, ns, m, rfl, hS, hl, hm1, hm2, q⟩ := h
  have cx : Ctx (cxOf (L2N.CX P w) P w K mg base ["_law_script", "_law_most", "_law_k"] "_law_rounds" (defScope s__law_rounds) (He.ga K "_law_rounds") cdv A outer s H E) (fun c d _ H => E c d H) 1 := ⟨L2N.takes_of rfl rfl rfl rfl, passes_of rfl, rfl, sc__law_rounds.nd, hr⟩
  refine ⟨_, pss_one (ps_ret (pe_lc (own := [("_law_k", 2)]) (g := gName 2) (tt := tYes) rfl sc__law_rounds.nd (pi_range1 (by rfl) T.b_range (pa_cons (pe_callB (call_max2 rfl) (by rfl) T.b_max (by decide +kernel) (pa_cons pe_int (pa_cons (pe_callB (call_min2 rfl) (by rfl) T.b_min (by decide +kernel) (pa_cons (pv 1) (pa_cons (pe_callB call_len (by rfl) T.b_len boot_len (pa_cons (pv 0) pa_nil)) pa_nil))) pa_nil))) pa_nil))
    (blkOk_by (N := ["_law_script", "_law_most", "_law_k"]) (sc := defScope s__law_rounds) (by decide +kernel)) (fun _ _ _ _ _ => pg_name (i := 2) sc__law_rounds.nd rfl (Or.inl rfl)) (fun _ _ _ _ _ => pts_nil)
    (fun s' H' C cl fp => pe_lst (pa_cons (pe_callS (ok__law_cell T) cx.room (by rfl) T.m__law_cell T.k__law_cell T.B__law_cell (L2N.passAt (W := fun _ _ _ _ => False) takes0N) (pa_cons (pv 0) (pa_cons (pv 2) pa_nil))) (pa_cons pe_int pa_nil))))), ?_⟩
  have hlen : (ns.map V.int).length = ns.length := List.length_map ..
  refine ⟨_, rfl, _, rfl, _, _, rfl, .inl ⟨_, hS, rfl⟩, _, _, rfl, _, _, rfl, _, rfl, ?_, ?_, fun D hD => lc_range (fun i H' => ∃ zs : List Addr, zs.length = i ∧ zs.Nodup ∧ D ∉ zs ∧ Same H H' ∧ H' D = some (.lst (zs.map V.ref)) ∧ ∀ z ∈ zs, IsDice H' z) ?_ ?_ ?_⟩
  · rw [hlen]; split <;> (try split) <;> omega
  · rw [hlen]; split <;> (try split) <;> omega
  · exact ⟨[], rfl, List.nodup_nil, (fun h => nomatch h), fun b o e => by rw [upd_ne (fun z => by rw [z, hD] at e; cases e)]; exact e, upd_same, fun z h => nomatch h⟩
  · rintro i H' hi ⟨zs, hzl, hnd, hDz, sm, hp, hz⟩
    have hi63 : i < 63 := by
      rw [hlen] at hi
      split at hi <;> (try split at hi) <;> omega
    refine ⟨rfl, ?_⟩
    unfold tYes
    dsimp only
    rw [if_pos rfl]
    refine ⟨_, rfl, _, rfl, a, ns, _, rfl, sm.seq hS, hl, by omega, fun c H5 s5 => ⟨by show 2 ≤ sizeLine; decide, fun z hz0 => ⟨zs.map V.ref, ?_, ?_, ?_⟩⟩⟩
    · rw [upd_ne (fun q => by have := s5 _ _ hp; rw [q, hz0] at this; cases this)]; exact s5 _ _ hp
    · rw [List.length_map, hzl]; exact small1000 (by omega)
    · have nz : z ∉ zs := fun h => by
        obtain ⟨x, y, e⟩ := hz z h
        have := s5 _ _ e; rw [hz0] at this; cases this
      have nD : z ≠ D := fun q => by have := s5 _ _ hp; rw [← q, hz0] at this; cases this
      refine ⟨zs ++ [z], by rw [List.length_append, hzl]; rfl, ?_, ?_, ?_, ?_, ?_⟩
      · exact List.nodup_append.mpr ⟨hnd, List.nodup_cons.mpr ⟨(fun h => nomatch h), List.nodup_nil⟩, fun x hx y hy => by rw [List.mem_singleton] at hy; rw [hy]; exact fun q => nz (q ▸ hx)⟩
      · intro h
        rcases List.mem_append.mp h with h | h
        · exact hDz h
        · rw [List.mem_singleton] at h; exact nD h.symm
      · intro b o e
        rw [upd_ne (fun q => by rw [q, hD] at e; cases e), upd_ne (fun q => by have := s5 _ _ (sm _ _ e); rw [q, hz0] at this; cases this)]
        exact s5 _ _ (sm _ _ e)
      · rw [upd_same, List.map_append]; rfl
      · intro y hy
        rcases List.mem_append.mp hy with hy | hy
        · obtain ⟨u, v, e⟩ := hz y hy
          refine ⟨u, v, ?_⟩
          rw [upd_ne (fun q : y = D => hDz (by rw [← q]; exact hy)), upd_ne (fun q : y = z => nz (by rw [← q]; exact hy))]
          exact s5 _ _ e
        · rw [List.mem_singleton] at hy
          subst hy
          exact ⟨_, _, by rw [upd_ne nD, upd_same]⟩
  · rintro H' ⟨zs, hzl, hnd, hDz, sm, hp, hz⟩
    refine q D zs H' hD hDz hnd ?_ sm hp hz
    rw [hzl, hlen]
    split <;> (try split) <;> omega


theorem sc__law_word : FnScope ["_law_e", "_law_flags", "_law_words", "_law_flag"] ["_law_e"] (defScope s__law_word) := ⟨rfl, rfl, rfl, by decide +kernel, rfl, by decide +kernel, by decide +kernel⟩
theorem ok__law_word (T : Txt K mg) : FnHp P w K mg base (L2N.CX P w) 1 (He.ga K "_law_word") (fdOf K ("_law_word", none)) ["_law_e"] (spWord K) := by
  refine fun_okHp (k := 0) T.F__law_word sc__law_word (fun p vs H Q E h => by obtain ⟨i, nm, d, rfl, _⟩ := h; rfl) (fun cdv A outer s H vs Q E p hot hr h => ?_)
  obtain ⟨i, nm, d, rfl, hi, hz, hd, q⟩ := h
  have hc : L2H.HotC (L2H.cxH (L2N.CX P w) P w K mg base ["_law_e", "_law_flags", "_law_words", "_law_flag"] "_law_word" (defScope s__law_word) (He.ga K "_law_word") cdv A outer s H E p) := ⟨p, hot, List.mem_singleton.mpr rfl⟩
  have isx := call_isX (X := L2H.cxH (L2N.CX P w) P w K mg base ["_law_e", "_law_flags", "_law_words", "_law_flag"] "_law_word" (defScope s__law_word) (He.ga K "_law_word") cdv A outer s H E p) (a := p.1) (oe := p.2) (d := d) (T.tc.ex i nm hi) (List.mem_singleton.mpr rfl) hz ⟨_, hot.2.choose_spec.1⟩
  refine ⟨_, (pss_cons (ps_set (i := 1) sc__law_word.nd rfl (Or.inl rfl) (pe_lst (pa_cons (pe_callB isx (by rfl) T.b_isinstance (by decide +kernel) (pa_cons (pv 0) (pa_cons (pe_glob (by rfl) T.m_BadRows (v := .ref (He.ga K "BadRows")) rfl) pa_nil))) (pa_cons (pe_callB isx (by rfl) T.b_isinstance (by decide +kernel) (pa_cons (pv 0) (pa_cons (pe_glob (by rfl) T.m_BadRest (v := .ref (He.ga K "BadRest")) rfl) pa_nil))) (pa_cons (pe_callB isx (by rfl) T.b_isinstance (by decide +kernel) (pa_cons (pv 0) (pa_cons (pe_glob (by rfl) T.m_BadText (v := .ref (He.ga K "BadText")) rfl) pa_nil))) (pa_cons (pe_callB isx (by rfl) T.b_isinstance (by decide +kernel) (pa_cons (pv 0) (pa_cons (pe_glob (by rfl) T.m_Unled (v := .ref (He.ga K "Unled")) rfl) pa_nil))) pa_nil))))))
    (pss_cons (ps_set (i := 1) sc__law_word.nd rfl (Or.inl rfl) (pe_op op_cat (pv 1) (pe_lst (pa_cons (pe_callB isx (by rfl) T.b_isinstance (by decide +kernel) (pa_cons (pv 0) (pa_cons (pe_glob (by rfl) T.m_BadRule (v := .ref (He.ga K "BadRule")) rfl) pa_nil))) (pa_cons (pe_callB isx (by rfl) T.b_isinstance (by decide +kernel) (pa_cons (pv 0) (pa_cons (pe_glob (by rfl) T.m_BadName (v := .ref (He.ga K "BadName")) rfl) pa_nil))) (pa_cons (pe_callB isx (by rfl) T.b_isinstance (by decide +kernel) (pa_cons (pv 0) (pa_cons (pe_glob (by rfl) T.m_BadNumber (v := .ref (He.ga K "BadNumber")) rfl) pa_nil))) pa_nil))))))
    (pss_cons (ps_set (i := 1) sc__law_word.nd rfl (Or.inl rfl) (pe_op op_cat (pv 1) (pe_lst (pa_cons (pe_callB isx (by rfl) T.b_isinstance (by decide +kernel) (pa_cons (pv 0) (pa_cons (pe_glob (by rfl) T.m_Unlike (v := .ref (He.ga K "Unlike")) rfl) pa_nil))) pa_nil))))
    (pss_cons (ps_set (i := 1) sc__law_word.nd rfl (Or.inl rfl) (pe_op op_cat (pv 1) (pe_lst (pa_cons (pe_callB isx (by rfl) T.b_isinstance (by decide +kernel) (pa_cons (pv 0) (pa_cons (pe_glob (by rfl) T.m_BadPairs (v := .ref (He.ga K "BadPairs")) rfl) pa_nil))) (pa_cons (pe_callB isx (by rfl) T.b_isinstance (by decide +kernel) (pa_cons (pv 0) (pa_cons (pe_glob (by rfl) T.m_Never (v := .ref (He.ga K "Never")) rfl) pa_nil))) (pa_cons (pe_callB isx (by rfl) T.b_isinstance (by decide +kernel) (pa_cons (pv 0) (pa_cons (pe_glob (by rfl) T.m_Nothing (v := .ref (He.ga K "Nothing")) rfl) pa_nil))) pa_nil))))))
    (pss_cons (ps_set (i := 2) sc__law_word.nd rfl (Or.inl rfl) (pe_lst (pa_cons pe_str (pa_cons pe_str (pa_cons pe_str (pa_cons pe_str (pa_cons pe_str (pa_cons pe_str (pa_cons pe_str pa_nil)))))))))
    (pss_cons (ps_set (i := 2) sc__law_word.nd rfl (Or.inl rfl) (pe_op op_cat (pv 2) (pe_lst (pa_cons pe_str (pa_cons pe_str pa_nil)))))
    (pss_cons (ps_if (pw_or (pt_cmpR op_ne (pe_callB (cr_sumH hc) (by rfl) T.b_sum (by decide +kernel) (pa_cons (pe_lcH (own := [("_law_flag", 3)]) (g := gName 3) hc rfl sc__law_word.nd (pv 1) (blkOk_by (N := ["_law_e", "_law_flags", "_law_words", "_law_flag"]) (sc := defScope s__law_word) (by decide +kernel)) (fun _ _ _ _ _ => pg_name (i := 3) sc__law_word.nd rfl (Or.inl rfl)) (fun _ _ _ _ _ => pe_callTy call_int1 (by rfl) T.b_int (by decide +kernel) (pa_cons (pv 3) pa_nil))) pa_nil)) pe_int (nomark _)) (pw_or1 (pt_not (pt_val (pe_callB isx (by rfl) T.b_isinstance (by decide +kernel) (pa_cons (pv 0) (pa_cons (pe_bltn (by rfl) T.b_ValueError (by decide +kernel) (v := .ty "ValueError") rfl) pa_nil))))))).pt (pss_one (ps_ret (pe_tup (pa_cons pe_str (pa_cons pe_str pa_nil))))) pss_nil)
    (pss_one (ps_ret (pe_tup (pa_cons pe_str (pa_cons (pe_ix ix_seq (pe_op op_cat (pv 2) (pe_lst (pa_cons pe_str (pa_cons pe_str pa_nil)))) (pe_bm PySem.F.plainAttrs_list PySem.F.slot_list_index PySem.F.type_list_index mt_index (pv 1) (pa_cons pe_bl pa_nil)) fun _ _ => rfl) pa_nil)))))))))))), ?_⟩
  have k := fun (j : Nat) (y : Str) (ej : excN[j]? = some y) => T.tc.kit i j nm y hi ej
  have hlt : i < 11 := (List.getElem?_eq_some_iff.mp hi).1
  have hdS : ∀ {H' : Hp}, Same H H' → ∀ dd, d = some dd → ∃ fs, H' dd = some (.xd fs) := fun s dd e => by
    have ⟨fs, z⟩ := hd dd e
    exact ⟨fs, s _ _ z⟩
  refine ⟨_, rfl, _, _, _, rfl, fun _ h => h, k 0 _ rfl, hd, _, rfl, _, _, _, rfl, fun _ h => h, k 1 _ rfl, hd, _, rfl, _, _, _, rfl, fun _ h => h, k 2 _ rfl, hd, _, rfl, _, _, _, rfl, fun _ h => h, k 3 _ rfl, hd, (by show 4 ≤ sizeLine; decide), fun p1 h1 => ?_⟩
  have s1 := same_new (o := .lst [V.bl (decide (i = 0)), .bl (decide (i = 1)), .bl (decide (i = 2)), .bl (decide (i = 3))]) h1
  have a1 : upd H p1 (.lst [V.bl (decide (i = 0)), .bl (decide (i = 1)), .bl (decide (i = 2)), .bl (decide (i = 3))]) p1 = _ := upd_same
  generalize upd H p1 (.lst [V.bl (decide (i = 0)), .bl (decide (i = 1)), .bl (decide (i = 2)), .bl (decide (i = 3))]) = H1 at s1 a1 ⊢
  have d1 := hdS s1
  refine ⟨_, rfl, _, rfl, _, _, _, rfl, fun _ h => h, k 4 _ rfl, d1, _, rfl, _, _, _, rfl, fun _ h => h, k 5 _ rfl, d1, _, rfl, _, _, _, rfl, fun _ h => h, k 6 _ rfl, d1, (by show 3 ≤ sizeLine; decide), fun p2 h2 => ?_⟩
  have s2 := same_new (o := .lst [V.bl (decide (i = 4)), .bl (decide (i = 5)), .bl (decide (i = 6))]) h2
  have a2 : upd H1 p2 (.lst [V.bl (decide (i = 4)), .bl (decide (i = 5)), .bl (decide (i = 6))]) p2 = _ := upd_same
  generalize upd H1 p2 (.lst [V.bl (decide (i = 4)), .bl (decide (i = 5)), .bl (decide (i = 6))]) = H2 at s2 a2 ⊢
  refine ⟨p1, p2, _, _, rfl, rfl, s2 _ _ a1, a2, (by show 4 + 3 ≤ sizeLine; decide), fun p3 h3 => ?_⟩
  have s3 := same_new (o := .lst ([V.bl (decide (i = 0)), .bl (decide (i = 1)), .bl (decide (i = 2)), .bl (decide (i = 3))] ++ [V.bl (decide (i = 4)), .bl (decide (i = 5)), .bl (decide (i = 6))])) h3
  have a3 : upd H2 p3 (.lst ([V.bl (decide (i = 0)), .bl (decide (i = 1)), .bl (decide (i = 2)), .bl (decide (i = 3))] ++ [V.bl (decide (i = 4)), .bl (decide (i = 5)), .bl (decide (i = 6))])) p3 = _ := upd_same
  generalize upd H2 p3 (.lst ([V.bl (decide (i = 0)), .bl (decide (i = 1)), .bl (decide (i = 2)), .bl (decide (i = 3))] ++ [V.bl (decide (i = 4)), .bl (decide (i = 5)), .bl (decide (i = 6))])) = H3 at s3 a3 ⊢
  have d3 := hdS ((s1.trans s2).trans s3)
  refine ⟨_, rfl, _, rfl, _, _, _, rfl, fun _ h => h, k 7 _ rfl, d3, (by show 1 ≤ sizeLine; decide), fun p4 h4 => ?_⟩
  have s4 := same_new (o := .lst ([V.bl (decide (i = 7))])) h4
  have a4 : upd H3 p4 (.lst ([V.bl (decide (i = 7))])) p4 = _ := upd_same
  generalize upd H3 p4 (.lst ([V.bl (decide (i = 7))])) = H4 at s4 a4 ⊢
  refine ⟨p3, p4, _, _, rfl, rfl, s4 _ _ a3, a4, (by show 7 + 1 ≤ sizeLine; decide), fun p5 h5 => ?_⟩
  have s5 := same_new (o := .lst ([V.bl (decide (i = 0)), .bl (decide (i = 1)), .bl (decide (i = 2)), .bl (decide (i = 3))] ++ [V.bl (decide (i = 4)), .bl (decide (i = 5)), .bl (decide (i = 6))] ++ [V.bl (decide (i = 7))])) h5
  have a5 : upd H4 p5 (.lst ([V.bl (decide (i = 0)), .bl (decide (i = 1)), .bl (decide (i = 2)), .bl (decide (i = 3))] ++ [V.bl (decide (i = 4)), .bl (decide (i = 5)), .bl (decide (i = 6))] ++ [V.bl (decide (i = 7))])) p5 = _ := upd_same
  generalize upd H4 p5 (.lst ([V.bl (decide (i = 0)), .bl (decide (i = 1)), .bl (decide (i = 2)), .bl (decide (i = 3))] ++ [V.bl (decide (i = 4)), .bl (decide (i = 5)), .bl (decide (i = 6))] ++ [V.bl (decide (i = 7))])) = H5 at s5 a5 ⊢
  have d5 := hdS ((((s1.trans s2).trans s3).trans s4).trans s5)
  refine ⟨_, rfl, _, rfl, _, _, _, rfl, fun _ h => h, k 8 _ rfl, d5, _, rfl, _, _, _, rfl, fun _ h => h, k 9 _ rfl, d5, _, rfl, _, _, _, rfl, fun _ h => h, k 10 _ rfl, d5, (by show 3 ≤ sizeLine; decide), fun p6 h6 => ?_⟩
  have s6 := same_new (o := .lst ([V.bl (decide (i = 8)), .bl (decide (i = 9)), .bl (decide (i = 10))])) h6
  have a6 : upd H5 p6 (.lst ([V.bl (decide (i = 8)), .bl (decide (i = 9)), .bl (decide (i = 10))])) p6 = _ := upd_same
  generalize upd H5 p6 (.lst ([V.bl (decide (i = 8)), .bl (decide (i = 9)), .bl (decide (i = 10))])) = H6 at s6 a6 ⊢
  refine ⟨p5, p6, _, _, rfl, rfl, s6 _ _ a5, a6, (by show 8 + 3 ≤ sizeLine; decide), fun p7 h7 => ?_⟩
  have s7 := same_new (o := .lst ([V.bl (decide (i = 0)), .bl (decide (i = 1)), .bl (decide (i = 2)), .bl (decide (i = 3))] ++ [V.bl (decide (i = 4)), .bl (decide (i = 5)), .bl (decide (i = 6))] ++ [V.bl (decide (i = 7))] ++ [V.bl (decide (i = 8)), .bl (decide (i = 9)), .bl (decide (i = 10))])) h7
  have a7 : upd H6 p7 (.lst ([V.bl (decide (i = 0)), .bl (decide (i = 1)), .bl (decide (i = 2)), .bl (decide (i = 3))] ++ [V.bl (decide (i = 4)), .bl (decide (i = 5)), .bl (decide (i = 6))] ++ [V.bl (decide (i = 7))] ++ [V.bl (decide (i = 8)), .bl (decide (i = 9)), .bl (decide (i = 10))])) p7 = _ := upd_same
  generalize upd H6 p7 (.lst ([V.bl (decide (i = 0)), .bl (decide (i = 1)), .bl (decide (i = 2)), .bl (decide (i = 3))] ++ [V.bl (decide (i = 4)), .bl (decide (i = 5)), .bl (decide (i = 6))] ++ [V.bl (decide (i = 7))] ++ [V.bl (decide (i = 8)), .bl (decide (i = 9)), .bl (decide (i = 10))])) = H7 at s7 a7 ⊢
  have a7 : H7 p7 = some (.lst ((isTrueAt i).map V.bl)) := a7
  refine ⟨(by show 7 ≤ sizeLine; decide), fun p8 h8 => ?_⟩
  have s8 := same_new (o := .lst ([V.str "BadRows", .str "BadRest", .str "BadText", .str "Unled", .str "BadRule", .str "BadName", .str "BadNumber"])) h8
  have a8 : upd H7 p8 (.lst ([V.str "BadRows", .str "BadRest", .str "BadText", .str "Unled", .str "BadRule", .str "BadName", .str "BadNumber"])) p8 = _ := upd_same
  generalize upd H7 p8 (.lst ([V.str "BadRows", .str "BadRest", .str "BadText", .str "Unled", .str "BadRule", .str "BadName", .str "BadNumber"])) = H8 at s8 a8 ⊢
  refine ⟨_, rfl, (by show 2 ≤ sizeLine; decide), fun p9 h9 => ?_⟩
  have s9 := same_new (o := .lst ([V.str "Unlike", .str "BadPairs"])) h9
  have a9 : upd H8 p9 (.lst ([V.str "Unlike", .str "BadPairs"])) p9 = _ := upd_same
  generalize upd H8 p9 (.lst ([V.str "Unlike", .str "BadPairs"])) = H9 at s9 a9 ⊢
  refine ⟨p8, p9, _, _, rfl, rfl, s9 _ _ a8, a9, (by show 7 + 2 ≤ sizeLine; decide), fun p10 h10 => ?_⟩
  have s10 := same_new (o := .lst ([V.str "BadRows", .str "BadRest", .str "BadText", .str "Unled", .str "BadRule", .str "BadName", .str "BadNumber"] ++ [V.str "Unlike", .str "BadPairs"])) h10
  have a10 : upd H9 p10 (.lst ([V.str "BadRows", .str "BadRest", .str "BadText", .str "Unled", .str "BadRule", .str "BadName", .str "BadNumber"] ++ [V.str "Unlike", .str "BadPairs"])) p10 = _ := upd_same
  generalize upd H9 p10 (.lst ([V.str "BadRows", .str "BadRest", .str "BadText", .str "Unled", .str "BadRule", .str "BadName", .str "BadNumber"] ++ [V.str "Unlike", .str "BadPairs"])) = H10 at s10 a10 ⊢
  have a7' := s10 _ _ (s9 _ _ (s8 _ _ a7))
  have S10 := (((((((((s1.trans s2).trans s3).trans s4).trans s5).trans s6).trans s7).trans s8).trans s9).trans s10)
  have wds : H10 p10 = some (.lst (([V.str "BadRows", .str "BadRest", .str "BadText", .str "Unled", .str "BadRule", .str "BadName", .str "BadNumber"] ++ [V.str "Unlike", .str "BadPairs"] : List V))) := a10
  have dS := hdS S10
  refine ⟨_, rfl, p7, (isTrueAt i).map V.bl, rfl, SqL.of a7', fun D hD => ⟨fun m H' => Same H10 H' ∧ H' D = some (.lst (((isTrueAt i).take m).map fun b => V.int (if b = true then 1 else 0))), ⟨same_new hD, upd_same⟩, fun j H' h => SqL.of (h.1 _ _ a7'), ?_, ?_⟩⟩
  · rintro j x H' hx ⟨sm, hD'⟩
    rw [List.getElem?_map] at hx
    cases hb : (isTrueAt i)[j]? with
    | none => rw [hb] at hx; cases hx
    | some b =>
      rw [hb] at hx
      cases hx
      have hj : j < 11 := (List.getElem?_eq_some_iff.mp hb).1
      refine ⟨rfl, _, rfl, .inr ⟨b, rfl, _, hD', ?_, ?_, ?_⟩⟩
      · rw [List.length_map, List.length_take]
        exact Nat.lt_of_le_of_lt (Nat.min_le_left _ _) (Nat.lt_of_lt_of_le hj (by decide))
      · exact fun a o e => by rw [upd_ne (ne_of_none e hD)]; exact sm _ _ e
      · rw [upd_same, List.take_succ, hb, List.map_append]
        rfl
  · rintro H11 ⟨sm, hD'⟩
    have e11 : ((isTrueAt i).take ((isTrueAt i).map V.bl).length) = isTrueAt i := by rw [List.length_map, List.take_length]
    rw [e11] at hD'
    have hsum : ((isTrueAt i).map fun b => (if b = true then (1 : Int) else 0)).sum = 1 := flags_sum hlt
    have hl : (isTrueAt i).map (fun b => V.int (if b = true then 1 else 0)) = ((isTrueAt i).map fun b => (if b = true then (1 : Int) else 0)).map V.int := by rw [List.map_map]; rfl
    rw [hl] at hD'
    have dS' := hdS (S10.trans sm)
    refine ⟨D, _, rfl, SqL.of hD', ?_⟩
    rw [hsum]
    refine ⟨rfl, _, rfl, ?_⟩
    refine iteF ?_
    refine ⟨_, rfl, _, _, _, rfl, fun _ h => h, T.tc.ve i nm hi, dS', _, rfl, ?_⟩
    refine iteF ?_
    refine ⟨_, rfl, (by show 2 ≤ sizeLine; decide), fun q2 hq2 => ?_⟩
    have sq := same_new (o := .lst [V.str "Never", .str "Nothing"]) hq2
    have aq : upd H11 q2 (.lst [V.str "Never", .str "Nothing"]) q2 = _ := upd_same
    generalize upd H11 q2 (.lst [V.str "Never", .str "Nothing"]) = H12 at sq aq ⊢
    refine ⟨p10, q2, _, _, rfl, rfl, sq _ _ (sm _ _ wds), aq, (by show 9 + 2 ≤ sizeLine; decide), fun q3 hq3 => ?_⟩
    have sr := same_new (o := .lst (([V.str "BadRows", .str "BadRest", .str "BadText", .str "Unled", .str "BadRule", .str "BadName", .str "BadNumber"] ++ [V.str "Unlike", .str "BadPairs"]) ++ [V.str "Never", .str "Nothing"])) hq3
    have ar : upd H12 q3 (.lst (([V.str "BadRows", .str "BadRest", .str "BadText", .str "Unled", .str "BadRule", .str "BadName", .str "BadNumber"] ++ [V.str "Unlike", .str "BadPairs"]) ++ [V.str "Never", .str "Nothing"])) q3 = _ := upd_same
    generalize upd H12 q3 (.lst (([V.str "BadRows", .str "BadRest", .str "BadText", .str "Unled", .str "BadRule", .str "BadName", .str "BadNumber"] ++ [V.str "Unlike", .str "BadPairs"]) ++ [V.str "Never", .str "Nothing"])) = H13 at sr ar ⊢
    have a7q := sr _ _ (sq _ _ (sm _ _ a7'))
    have an : atI (([V.str "BadRows", .str "BadRest", .str "BadText", .str "Unled", .str "BadRule", .str "BadName", .str "BadNumber"] ++ [V.str "Unlike", .str "BadPairs"]) ++ [V.str "Never", .str "Nothing"]) (i : Nat) = some (.str nm) := by
      have e : ([V.str "BadRows", .str "BadRest", .str "BadText", .str "Unled", .str "BadRule", .str "BadName", .str "BadNumber"] ++ [V.str "Unlike", .str "BadPairs"]) ++ [V.str "Never", .str "Nothing"] = excN.map V.str := rfl
      rw [e]
      refine atI_nat ?_
      rw [List.getElem?_map, hi]
      rfl
    refine ⟨_, rfl, .inl ⟨rfl, _, SqL.of a7q⟩, p7, _, .bl true, i, .bl true, rfl, rfl, SqL.of a7q, rfl, ?_, flags_at hlt, rfl, fun m z hm e => flags_ne hlt hm e, .inl ⟨q3, _, i, _, rfl, rfl, SqL.of ar, an, (by show 2 ≤ sizeLine; decide), fun t ht => ?_⟩⟩
    · rw [List.all_map]
      exact List.all_eq_true.mpr fun _ _ => rfl
    · exact q _ t ((((S10.trans sm).trans sq).trans sr).trans (same_new ht)) (by
        cases z : H t with
        | none => rfl
        | some o => have := (((S10.trans sm).trans sq).trans sr) _ _ z; rw [ht] at this; cases this) upd_same


theorem sc__law_told : FnScope toldN ["_law_deed"] (defScope s__law_told) := ⟨rfl, rfl, rfl, by decide +kernel, rfl, by decide +kernel, by decide +kernel⟩
theorem told_ok1 (T : Txt K mg) : ToldOk P w K mg base (He.ga K "_law_told") := by
  have ⟨oc, od, kV, doc, pm, an, cdv, ct, osl, e, lk, hcd⟩ := T.F__law_told.ex
  have hb := T.B__law_told
  rw [e] at hb lk
  refine ⟨oc, od, _, _, _, kV, doc, pm, an, cdv, ct, osl, _, _, _, _, _, _, lk, hcd, hb, sc__law_told, (Or.inl (by decide +kernel)), by decide +kernel, fun A outer s H hr => ?_⟩
  have word := ok__law_word (P := P) (w := w) (base := base) T
  unfold toldL
  refine .cons ⟨by rfl, by decide, .inl T.m_BadRows⟩ (fun a oe cls d pn hz hf => PSs.conseq (t' := tsF K "BadRows" "at" a cls d) (pss_one (ps_ret (pe_op op_catA (pe_callHp (p := (a, oe)) word ⟨hr.dp, hr.un⟩ ⟨rfl, hf.choose, hf.choose_spec, hz.2.2 _ hf.choose_spec⟩ List.mem_cons_self (by rfl) T.m__law_word T.k__law_word T.B__law_word (fun σ => L2N.passAt (W := fun _ _ _ _ => False) takes0N σ) (pa_cons (pv 1) pa_nil))
    (pe_tup (pa_cons (pe_xf (T.tc.xf 0 "BadRows" "at" rfl rfl).1 (T.tc.xf 0 "BadRows" "at" rfl rfl).2 hz.zc hf (pv 1)) pa_nil))))) fun D σ H2 ⟨i, hi, hc, hs, dd, v, hd, hH, q⟩ =>
      ⟨_, hs, i, "BadRows", d, rfl, hi, (by rw [← hc]; exact hz.zc), (fun dd' e => by rw [hd] at e; cases e; exact ⟨_, hH⟩), fun H' t s1 n1 e1 => ⟨_, hs, rfl, hc, dd, _, v, hd, s1 _ _ hH, rfl, (by show 1 ≤ sizeLine; decide), fun p hp =>
        ⟨t, p, _, _, rfl, rfl, SqT.of (same_new hp _ _ e1), SqT.of upd_same, (by show 2 + 1 ≤ sizeLine; decide), (fun z => nomatch z), (fun _ z => nomatch z), fun _ _ r hr => q _ r ((s1.trans (same_new hp)).trans (same_new hr)) (by
          cases z : H2 r with
          | none => rfl
          | some o => have := (s1.trans (same_new (o := .tup [v]) hp)) _ _ z; rw [hr] at this; cases this) upd_same⟩⟩⟩) ?_
  refine .cons ⟨by rfl, by decide, .inl T.m_BadRest⟩ (fun a oe cls d pn hz hf => PSs.conseq (t' := tsF K "BadRest" "bits" a cls d) (pss_one (ps_ret (pe_op op_catA (pe_callHp (p := (a, oe)) word ⟨hr.dp, hr.un⟩ ⟨rfl, hf.choose, hf.choose_spec, hz.2.2 _ hf.choose_spec⟩ List.mem_cons_self (by rfl) T.m__law_word T.k__law_word T.B__law_word (fun σ => L2N.passAt (W := fun _ _ _ _ => False) takes0N σ) (pa_cons (pv 1) pa_nil))
    (pe_tup (pa_cons (pe_xf (T.tc.xf 1 "BadRest" "bits" rfl rfl).1 (T.tc.xf 1 "BadRest" "bits" rfl rfl).2 hz.zc hf (pv 1)) pa_nil))))) fun D σ H2 ⟨i, hi, hc, hs, dd, v, hd, hH, q⟩ =>
      ⟨_, hs, i, "BadRest", d, rfl, hi, (by rw [← hc]; exact hz.zc), (fun dd' e => by rw [hd] at e; cases e; exact ⟨_, hH⟩), fun H' t s1 n1 e1 => ⟨_, hs, rfl, hc, dd, _, v, hd, s1 _ _ hH, rfl, (by show 1 ≤ sizeLine; decide), fun p hp =>
        ⟨t, p, _, _, rfl, rfl, SqT.of (same_new hp _ _ e1), SqT.of upd_same, (by show 2 + 1 ≤ sizeLine; decide), (fun z => nomatch z), (fun _ z => nomatch z), fun _ _ r hr => q _ r ((s1.trans (same_new hp)).trans (same_new hr)) (by
          cases z : H2 r with
          | none => rfl
          | some o => have := (s1.trans (same_new (o := .tup [v]) hp)) _ _ z; rw [hr] at this; cases this) upd_same⟩⟩⟩) ?_
  refine .cons ⟨by rfl, by decide, .inl T.m_BadText⟩ (fun a oe cls d pn hz hf => PSs.conseq (t' := tsF K "BadText" "at" a cls d) (pss_one (ps_ret (pe_op op_catA (pe_callHp (p := (a, oe)) word ⟨hr.dp, hr.un⟩ ⟨rfl, hf.choose, hf.choose_spec, hz.2.2 _ hf.choose_spec⟩ List.mem_cons_self (by rfl) T.m__law_word T.k__law_word T.B__law_word (fun σ => L2N.passAt (W := fun _ _ _ _ => False) takes0N σ) (pa_cons (pv 1) pa_nil))
    (pe_tup (pa_cons (pe_xf (T.tc.xf 2 "BadText" "at" rfl rfl).1 (T.tc.xf 2 "BadText" "at" rfl rfl).2 hz.zc hf (pv 1)) pa_nil))))) fun D σ H2 ⟨i, hi, hc, hs, dd, v, hd, hH, q⟩ =>
      ⟨_, hs, i, "BadText", d, rfl, hi, (by rw [← hc]; exact hz.zc), (fun dd' e => by rw [hd] at e; cases e; exact ⟨_, hH⟩), fun H' t s1 n1 e1 => ⟨_, hs, rfl, hc, dd, _, v, hd, s1 _ _ hH, rfl, (by show 1 ≤ sizeLine; decide), fun p hp =>
        ⟨t, p, _, _, rfl, rfl, SqT.of (same_new hp _ _ e1), SqT.of upd_same, (by show 2 + 1 ≤ sizeLine; decide), (fun z => nomatch z), (fun _ z => nomatch z), fun _ _ r hr => q _ r ((s1.trans (same_new hp)).trans (same_new hr)) (by
          cases z : H2 r with
          | none => rfl
          | some o => have := (s1.trans (same_new (o := .tup [v]) hp)) _ _ z; rw [hr] at this; cases this) upd_same⟩⟩⟩) ?_
  refine .cons ⟨by rfl, by decide, .inl T.m_Unled⟩ (fun a oe cls d pn hz hf => PSs.conseq (t' := tsF K "Unled" "name" a cls d) (pss_one (ps_ret (pe_op op_catA (pe_callHp (p := (a, oe)) word ⟨hr.dp, hr.un⟩ ⟨rfl, hf.choose, hf.choose_spec, hz.2.2 _ hf.choose_spec⟩ List.mem_cons_self (by rfl) T.m__law_word T.k__law_word T.B__law_word (fun σ => L2N.passAt (W := fun _ _ _ _ => False) takes0N σ) (pa_cons (pv 1) pa_nil))
    (pe_tup (pa_cons (pe_xf (T.tc.xf 3 "Unled" "name" rfl rfl).1 (T.tc.xf 3 "Unled" "name" rfl rfl).2 hz.zc hf (pv 1)) pa_nil))))) fun D σ H2 ⟨i, hi, hc, hs, dd, v, hd, hH, q⟩ =>
      ⟨_, hs, i, "Unled", d, rfl, hi, (by rw [← hc]; exact hz.zc), (fun dd' e => by rw [hd] at e; cases e; exact ⟨_, hH⟩), fun H' t s1 n1 e1 => ⟨_, hs, rfl, hc, dd, _, v, hd, s1 _ _ hH, rfl, (by show 1 ≤ sizeLine; decide), fun p hp =>
        ⟨t, p, _, _, rfl, rfl, SqT.of (same_new hp _ _ e1), SqT.of upd_same, (by show 2 + 1 ≤ sizeLine; decide), (fun z => nomatch z), (fun _ z => nomatch z), fun _ _ r hr => q _ r ((s1.trans (same_new hp)).trans (same_new hr)) (by
          cases z : H2 r with
          | none => rfl
          | some o => have := (s1.trans (same_new (o := .tup [v]) hp)) _ _ z; rw [hr] at this; cases this) upd_same⟩⟩⟩) ?_
  refine .cons ⟨by rfl, by decide, .inl T.m_MarkError⟩ (fun a oe cls d pn hz hf => PSs.conseq (t' := tsM K a cls d) (pss_one (ps_ret (pe_callHp (p := (a, oe)) word ⟨hr.dp, hr.un⟩ ⟨rfl, hf.choose, hf.choose_spec, hz.2.2 _ hf.choose_spec⟩ List.mem_cons_self (by rfl) T.m__law_word T.k__law_word T.B__law_word (fun σ => L2N.passAt (W := fun _ _ _ _ => False) takes0N σ) (pa_cons (pv 1) pa_nil)))) fun D σ H2 ⟨i, x, hi, hc, hs, hd, q⟩ =>
      ⟨_, hs, i, x, d, rfl, hi, (by rw [← hc]; exact hz.zc), (fun dd' e => by rw [hd] at e; cases e), fun H' t s1 n1 e1 => q _ t s1 n1 e1⟩) ?_
  exact .nil


theorem sc__law_lines : FnScope ["_law_dice", "_law_most", "_law_at", "_law_words", "_law_found", "_law_due", "_law_high", "_law_kind", "_law_thing", "_law_number", "_law_name", "_law_more", "_law_turn"] ["_law_dice", "_law_most"] (defScope s__law_lines) := ⟨rfl, rfl, rfl, by decide +kernel, rfl, by decide +kernel, by decide +kernel⟩
theorem ok__law_lines (T : Txt K mg) : FnOk P w K mg base (L2N.CX P w) 3 (He.ga K "_law_lines") (fdOf K ("_law_lines", none)) ["_law_dice", "_law_most"] (spZ K 1 (m__law_lines (cl K))) :=
  fn_okZ T.F__law_lines sc__law_lines rfl (fun _ _ _ _ _ _ _ z g0 cx => by have hd := HasDice.dice z; exact (dss_cons (ds_parT3 (w1 := .im) (w2 := .own) (w3 := .own) g0 cx (pg_name cx.nd rfl (by first | exact Or.inl rfl | exact Or.inr rfl)) (pg_name cx.nd rfl (by first | exact Or.inl rfl | exact Or.inr rfl)) (pg_name cx.nd rfl (by first | exact Or.inl rfl | exact Or.inr rfl)) (dn_lst (af_cons df_str (af_cons df_str (af_cons df_str (af_cons df_str (af_cons df_str (af_cons df_str (af_cons df_str (af_cons df_str (af_cons df_str (af_cons df_str af_nil))))))))))).toF (dn_lst af_nil) (dn_lst af_nil)) (dss_cons (ds_for g0 cx (is_range1 (by rfl) T.b_range (ab_cons ((df_add (df_int).toB ((df_callZ (ok__law_roll T) hd (cx.mono (by decide)) (by rfl) T.m__law_roll T.k__law_roll T.B__law_roll (pv 0) (af_cons (df_var 1 (pv 1)) af_nil))).toB)).toB ab_nil)) (fun _ _ => (tg_name (pg_name cx.nd rfl (by first | exact Or.inl rfl | exact Or.inr rfl)))) (fun _ _ g0 => (dss_cons (ds_set 6 g0 cx rfl (by first | exact Or.inl rfl | exact Or.inr rfl) (df_maxDef cx (by rfl) T.b_max ((dn_lc (own := [("_law_name", 10), ("_law_number", 9)]) cx (ie_seq (db_var 5 (pv 5))) (by first | decide +kernel | kernel_rfl) (fun _ _ _ _ _ cx => (dg_tup cx.calm (dgs_cons (dg_name (pg_name cx.nd rfl (by first | exact Or.inl rfl | exact Or.inr rfl)) (by decide)) (dgs_cons (dg_name (pg_name cx.nd rfl (by first | exact Or.inl rfl | exact Or.inr rfl)) (by decide)) dgs_nil)))) (fun _ _ _ _ _ cx => dts_nil) (fun _ _ _ _ _ cx => (df_var 9 (pv 9))))).toB (df_int).toB)) (dss_cons (ds_set 7 g0 cx rfl (by first | exact Or.inl rfl | exact Or.inr rfl) (df_callZ (ok__law_roll T) hd (cx.mono (by decide)) (by rfl) T.m__law_roll T.k__law_roll T.B__law_roll (pv 0) (af_cons df_int af_nil))) (dss_cons (ds_parT (w1 := .im) (w2 := .im) g0 cx (pg_name cx.nd rfl (by first | exact Or.inl rfl | exact Or.inr rfl)) (pg_name cx.nd rfl (by first | exact Or.inl rfl | exact Or.inr rfl)) df_non df_int) (dss_cons (ds_while g0 cx (dt_le ((df_var 9 (pv 9))).toB ((df_var 6 (pv 6))).toB) (dss_one (ds_set 9 g0 cx rfl (by first | exact Or.inl rfl | exact Or.inr rfl) (df_mul ((df_var 9 (pv 9))).toB (df_int).toB)))) (dss_cons (ds_if g0 ((dw_or (dt_eq ((df_var 7 (pv 7))).toB (df_int).toB cx.room) (dw_or1 (dt_ge ((df_var 9 (pv 9))).toB ((df_pow (df_int).toB (df_int).toB)).toB)))).t (dss_cons (ds_set 8 g0 cx rfl (by first | exact Or.inl rfl | exact Or.inr rfl) (df_item ((dn_lst (af_cons (df_shl (df_int).toB ((df_callZ (ok__law_roll T) hd (cx.mono (by decide)) (by rfl) T.m__law_roll T.k__law_roll T.B__law_roll (pv 0) (af_cons df_int af_nil))).toB) (af_cons (df_callZ (ok__law_roll T) hd (cx.mono (by decide)) (by rfl) T.m__law_roll T.k__law_roll T.B__law_roll (pv 0) (af_cons df_int af_nil)) (af_cons (df_shl (df_int).toB ((df_callZ (ok__law_roll T) hd (cx.mono (by decide)) (by rfl) T.m__law_roll T.k__law_roll T.B__law_roll (pv 0) (af_cons df_int af_nil))).toB) (af_cons df_int af_nil)))))).toB ((df_callZ (ok__law_roll T) hd (cx.mono (by decide)) (by rfl) T.m__law_roll T.k__law_roll T.B__law_roll (pv 0) (af_cons df_int af_nil))).toB (fun _ _ => rfl))) (dss_one (ds_set 9 g0 cx rfl (by first | exact Or.inl rfl | exact Or.inr rfl) (df_var 8 (pv 8))))) dss_nil) (dss_cons (ds_if g0 ((dw_and (dt_gt ((df_var 7 (pv 7))).toB (df_int).toB) (dw_and1 (dt_ne (db_var 5 (pv 5)) ((dn_lst af_nil)).toB cx.room)))).t (dss_cons (ds_set 8 g0 cx rfl (by first | exact Or.inl rfl | exact Or.inr rfl) (df_tuple (ab_cons ((dn_lc (own := [("_law_turn", 12)]) cx (is_range1 (by rfl) T.b_range (ab_cons ((df_add (df_int).toB ((df_callZ (ok__law_roll T) hd (cx.mono (by decide)) (by rfl) T.m__law_roll T.k__law_roll T.B__law_roll (pv 0) (af_cons df_int af_nil))).toB)).toB ab_nil)).toE (by first | decide +kernel | kernel_rfl) (fun _ _ _ _ _ cx => (dg_name (pg_name cx.nd rfl (by first | exact Or.inl rfl | exact Or.inr rfl)) (by decide))) (fun _ _ _ _ _ cx => dts_nil) (fun _ _ _ _ _ cx => (df_item ((df_item (db_var 5 (pv 5)) ((df_callZ (ok__law_roll T) hd (cx.mono (by decide)) (by rfl) T.m__law_roll T.k__law_roll T.B__law_roll (pv 0) (af_cons (df_len (ab_cons (db_var 5 (pv 5)) ab_nil) (by rfl) T.b_len) af_nil))).toB (fun _ _ => rfl))).toB (df_int).toB (fun _ _ => rfl))))).toB ab_nil) (by rfl) T.b_tuple)) (dss_cons (ds_set 9 g0 cx rfl (by first | exact Or.inl rfl | exact Or.inr rfl) df_int) (dss_one (ds_forPin 5 1 g0 cx (pv 5) (fun _ _ _ => (tg_tup cx.calm (tgs_cons (tg_name (pg_name cx.nd rfl (by first | exact Or.inl rfl | exact Or.inr rfl))) (tgs_cons (tg_name (pg_name cx.nd rfl (by first | exact Or.inl rfl | exact Or.inr rfl))) tgs_nil)))) (fun _ _ _ _ g0 => (dss_one (ds_set 9 g0 cx rfl (by first | exact Or.inl rfl | exact Or.inr rfl) (df_or ((df_var 9 (pv 9))).toB ((df_ifExp (dt_in ((df_var 10 (pv 10))).toB ((df_var 8 (pv 8))).toB rfl) (df_var 11 (pv 11)) df_int)).toB)))))))) dss_nil) (dss_cons (ds_append (apos := ⟨0, 0, 0, 0⟩) (cpos := ⟨0, 0, 0, 0⟩) 4 g0 (pv 4) (df_tup (af_cons (df_item ((df_var 3 (pv 3))).toB ((df_var 2 (pv 2))).toB (fun _ _ => rfl)) (af_cons (df_var 8 (pv 8)) af_nil))) (fun _ _ ho he => ps_expr (pe_bm PySem.F.plainAttrs_list PySem.F.slot_list_append PySem.F.type_list_append mt_append ho (pa_cons he pa_nil)))) (dss_one (ds_append (apos := ⟨0, 0, 0, 0⟩) (cpos := ⟨0, 0, 0, 0⟩) 5 g0 (pv 5) (df_tup (af_cons (df_item ((df_var 3 (pv 3))).toB ((df_var 2 (pv 2))).toB (fun _ _ => rfl)) (af_cons (df_var 9 (pv 9)) af_nil))) (fun _ _ ho he => ps_expr (pe_bm PySem.F.plainAttrs_list PySem.F.slot_list_append PySem.F.type_list_append mt_append ho (pa_cons he pa_nil)))))))))))))) (dss_frz 4 (dss_frz 5 (dss_one (ds_ret g0 (df_tup (af_cons (df_var 4 (pv 4)) (af_cons (df_var 5 (pv 5)) af_nil))))))))))

theorem sc__law_bits_of : FnScope ["_law_number", "_law_at"] ["_law_number"] (defScope s__law_bits_of) := ⟨rfl, rfl, rfl, by decide +kernel, rfl, by decide +kernel, by decide +kernel⟩
theorem ok__law_bits_of (T : Txt K mg) : FnOk P w K mg base (L2N.CX P w) 1 (He.ga K "_law_bits_of") (fdOf K ("_law_bits_of", none)) ["_law_number"] (spD vol0 K 1 (m__law_bits_of (cl K))) :=
  fn_ok T.F__law_bits_of sc__law_bits_of (fun _ _ _ _ _ _ _ g0 cx => (dss_one (ds_ret g0 (dn_lc (own := [("_law_at", 1)]) cx (is_range1 (by rfl) T.b_range (ab_cons (df_int).toB ab_nil)).toE (by first | decide +kernel | kernel_rfl) (fun _ _ _ _ _ cx => (dg_name (pg_name cx.nd rfl (by first | exact Or.inl rfl | exact Or.inr rfl)) (by decide))) (fun _ _ _ _ _ cx => (dts_one (dt_eq ((df_and ((df_shr ((df_var 0 (pv 0))).toB ((df_var 1 (pv 1))).toB)).toB (df_int).toB)).toB (df_int).toB cx.room))) (fun _ _ _ _ _ cx => (df_shl (df_int).toB ((df_var 1 (pv 1))).toB))).toF)))

theorem sc__law_table_of : FnScope ["_law_due", "_law_marks", "_law_known", "_law_firsts", "_law_name", "_law_number"] ["_law_due"] (defScope s__law_table_of) := ⟨rfl, rfl, rfl, by decide +kernel, rfl, by decide +kernel, by decide +kernel⟩
theorem ok__law_table_of (T : Txt K mg) : FnOk P w K mg base (L2N.CX P w) 2 (He.ga K "_law_table_of") (fdOf K ("_law_table_of", none)) ["_law_due"] (spD vol0 K 1 (m__law_table_of (cl K))) :=
  fn_ok T.F__law_table_of sc__law_table_of (fun _ _ _ _ _ _ _ g0 cx => (dss_cons (ds_parT (w1 := .im) (w2 := .own) g0 cx (pg_name cx.nd rfl (by first | exact Or.inl rfl | exact Or.inr rfl)) (pg_name cx.nd rfl (by first | exact Or.inl rfl | exact Or.inr rfl)) df_int dn_dct) (dss_cons (ds_for g0 cx (is_seq (df_var 0 (pv 0))) (fun _ _ => (tg_tup cx.calm (tgs_cons (tg_name (pg_name cx.nd rfl (by first | exact Or.inl rfl | exact Or.inr rfl))) (tgs_cons (tg_name (pg_name cx.nd rfl (by first | exact Or.inl rfl | exact Or.inr rfl))) tgs_nil)))) (fun _ _ g0 => (dss_cons (ds_set 2 g0 cx rfl (by first | exact Or.inl rfl | exact Or.inr rfl) (df_or ((df_var 2 (pv 2))).toB ((df_var 5 (pv 5))).toB)) (dss_one (ds_if g0 (dt_notInDct cx.room ((df_var 5 (pv 5))).toB (db_var 3 (pv 3)) rfl) (dss_one (ds_put 3 g0 cx (pv 3) (df_var 5 (pv 5)) (df_var 4 (pv 4)))) dss_nil))))) (dss_cons (ds_setLc (own := [("_law_number", 5)]) 1 g0 cx rfl rfl (by first | exact sw_true rfl rfl rfl (by decide +kernel) | fail) (ie_seq ((df_sorted cx (by rfl) T.b_sorted (ab_cons (db_var 3 (pv 3)) ab_nil))).toB) (by first | decide +kernel | kernel_rfl) (fun _ _ _ _ _ cx => (dg_name (pg_name cx.nd rfl (by first | exact Or.inl rfl | exact Or.inr rfl)) (by decide))) (fun _ _ _ _ _ cx => (dts_one (dt_eq ((df_len (ab_cons ((df_call (ok__law_bits_of T) (VLe.zero _) (cx.mono (by decide)) (by rfl) T.m__law_bits_of T.k__law_bits_of T.B__law_bits_of (af_cons (df_var 5 (pv 5)) af_nil))).toB ab_nil) (by rfl) T.b_len)).toB (df_int).toB cx.room))) (fun _ _ _ _ _ cx => (df_tup (af_cons (df_dget cx.room (db_var 3 (pv 3)) ((df_var 5 (pv 5))).toB (fun _ _ => rfl)) (af_cons (df_var 5 (pv 5)) af_nil))))) (dss_frz 3 (dss_one (ds_ret g0 (dn_disp (dps_cons (key := .inr "known") pe_str (df_var 2 (pv 2)) (dps_cons (key := .inr "firsts") pe_str (df_var 3 (pv 3)) (dps_cons (key := .inr "marks") pe_str (df_var 1 (pv 1)) (dps_cons (key := .inr "bits") pe_str (df_sum (ab_cons ((dn_lc (own := [("_law_name", 4), ("_law_number", 5)]) cx (ie_seq ((df_var 1 (pv 1))).toB) (by first | decide +kernel | kernel_rfl) (fun _ _ _ _ _ cx => (dg_tup cx.calm (dgs_cons (dg_name (pg_name cx.nd rfl (by first | exact Or.inl rfl | exact Or.inr rfl)) (by decide)) (dgs_cons (dg_name (pg_name cx.nd rfl (by first | exact Or.inl rfl | exact Or.inr rfl)) (by decide)) dgs_nil)))) (fun _ _ _ _ _ cx => dts_nil) (fun _ _ _ _ _ cx => (df_var 5 (pv 5))))).toB ab_nil) cx (by rfl) T.b_sum) dps_nil))))).toF)))))))

end
end DL

namespace DL
open PySem PySem.Spec L2

section
variable {P : Program} {w : World} {K : PySem.W.Frag} {mg : Str → Option Value} {base : Heap}
theorem sc_law : FnScope ["_law_script", "_law_dice", "_law_way", "_law_bad", "_law_rows", "_law_due", "_law_strange", "_law_found", "_law_kind", "_law_table"] ["_law_script"] (defScope s_law) := ⟨rfl, rfl, rfl, by decide +kernel, rfl, by decide +kernel, by decide +kernel⟩
abbrev lawQ : Str := "law" ++ ".<locals>." ++ "<lambda>"
theorem ok_law (T : Txt K mg) (TB : LamX.TabB base mg (He.cT K ("law", none)).1 (He.cT K ("law", none)).2) (hm : (m_law_body (cl K) (rho0 10 1 0)).run LawOk (fun _ => False)) : FnOk P w K mg base CX0 7 (He.ga K "law") (fdOf K ("law", none)) ["_law_script"] (spLawT K (He.cT K ("law", none)).2 lawQ) := by
  refine fun_okC (p := ("law", none)) T.F_law sc_law (fun vs H Q E h => ?_) (fun cdv A outer s H vs Q E ec hr h => ?_)
  · obtain ⟨a, ns, rfl, _⟩ := h
    rfl
  subst ec
  obtain ⟨a, ns, rfl, hS, hl, hT, q⟩ := h
  have cx : Ctx (cxOf CX0 P w K mg base ["_law_script", "_law_dice", "_law_way", "_law_bad", "_law_rows", "_law_due", "_law_strange", "_law_found", "_law_kind", "_law_table"] "law" (defScope s_law) (He.ga K "law") (.ref (He.codeOf K ("law", none))) A outer s H E).nox (fun _ _ _ _ => False) 6 := ⟨takes0N, PassesOwn.never, rfl, sc_law.nd, hr⟩
  refine ⟨_, pss_cons (ps_for PassesOwn.never rfl (pi_list (pe_callS (ok__law_rounds T) (cx.room.mono (by decide)) (by rfl) T.m__law_rounds T.k__law_rounds T.B__law_rounds (fun σ => L2N.passAt cx.tk σ) (pa_cons (pv 0) (pa_cons pe_int pa_nil)))) (pg_name (i := 1) sc_law.nd rfl (by first | exact Or.inl rfl | exact Or.inr rfl))
    (pss_anyT (P := (He.cT K ("law", none)).2) (q := lawQ) (W := fun _ _ _ _ => False) (n := 10) (i := 1) (g := m_law_body (cl K)) rfl (fun z F0 H0 g0 => by have hd := HasDice.volT z (He.cT K ("law", none)).2 lawQ; have ht := HasTab.volT z (He.cT K ("law", none)).2 lawQ; exact (dss_cons (ds_tup g0 (df_callZ (ok__law_lines T) hd (cx.mono (by decide)) (by rfl) T.m__law_lines T.k__law_lines T.B__law_lines (pv 1) (af_cons df_int af_nil)) (tg_tup cx.calm (tgs_cons (tg_name (pg_name cx.nd rfl (by first | exact Or.inl rfl | exact Or.inr rfl))) (tgs_cons (tg_name (pg_name cx.nd rfl (by first | exact Or.inl rfl | exact Or.inr rfl))) tgs_nil)))) (dss_cons (ds_for g0 cx (is_seq (dn_lst (af_cons df_str (af_cons df_str (af_cons df_str (af_cons df_str af_nil))))).toF) (fun _ _ => (tg_name (pg_name cx.nd rfl (by first | exact Or.inl rfl | exact Or.inr rfl)))) (fun _ _ g0 => (dss_cons (ds_parT (w1 := .im) (w2 := .im) g0 cx (pg_name cx.nd rfl (by first | exact Or.inl rfl | exact Or.inr rfl)) (pg_name cx.nd rfl (by first | exact Or.inl rfl | exact Or.inr rfl)) (df_makeK T.M_Kind (ok_Kind___init__ T) cx (by decide) (by rfl) T.m_Kind (T.KB_Kind).choose_spec (fun _ _ => rfl) (af_cons (df_var 4 (pv 4)) af_nil) (df_var 2 (pv 2))) (df_call (ok__law_table_of T) (VLe.zero _) (cx.mono (by decide)) (by rfl) T.m__law_table_of T.k__law_table_of T.B__law_table_of (af_cons (df_var 5 (pv 5)) af_nil))) (dss_cons (ds_for g0 cx (is_seq (dn_lst (af_cons (df_neg (df_int).toB) (af_cons (df_pow (df_int).toB (df_int).toB) (af_cons df_bl (af_cons df_non (af_cons df_str (af_cons (df_tup (af_cons df_int af_nil)) (af_cons (df_pow (df_int).toB (df_int).toB) af_nil)))))))).toF) (fun _ _ => (tg_name (pg_name cx.nd rfl (by first | exact Or.inl rfl | exact Or.inr rfl)))) (fun _ _ g0 => (dss_one (ds_if g0 (dt_ne ((df_told (k := 3) (told_ok1 T) T.tc T.clok (cx.mono (by decide)) ht (by rfl) T.m__law_told T.k__law_told TB rfl (by first | rfl | kernel_rfl) (by rfl) (fun _ _ _ _ _ => by rfl) (fun _ _ _ _ _ _ _ cx => (df_make T.M_Value (ok_Value___init__ T) cx (by decide) (by rfl) T.m_Value T.B_Value___init__ (af_cons (df_var 8 (pv 8)) (af_cons (df_var 3 (pv 3)) af_nil)))))).toB ((df_tup (af_cons df_str (af_cons df_str af_nil)))).toB cx.room) (dss_one (ds_ret g0 df_bl)) dss_nil)))) (dss_cons (ds_for g0 cx (is_seq (dn_lst (af_cons (df_sub ((df_neg ((df_pow (df_int).toB (df_int).toB)).toB)).toB (df_int).toB) (af_cons (df_pow (df_int).toB (df_int).toB) (af_cons df_bl (af_cons df_non (af_cons df_str (af_cons (df_tup (af_cons df_int af_nil)) af_nil))))))).toF) (fun _ _ => (tg_name (pg_name cx.nd rfl (by first | exact Or.inl rfl | exact Or.inr rfl)))) (fun _ _ g0 => (dss_one (ds_if g0 (dt_ne ((df_told (k := 4) (told_ok1 T) T.tc T.clok (cx.mono (by decide)) ht (by rfl) T.m__law_told T.k__law_told TB rfl (by first | rfl | kernel_rfl) (by rfl) (fun _ _ _ _ _ => by rfl) (fun _ _ _ _ _ _ _ cx => (df_call (ok_made T) (VLe.zero _) (cx.mono (by decide)) (by rfl) T.m_made T.k_made T.B_made (af_cons (df_var 8 (pv 8)) (af_cons (df_var 3 (pv 3)) af_nil)))))).toB ((df_tup (af_cons df_str (af_cons df_str af_nil)))).toB cx.room) (dss_one (ds_ret g0 df_bl)) dss_nil)))) (dss_cons (ds_set 6 g0 cx rfl (by first | exact Or.inl rfl | exact Or.inr rfl) (df_add ((df_shl (df_int).toB ((df_add (df_int).toB ((df_callZ (ok__law_roll T) hd (cx.mono (by decide)) (by rfl) T.m__law_roll T.k__law_roll T.B__law_roll (pv 1) (af_cons df_int af_nil))).toB)).toB)).toB ((df_and ((df_callZ (ok__law_roll T) hd (cx.mono (by decide)) (by rfl) T.m__law_roll T.k__law_roll T.B__law_roll (pv 1) (af_cons (df_pow (df_int).toB (df_int).toB) af_nil))).toB ((df_dget cx.room ((df_var 9 (pv 9))).toB (df_str).toB (fun _ _ => rfl))).toB)).toB)) (dss_cons (ds_set 7 g0 cx rfl (by first | exact Or.inl rfl | exact Or.inr rfl) (df_told (k := 3) (told_ok1 T) T.tc T.clok (cx.mono (by decide)) ht (by rfl) T.m__law_told T.k__law_told TB rfl (by first | rfl | kernel_rfl) (by rfl) (fun _ _ _ _ _ => by rfl) (fun _ _ _ _ _ _ _ cx => (df_make T.M_Value (ok_Value___init__ T) cx (by decide) (by rfl) T.m_Value T.B_Value___init__ (af_cons (df_var 8 (pv 8)) (af_cons (df_var 6 (pv 6)) af_nil)))))) (dss_cons (ds_if g0 (dt_ne ((df_eqG (ok_Value___eq__ T) cx (by decide) T.q_Value T.B_Value___eq__ (df_var 7 (pv 7)) (df_tup (af_cons df_str (af_cons df_str af_nil))))).toB ((df_ne ((df_var 2 (pv 2))).toB (df_str).toB cx.room)).toB cx.room) (dss_one (ds_ret g0 df_bl)) dss_nil) (dss_cons (ds_if g0 (dt_ne ((df_meth0 (ok_Value_number T) (VLe.zero _) (cx.mono (by decide)) T.c_Value T.t_Value_number T.B_Value_number (df_make T.M_Value (ok_Value___init__ T) cx (by decide) (by rfl) T.m_Value T.B_Value___init__ (af_cons (df_var 8 (pv 8)) (af_cons (df_dget cx.room ((df_var 9 (pv 9))).toB (df_str).toB (fun _ _ => rfl)) af_nil))))).toB ((df_dget cx.room ((df_var 9 (pv 9))).toB (df_str).toB (fun _ _ => rfl))).toB cx.room) (dss_one (ds_ret g0 df_bl)) dss_nil) (dss_one (ds_if g0 ((dw_and (dt_eq ((df_var 2 (pv 2))).toB (df_str).toB cx.room) (dw_and1 ((dw_or (dt_ne ((df_meth0 (ok_Value_number T) (VLe.zero _) (cx.mono (by decide)) T.c_Value T.t_Value_number T.B_Value_number (df_var 7 (pv 7)))).toB ((df_var 6 (pv 6))).toB cx.room) (dw_or1 (dt_ne ((df_meth0 (ok_Value_number T) (VLe.zero _) (cx.mono (by decide)) T.c_Value T.t_Value_number T.B_Value_number (df_call (ok_made T) (VLe.zero _) (cx.mono (by decide)) (by rfl) T.m_made T.k_made T.B_made (af_cons (df_var 8 (pv 8)) (af_cons (df_sub ((df_pow (df_int).toB (df_int).toB)).toB (df_int).toB) af_nil))))).toB ((df_sub ((df_pow (df_int).toB (df_int).toB)).toB (df_int).toB)).toB cx.room)))).t))).t (dss_one (ds_ret g0 df_bl)) dss_nil))))))))))) (dss_one (ds_for g0 cx (is_seq (dn_lst (af_cons df_non (af_cons df_int (af_cons df_str (af_cons df_str (af_cons (dn_lst (af_cons df_non af_nil)).toF (af_cons (dn_lst (af_cons df_str (af_cons df_str af_nil))).toF (af_cons (df_tup (af_cons df_str af_nil)) (af_cons (dn_lst (af_cons (df_tup (af_cons df_str af_nil)) af_nil)).toF (af_cons (dn_lst (af_cons df_str (af_cons df_str af_nil))).toF af_nil)))))))))).toF) (fun _ _ => (tg_name (pg_name cx.nd rfl (by first | exact Or.inl rfl | exact Or.inr rfl)))) (fun _ _ g0 => (dss_one (ds_if g0 (dt_ne ((df_told (k := 4) (told_ok1 T) T.tc T.clok (cx.mono (by decide)) ht (by rfl) T.m__law_told T.k__law_told TB rfl (by first | rfl | kernel_rfl) (by rfl) (fun _ _ _ _ _ => by rfl) (fun _ _ _ _ _ _ _ cx => (df_call (ok_value_of T) (VLe.zero _) (cx.mono (by decide)) (by rfl) T.m_value_of T.k_value_of T.B_value_of (af_cons (df_var 8 (pv 8)) (af_cons (df_var 3 (pv 3)) af_nil)))))).toB ((df_tup (af_cons df_str (af_cons df_str af_nil)))).toB cx.room) (dss_one (ds_ret g0 df_bl)) dss_nil)))))))))) (pss_one (ps_ret pe_bl)), ?_⟩
  refine ⟨_, rfl, a, ns, 4, rfl, hS, hl, by decide, by decide, fun p zs H1 hp hnp hnd hzl s1 hp1 hz => ⟨p, rfl, ⟨_, .inl (.inl hp1)⟩, law_turnsT hnp hp1 hz (hT.ext s1) hm fun _ _ => q _⟩⟩


end
abbrev R9 : PySem.W.OpenRow := PySem.W.OpenLaw.row PySem.Challenge.rw_markworks_k21_values_refused
abbrev hk9 : PySem.W.Hook := hookL 5 fa fn [("law", none)] exB
def ob9 (s : PySem.W.SharedT) : He.AlD × Bool := obsL 5 fa fn [("law", none)] exB (HandSHeadRun.getT s)
theorem ob9_eq (s : PySem.W.SharedT) : ob9 s = hk9.obs s.abs := obsL_eq (HandSHeadRun.getT_eq s)
theorem run9 (w : World) : HandSHeadRun.RunEq R9 (PySem.W.view R9.prog [43]) hk9 ob9 12000 ((["_wall", "MarkError", "BadRows", "BadRest", "BadText", "Unled", "BadRule", "BadName", "BadNumber", "Unlike", "BadPairs", "Never", "Nothing", "CAPITAL", "MOST_ROWS", "GREATEST", "RULES", "is_number", "is_word", "is_bit"] : List Str) ++ (["next_bit", "number_by", "read_rows", "Kind", "FARTHEST", "Value", "without_bits", "made", "number_of", "value_of", "_law_cell", "_law_drawn", "_law_roll", "_law_rounds", "_law_word", "_law_told", "_law_bits_of", "_law_lines", "_law_table_of"] : List Str)) w := by
  intro os
  kernel_rfl
theorem facts9 {l : PySem.W.OpenLaw} {w : World} {K : PySem.W.Frag} {h : Heap} {mg : Str → Option Value} {f : Addr} (X : K.In h) (G : h.Ns mainGlobals mg) (hfa : mg ("law" : Str) = some (.ref f)) (c : SaysL fa fn [("law", none)] exB h K)
    (hm : ∀ A : Cl, DistA A → (m_law_body A (rho0 10 1 0)).run LawOk (fun _ => False)) : LamX.LawAtS l w K CX0 7 63 "_law_script" mg f h := by
  have T : Txt K mg := ⟨⟨c.c, c.e, h, X, G⟩⟩
  have e := hfa.symm.trans T.m_law
  cases e
  have b := FunD.bindsA (ps := ["_law_script"]) T.D_law fun _ _ _ _ _ _ us hl => match us, hl with | [_], _ => rfl
  refine ⟨_, [He.cT K ("law", none)], _, fun p hp => ?_, fun p hp => ?_, fun p hp => ?_, fun s v => b s [v] rfl, fun H a ns hl _ hT hS => ⟨a, ns, rfl, hS, hl, LamX.TabS.nil (hT _ List.mem_cons_self), fun _ => rfl⟩, fun base _ _ hTB => ok_law T (hTB _ List.mem_cons_self) (hm _ (T.tc.dist T.clok))⟩
  · rw [List.mem_singleton.mp hp]; exact c.empty _ List.mem_cons_self
  · rw [List.mem_singleton.mp hp]; exact c.out _ List.mem_cons_self
  · rw [List.mem_singleton.mp hp]; exact PySem.W.codeHd_of_K X (c.hd _ List.mem_cons_self)
end DL

open PySem PySem.W PySem.Calls PyProof.Rows
set_option maxRecDepth 100000 in
set_option maxHeartbeats 0 in
theorem PySem.Challenge.cw_markworks_k21_values_refused_holds : PySem.Challenge.rw_markworks_k21_values_refused.Holds := by
  w_on; o_law
  refine HandSHeadRun.head_any (r := OpenLaw.row PySem.Challenge.rw_markworks_k21_values_refused) (q := view (OpenLaw.row PySem.Challenge.rw_markworks_k21_values_refused).prog [43]) (H := DL.hk9) (ob := DL.ob9) (M := 12000) (loose := ((["_wall", "MarkError", "BadRows", "BadRest", "BadText", "Unled", "BadRule", "BadName", "BadNumber", "Unlike", "BadPairs", "Never", "Nothing", "CAPITAL", "MOST_ROWS", "GREATEST", "RULES", "is_number", "is_word", "is_bit"] : List Str) ++ (["next_bit", "number_by", "read_rows", "Kind", "FARTHEST", "Value", "without_bits", "made", "number_of", "value_of", "_law_cell", "_law_drawn", "_law_roll", "_law_rounds", "_law_word", "_law_told", "_law_bits_of", "_law_lines", "_law_table_of"] : List Str))) (d := HandSHeadRun.topDef (OpenLaw.row PySem.Challenge.rw_markworks_k21_values_refused).prog 43) (kwd := []) DL.ob9_eq
    (by kernel_rfl) (fun s => by kernel_rfl) DL.run9 (by kernel_rfl) (by kernel_rfl) (by kernel_rfl) (by rfl) (by first | assumption | decide +kernel) (by decide +kernel) ⟨rfl, rfl, rfl, rfl, rfl, by decide +kernel⟩ ?hw ?hc
  case hw => w_witness2
  case hc =>
    refine LamX.walk_ofTsE (l := PySem.Challenge.rw_markworks_k21_values_refused) (n := 63) (k := 7) (x := "_law_script") (CX := fun _ => L2.CX0) rfl (by decide) (by kernel_rfl) ⟨rfl, by decide, by decide⟩ ?F (fun _ _ _ _ _ z => z)
    intro w mg fa h Y G hmg0
    obtain ⟨K, KX, c⟩ := Y
    have hmg : mg ("law" : PySem.Str) = some (.ref fa) := by
      have e : (HandSHeadRun.topDef (OpenLaw.row PySem.Challenge.rw_markworks_k21_values_refused).prog 43).name = ("law" : PySem.Str) := by kernel_rfl
      rw [← e]
      exact hmg0
    exact ⟨K, KX, DL.facts9 KX G hmg c DL.law_math⟩

