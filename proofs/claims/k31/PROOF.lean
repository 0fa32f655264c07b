import PyProof.Rows.All
import HandS.ForMost
import HandS.ForExc
import HandS.Walk
import HandS.IsInst
import HandS.ExcValue
import HandS.ExcInit
import HandS.ExcIs
import HandS.ExcField
import KE.KExcIs
import HandS.Wide
import HandS.TupAny
import HandS.TupMul
import HandS.TupLe
import HandS.Style
import HandS.Conv
import HandS.StrMore
import HandS.SortInts
import HandS.Rev
import HandS.RevRange
import HandS.Zip
import HandS.More
import HandS.TupSets
import KE.SortData
import HandS.Replace
import PyProof.Rows.FactsN_abs
import HandS.SetFor
import KE.GoesMore
import KE.GoesEnum
import PyProof.ReprRoads
import PyProof.ReprText
import PyProof.ReprLen
import PyProof.ListStr
import HandS.SetTxt0
import PySem.Challenge.RW_touchpin_k31_rows_too_long
set_option Elab.async false
set_option linter.all false
set_option maxRecDepth 100000

namespace PyD
open PySem PySem.Spec L2

/-- the program's classes of refusals -/
inductive XN where
  | pin | many | noturned | norow | round | missed | notext
  deriving DecidableEq
def XN.nm : XN → Str
  | .pin => "PinError"
  | .many => "TooMany"
  | .noturned => "NoTurned"
  | .norow => "NoRow"
  | .round => "GoesRound"
  | .missed => "Missed"
  | .notext => "NoText"
/-- data, as one sees it -/
inductive D where
  | non | bl (b : Bool) | int (i : Int) | str (s : Str)
  | tup (ds : List D) | lst (ds : List D) | dic (kvs : List (Key × D)) | obj (C : Addr) (fs : List (Str × D)) | scr (ns : List Int) | exn (C : XN) (fs : List (Str × D))

/-- a list of the written part -/
def KLst (K : PySem.W.Frag) (a : Addr) (xs : List V) : Prop :=
  ∃ (o : Obj) (its : Array Value) (n : Nat), K.lookup a = some o ∧ o.cls = .type "list" ∧ o.dict = none ∧ o.data = .seq its n ∧ its.size ≤ sizeLine ∧ Vals xs its.toList

/-- a caught thing of the class c, its dict at od -/
def exT (a : Addr) (c : Value) (od : Option Addr) : HO := .ext fun h => ∃ (o : Obj) (vs : Array Value), h.get? a = some o ∧ Zc c od o ∧ o.data = .fields vs
/-- the class of that name -/
def ClsN (K : PySem.W.Frag) (n : XN) (c : Value) : Prop := PySem.W.nsIn K mainGlobals n.nm = some (some c) ∧ ∃ C, c = .ref C
/-- its dict's row -/
def XdAt (U : Addr → Prop) (H : Hp) (od : Option Addr) (ws : List (Str × V)) : Prop := (ws = [] ∧ od = none) ∨ ∃ dx, od = some dx ∧ ¬ U dx ∧ H dx = some (.xd ws)
section
variable (K : PySem.W.Frag)
mutual
/-- v is d, by no address of U -/
def Rep (U : Addr → Prop) (H : Hp) : D → V → Prop
  | .non, v => v = .non
  | .bl b, v => v = .bl b
  | .int i, v => v = .int i
  | .str s, v => v = .str s
  | .tup ds, v => ∃ a vs, v = .ref a ∧ ¬ U a ∧ H a = some (.tup vs) ∧ RepL U H ds vs
  | .lst ds, v => ∃ a vs, v = .ref a ∧ ¬ U a ∧ H a = some (.lst vs) ∧ RepL U H ds vs
  | .dic kvs, v => ∃ a ws, v = .ref a ∧ ¬ U a ∧ H a = some (.dK ws) ∧ RepK U H kvs ws
  | .obj C fs, v => ∃ a dx ws, v = .ref a ∧ ¬ U a ∧ H a = some (.ins C dx ws) ∧ RepF U H fs ws
  | .scr ns, v => ∃ a, v = .ref a ∧ ((¬ U a ∧ ∃ o, H a = some (.frz o (.lst (ns.map V.int)))) ∨ KLst K a (ns.map V.int))
  | .exn C fs, v => ∃ a c od ws, v = .ref a ∧ ¬ U a ∧ H a = some (exT a c od) ∧ ClsN K C c ∧ XdAt U H od ws ∧ RepF U H fs ws
def RepL (U : Addr → Prop) (H : Hp) : List D → List V → Prop
  | [], vs => vs = []
  | d :: ds, vs => ∃ v r, vs = v :: r ∧ Rep U H d v ∧ RepL U H ds r
def RepK (U : Addr → Prop) (H : Hp) : List (Key × D) → List (Key × V) → Prop
  | [], ws => ws = []
  | (k, d) :: r, ws => ∃ v s, ws = (k, v) :: s ∧ Rep U H d v ∧ RepK U H r s
def RepF (U : Addr → Prop) (H : Hp) : List (Str × D) → List (Str × V) → Prop
  | [], ws => ws = []
  | (k, d) :: r, ws => ∃ v s, ws = (k, v) :: s ∧ Rep U H d v ∧ RepF U H r s
end
end
section
variable {K : PySem.W.Frag} {U U' : Addr → Prop} {H H' : Hp}
mutual
theorem Rep.to (h : ∀ a o, H a = some o → ¬ U a → H' a = some o ∧ ¬ U' a) : ∀ (d : D) (v : V), Rep K U H d v → Rep K U' H' d v
  | .non, v, r => by unfold Rep at r ⊢; exact r
  | .bl b, v, r => by unfold Rep at r ⊢; exact r
  | .int i, v, r => by unfold Rep at r ⊢; exact r
  | .str s, v, r => by unfold Rep at r ⊢; exact r
  | .tup ds, v, r => by
    unfold Rep at r ⊢
    obtain ⟨a, vs, e, nu, ha, q⟩ := r
    obtain ⟨ha', nu'⟩ := h a _ ha nu
    exact ⟨a, vs, e, nu', ha', RepL.to h ds vs q⟩
  | .lst ds, v, r => by
    unfold Rep at r ⊢
    obtain ⟨a, vs, e, nu, ha, q⟩ := r
    obtain ⟨ha', nu'⟩ := h a _ ha nu
    exact ⟨a, vs, e, nu', ha', RepL.to h ds vs q⟩
  | .dic kvs, v, r => by
    unfold Rep at r ⊢
    obtain ⟨a, ws, e, nu, ha, q⟩ := r
    obtain ⟨ha', nu'⟩ := h a _ ha nu
    exact ⟨a, ws, e, nu', ha', RepK.to h kvs ws q⟩
  | .obj C fs, v, r => by
    unfold Rep at r ⊢
    obtain ⟨a, dx, ws, e, nu, ha, q⟩ := r
    obtain ⟨ha', nu'⟩ := h a _ ha nu
    exact ⟨a, dx, ws, e, nu', ha', RepF.to h fs ws q⟩
  | .scr ns, v, r => by
    unfold Rep at r ⊢
    obtain ⟨a, e, c⟩ := r
    refine ⟨a, e, ?_⟩
    rcases c with ⟨nu, o, hr⟩ | c
    · obtain ⟨ha', nu'⟩ := h a _ hr nu
      exact .inl ⟨nu', o, ha'⟩
    · exact .inr c
  | .exn C fs, v, r => by
    unfold Rep at r ⊢
    obtain ⟨a, c, od, ws, e, nu, ha, hc, hx, q⟩ := r
    obtain ⟨ha', nu'⟩ := h a _ ha nu
    refine ⟨a, c, od, ws, e, nu', ha', hc, ?_, RepF.to h fs ws q⟩
    rcases hx with hx | ⟨dx, e1, n1, h1⟩
    · exact .inl hx
    · obtain ⟨h1', n1'⟩ := h dx _ h1 n1
      exact .inr ⟨dx, e1, n1', h1'⟩
theorem RepL.to (h : ∀ a o, H a = some o → ¬ U a → H' a = some o ∧ ¬ U' a) : ∀ (ds : List D) (vs : List V), RepL K U H ds vs → RepL K U' H' ds vs
  | [], vs, r => by unfold RepL at r ⊢; exact r
  | d :: ds, vs, r => by
    unfold RepL at r ⊢
    obtain ⟨v, s, e, q1, q2⟩ := r
    exact ⟨v, s, e, Rep.to h d v q1, RepL.to h ds s q2⟩
theorem RepK.to (h : ∀ a o, H a = some o → ¬ U a → H' a = some o ∧ ¬ U' a) : ∀ (ds : List (Key × D)) (vs : List (Key × V)), RepK K U H ds vs → RepK K U' H' ds vs
  | [], vs, r => by unfold RepK at r ⊢; exact r
  | (k, d) :: ds, vs, r => by
    unfold RepK at r ⊢
    obtain ⟨v, s, e, q1, q2⟩ := r
    exact ⟨v, s, e, Rep.to h d v q1, RepK.to h ds s q2⟩
theorem RepF.to (h : ∀ a o, H a = some o → ¬ U a → H' a = some o ∧ ¬ U' a) : ∀ (ds : List (Str × D)) (vs : List (Str × V)), RepF K U H ds vs → RepF K U' H' ds vs
  | [], vs, r => by unfold RepF at r ⊢; exact r
  | (k, d) :: ds, vs, r => by
    unfold RepF at r ⊢
    obtain ⟨v, s, e, q1, q2⟩ := r
    exact ⟨v, s, e, Rep.to h d v q1, RepF.to h ds s q2⟩
end
end
end PyD

namespace PyD
open PySem PySem.Spec L2

/-- a slot: nothing known, shared data, data of one's own (true: lent by the caller) -/
inductive Sl where
  | e | v (d : D) | o (b : Bool) (d : D)
abbrev En := List Sl
/-- what an expression gives: shared data, a new thing, the thing of a slot -/
inductive R where
  | sh (d : D) | fr (d : D) | sl (i : Nat)
/-- an exception: its class, its field -/
structure Ex where
  cls : XN
  fld : Option (Str × D)
inductive Res (α : Type) where
  | ok (a : α) (en : En) | exc (x : Ex) (en : En) | bad
abbrev M (α : Type) := En → Res α
/-- what a statement does -/
inductive Fl where
  | nx (en : En) | rt (r : R) (en : En) | bk (en : En) | ct (en : En) | exc (x : Ex) (en : En) | bad
/-- what a call does: gives d (new or not), the arguments' data behind it -/
inductive Out where
  | ret (fr : Bool) (d : D) (outs : List D) | exc (x : Ex) (outs : List D) | bad

def Cont (K : PySem.W.Frag) (U : Addr → Prop) (H : Hp) : D → Addr → Prop
  | .lst ds, p => ∃ vs, H p = some (.lst vs) ∧ RepL K U H ds vs
  | .dic kvs, p => ∃ ws, H p = some (.dK ws) ∧ RepK K U H kvs ws
  | .obj C fs, p => ∃ dx ws, H p = some (.ins C dx ws) ∧ RepF K U H fs ws
  | _, _ => False
def Own (σ : L2.St) (en : En) (a : Addr) : Prop := ∃ (i : Nat) (b : Bool) (d : D), en[i]? = some (.o b d) ∧ σ[i]? = some (some (.ref a))
def Un (B : Addr → Prop) (σ : L2.St) (en : En) (a : Addr) : Prop := B a ∨ Own σ en a
structure Good (K : PySem.W.Frag) (B : Addr → Prop) (H : Hp) (σ : L2.St) (en : En) : Prop where
  len : σ.length = en.length
  all : ∀ a, B a → H a ≠ none
  rep : ∀ (i : Nat) (d : D), en[i]? = some (.v d) → ∃ v, σ[i]? = some (some v) ∧ Rep K (Un B σ en) H d v
  own : ∀ (i : Nat) (b : Bool) (d : D), en[i]? = some (.o b d) → ∃ p, σ[i]? = some (some (.ref p)) ∧ ¬ B p ∧ Cont K (Un B σ en) H d p
  inj : ∀ (i j : Nat) (p : Addr) (b c : Bool) (d d' : D), en[i]? = some (.o b d) → en[j]? = some (.o c d') → σ[i]? = some (some (.ref p)) → σ[j]? = some (some (.ref p)) → i = j
/-- .. one that is not lent -/
def OwnF (σ : L2.St) (en : En) (a : Addr) : Prop := ∃ (i : Nat) (d : D), en[i]? = some (.o false d) ∧ σ[i]? = some (some (.ref a))
structure Stp (σ : L2.St) (en : En) (H : Hp) (σ' : L2.St) (en' : En) (H' : Hp) : Prop where
  len : en'.length = en.length
  fr : ∀ a o, H a = some o → ¬ Own σ en a → H' a = some o
  al : ∀ a, H a ≠ none → H' a ≠ none
  ow : ∀ a, Own σ' en' a → Own σ en a ∨ H a = none
  of : ∀ a, OwnF σ' en' a → OwnF σ en a ∨ H a = none
  pin : ∀ (i : Nat) (d : D), en[i]? = some (.o true d) → σ'[i]? = σ[i]? ∧ ∃ d', en'[i]? = some (.o true d')
  pb : ∀ (i : Nat) (d : D), en'[i]? = some (.o true d) → ∃ d', en[i]? = some (.o true d')
/-- B grows by new ones -/
structure Bx (B B' : Addr → Prop) (σ : L2.St) (en : En) (H : Hp) : Prop where
  up : ∀ a, B a → B' a
  new : ∀ a, B' a → B a ∨ H a = none ∨ Own σ en a
def Ext (H H' : Hp) : Prop := ∀ a o, H a = some o → H' a = some o

section
variable {K : PySem.W.Frag} {B B' B2 : Addr → Prop} {U U' : Addr → Prop} {H H' H2 : Hp} {σ σ' σ2 : L2.St} {en en' en2 : En} {d : D} {v : V} {p : Addr} {i : Nat}
theorem Cont.to (h : ∀ a o, H a = some o → ¬ U a → H' a = some o ∧ ¬ U' a) (hp : ∀ o, H p = some o → H' p = some o) : ∀ {d : D}, Cont K U H d p → Cont K U' H' d p
  | .lst ds, ⟨vs, a, r⟩ => ⟨vs, hp _ a, RepL.to h ds vs r⟩
  | .dic ds, ⟨vs, a, r⟩ => ⟨vs, hp _ a, RepK.to h ds vs r⟩
  | .obj C ds, ⟨dx, vs, a, r⟩ => ⟨dx, vs, hp _ a, RepF.to h ds vs r⟩
theorem Cont.at : ∀ {d : D}, Cont K U H d p → ∃ o, H p = some o
  | .lst ds, ⟨vs, a, r⟩ => ⟨_, a⟩
  | .dic ds, ⟨vs, a, r⟩ => ⟨_, a⟩
  | .obj C ds, ⟨dx, vs, a, r⟩ => ⟨_, a⟩
theorem Cont.rep (nu : ¬ U p) : ∀ {d : D}, Cont K U H d p → Rep K U H d (.ref p)
  | .lst ds, ⟨vs, a, r⟩ => by
    unfold Rep
    exact ⟨p, vs, rfl, nu, a, r⟩
  | .dic ds, ⟨vs, a, r⟩ => by
    unfold Rep
    exact ⟨p, vs, rfl, nu, a, r⟩
  | .obj C ds, ⟨dx, vs, a, r⟩ => by
    unfold Rep
    exact ⟨p, dx, vs, rfl, nu, a, r⟩
theorem Good.ownAt (G : Good K B H σ en) {a : Addr} (h : Own σ en a) : ∃ o, H a = some o := by
  obtain ⟨i, b, d, e, s⟩ := h
  obtain ⟨p, s', _, c⟩ := G.own i b d e
  rw [s] at s'
  cases s'
  exact c.at
theorem Good.unAt (G : Good K B H σ en) {a : Addr} (h : Un B σ en a) : H a ≠ none := by
  rcases h with h | h
  · exact G.all a h
  · obtain ⟨o, e⟩ := G.ownAt h
    rw [e]
    simp
theorem Stp.refl (σ : L2.St) (en : En) (H : Hp) : Stp σ en H σ en H := ⟨rfl, fun _ _ h _ => h, fun _ h => h, fun _ h => .inl h, fun _ h => .inl h, fun _ d h => ⟨rfl, d, h⟩, fun _ d h => ⟨d, h⟩⟩
theorem Stp.trans (a : Stp σ en H σ' en' H') (b : Stp σ' en' H' σ2 en2 H2) : Stp σ en H σ2 en2 H2 where
  len := b.len.trans a.len
  fr := fun x o h n => b.fr x o (a.fr x o h n) fun q => by
    rcases a.ow x q with q | q
    · exact n q
    · rw [h] at q; cases q
  al := fun x h => b.al x (a.al x h)
  ow := fun x h => by
    rcases b.ow x h with q | q
    · exact a.ow x q
    · refine .inr (Classical.byContradiction fun z => a.al x z q)
  of := fun x h => by
    rcases b.of x h with q | q
    · exact a.of x q
    · refine .inr (Classical.byContradiction fun z => a.al x z q)
  pin := fun i d h => by
    obtain ⟨e1, d1, h1⟩ := a.pin i d h
    obtain ⟨e2, d2, h2⟩ := b.pin i d1 h1
    exact ⟨e2.trans e1, d2, h2⟩
  pb := fun i d h => by
    obtain ⟨d1, h1⟩ := b.pb i d h
    exact a.pb i d1 h1
theorem Stp.ext (h : Ext H H') : Stp σ en H σ en H' := ⟨rfl, fun a o e _ => h a o e, fun a e => by
  cases q : H a with
  | none => exact absurd q e
  | some o => rw [h a o q]; simp, fun _ h => .inl h, fun _ h => .inl h, fun _ d h => ⟨rfl, d, h⟩, fun _ d h => ⟨d, h⟩⟩
theorem Bx.refl (B : Addr → Prop) (σ : L2.St) (en : En) (H : Hp) : Bx B B σ en H := ⟨fun _ h => h, fun _ h => .inl h⟩
theorem Bx.trans (a : Bx B B' σ en H) (s : Stp σ en H σ' en' H') (b : Bx B' B2 σ' en' H') : Bx B B2 σ en H :=
  ⟨fun x h => b.up x (a.up x h), fun x h => by
    rcases b.new x h with q | q | q
    · exact a.new x q
    · exact .inr (.inl (Classical.byContradiction fun z => s.al x z q))
    · rcases s.ow x q with q | q
      · exact .inr (.inr q)
      · exact .inr (.inl q)⟩
/-- what a step leaves of what is represented -/
theorem stepTo (s : Stp σ en H σ' en' H') (b : Bx B B' σ en H) : ∀ a o, H a = some o → ¬ Un B σ en a → H' a = some o ∧ ¬ Un B' σ' en' a := fun a o h n =>
  ⟨s.fr a o h fun q => n (.inr q), fun q => by
    rcases q with q | q
    · rcases b.new a q with q | q | q
      · exact n (.inl q)
      · rw [h] at q; cases q
      · exact n (.inr q)
    · rcases s.ow a q with q | q
      · exact n (.inr q)
      · rw [h] at q; cases q⟩
theorem Rep.step (s : Stp σ en H σ' en' H') (b : Bx B B' σ en H) (r : Rep K (Un B σ en) H d v) : Rep K (Un B' σ' en') H' d v := Rep.to (stepTo s b) d v r
theorem Un.mono (h : ∀ a, B a → B' a) {a : Addr} (q : Un B σ en a) : Un B' σ en a := q.imp (h a) id
theorem Good.mono (G : Good K B' H σ en) (h : ∀ a, B a → B' a) : Good K B H σ en where
  len := G.len
  all := fun a q => G.all a (h a q)
  rep := fun i d e => by
    obtain ⟨v, s, r⟩ := G.rep i d e
    exact ⟨v, s, Rep.to (fun a o x n => ⟨x, fun q => n (Un.mono h q)⟩) d v r⟩
  own := fun i b d e => by
    obtain ⟨p, s, n, c⟩ := G.own i b d e
    exact ⟨p, s, fun q => n (h p q), Cont.to (fun a o x n => ⟨x, fun q => n (Un.mono h q)⟩) (fun _ x => x) c⟩
  inj := G.inj
/-- more of the heap, more put aside -/
theorem Good.ext (G : Good K B H σ en) (h : Ext H H') (hb : ∀ a, B' a → B a ∨ (H a = none ∧ H' a ≠ none)) : Good K B' H' σ en := by
  have t : ∀ a o, H a = some o → ¬ Un B σ en a → H' a = some o ∧ ¬ Un B' σ en a := fun a o e n => ⟨h a o e, fun q => by
    rcases q with q | q
    · rcases hb a q with q | q
      · exact n (.inl q)
      · rw [e] at q; cases q.1
    · exact n (.inr q)⟩
  exact {
    len := G.len
    all := fun a q => by
      rcases hb a q with q | q
      · have := G.all a q
        cases e : H a with
        | none => exact absurd e this
        | some o => rw [h a o e]; simp
      · exact q.2
    rep := fun i d e => by
      obtain ⟨v, s, r⟩ := G.rep i d e
      exact ⟨v, s, Rep.to t d v r⟩
    own := fun i b d e => by
      obtain ⟨p, s, n, c⟩ := G.own i b d e
      obtain ⟨o, q⟩ := c.at
      refine ⟨p, s, fun z => ?_, Cont.to t (fun o x => h p o x) c⟩
      rcases hb p z with z | z
      · exact n z
      · rw [q] at z; cases z.1
    inj := G.inj }
theorem Good.ext0 (G : Good K B H σ en) (h : Ext H H') : Good K B H' σ en := G.ext h fun _ q => .inl q

/-! ### results -/
def ArgR (K : PySem.W.Frag) (B : Addr → Prop) (σ : L2.St) (en : En) (H : Hp) : R → V → Prop
  | .sh d, v => Rep K (Un B σ en) H d v
  | .fr d, v => ∃ p, v = .ref p ∧ B p ∧ Cont K (Un B σ en) H d p
  | .sl i, v => σ[i]? = some (some v)
def frN (σ : L2.St) (en : En) (H : Hp) (r : R) (v : V) : Prop := match r with
  | .fr _ => ∀ p, v = .ref p → H p = none ∨ OwnF σ en p
  | _ => True
def frNs (σ : L2.St) (en : En) (H : Hp) : List R → List V → Prop
  | r :: rs, v :: vs => frN σ en H r v ∧ frNs σ en H rs vs
  | _, _ => True
theorem OwnF.own {a : Addr} (h : OwnF σ en a) : Own σ en a := let ⟨i, d, e, s⟩ := h; ⟨i, false, d, e, s⟩
theorem frN.step (s : Stp σ en H σ' en' H') : ∀ {r : R} {v : V}, frN σ' en' H' r v → frN σ en H r v
  | .sh _, _, _ => trivial
  | .sl _, _, _ => trivial
  | .fr d, v, h => fun p e => by
    rcases h p e with q | q
    · exact .inl (Classical.byContradiction fun z => s.al p z q)
    · exact (s.of p q).symm
def ArgRs (K : PySem.W.Frag) (B : Addr → Prop) (σ : L2.St) (en : En) (H : Hp) : List R → List V → Prop
  | [], vs => vs = []
  | r :: rs, vs => ∃ v us, vs = v :: us ∧ ArgR K B σ en H r v ∧ ArgRs K B σ en H rs us
theorem frNs.step (s : Stp σ en H σ' en' H') : ∀ {rs : List R} {vs : List V}, frNs σ' en' H' rs vs → frNs σ en H rs vs
  | [], _, _ => trivial
  | _ :: _, [], _ => trivial
  | r :: rs, v :: vs, h => ⟨h.1.step s, frNs.step s h.2⟩
theorem Cont.step (s : Stp σ en H σ' en' H') (b : Bx B B' σ en H) (hp : ¬ Own σ en p) (c : Cont K (Un B σ en) H d p) : Cont K (Un B' σ' en') H' d p :=
  Cont.to (stepTo s b) (fun o x => s.fr p o x hp) c
theorem ArgR.step (G : Good K B H σ en) (s : Stp σ en H σ en' H') (b : Bx B B' σ en H) : ∀ {r : R} {v : V}, ArgR K B σ en H r v → ArgR K B' σ en' H' r v
  | .sh d, v, h => Rep.step s b h
  | .fr d, v, ⟨p, e, q, c⟩ => ⟨p, e, b.up p q, c.step s b fun z => by
    obtain ⟨i, c1, d1, e1, s1⟩ := z
    obtain ⟨p', s2, n, _⟩ := G.own i c1 d1 e1
    rw [s1] at s2
    cases s2
    exact n q⟩
  | .sl i, v, h => h
theorem ArgRs.step (G : Good K B H σ en) (s : Stp σ en H σ en' H') (b : Bx B B' σ en H) : ∀ {rs : List R} {vs : List V}, ArgRs K B σ en H rs vs → ArgRs K B' σ en' H' rs vs
  | [], vs, h => h
  | r :: rs, vs, ⟨v, us, e, h1, h2⟩ => ⟨v, us, e, ArgR.step G s b h1, ArgRs.step G s b h2⟩
/-- how an exception is seen -/
def ExR (K : PySem.W.Frag) (U : Addr → Prop) (H : Hp) (x : Ex) (c : Value) (od : Option Addr) : Prop :=
  ClsN K x.cls c ∧ match x.fld with
    | none => od = none
    | some (f, d) => ∃ a v, od = some a ∧ ¬ U a ∧ H a = some (.xd [(f, v)]) ∧ Rep K U H d v
end

/-! ### readings -/
section
variable (K : PySem.W.Frag) (W : WX)
def RdE (f : M R) : TE := fun σ H Q => ∃ B en, Good K B H σ en ∧ match f en with
  | .ok r en' => ∀ v H', (∃ B', Bx B B' σ en H ∧ Good K B' H' σ en' ∧ ArgR K B' σ en' H' r v ∧ frN σ en H r v) → Stp σ en H σ en' H' → Q v H'
  | .exc x en' => ∀ c od H', ExR K (Un B σ en') H' x c od → Good K B H' σ en' → Stp σ en H σ en' H' → W c od σ H'
  | .bad => False
def RdA (f : M (List R)) : TA := fun σ H Q => ∃ B en, Good K B H σ en ∧ match f en with
  | .ok rs en' => ∀ vs H', (∃ B', Bx B B' σ en H ∧ Good K B' H' σ en' ∧ ArgRs K B' σ en' H' rs vs ∧ frNs σ en H rs vs) → Stp σ en H σ en' H' → Q vs H'
  | .exc x en' => ∀ c od H', ExR K (Un B σ en') H' x c od → Good K B H' σ en' → Stp σ en H σ en' H' → W c od σ H'
  | .bad => False
def RdT (f : M Bool) : TT := fun σ H Q => ∃ B en, Good K B H σ en ∧ match f en with
  | .ok b en' => ∀ H', (∃ B', Bx B B' σ en H ∧ Good K B' H' σ en') → Stp σ en H σ en' H' → Q b H'
  | .exc x en' => ∀ c od H', ExR K (Un B σ en') H' x c od → Good K B H' σ en' → Stp σ en H σ en' H' → W c od σ H'
  | .bad => False
def RdS (f : En → Fl) : TS := fun D σ H => ∃ B en, Good K B H σ en ∧ match f en with
  | .nx en' => ∀ σ' H', Good K B H' σ' en' → Stp σ en H σ' en' H' → D.nx σ' H'
  | .bk en' => ∀ σ' H', Good K B H' σ' en' → Stp σ en H σ' en' H' → D.bk σ' H'
  | .ct en' => ∀ σ' H', Good K B H' σ' en' → Stp σ en H σ' en' H' → D.ct σ' H'
  | .rt r en' => ∀ v σ' H', (∃ B', Bx B B' σ en H ∧ Good K B' H' σ' en' ∧ ArgR K B' σ' en' H' r v ∧ frN σ en H r v) → Stp σ en H σ' en' H' → D.rt v H'
  | .exc x en' => ∀ c od σ' H', ExR K (Un B σ' en') H' x c od → Good K B H' σ' en' → Stp σ en H σ' en' H' → W c od σ' H'
  | .bad => False
def RdG (f : D → M Unit) : TG := fun v σ H Q => ∃ B en d, Good K B H σ en ∧ Rep K (Un B σ en) H d v ∧ match f d en with
  | .ok _ en' => ∀ σ' H', Good K B H' σ' en' → Stp σ en H σ' en' H' → Q σ' H'
  | _ => False
end
end PyD

namespace PyD
open PySem PySem.Spec L2

/-! ### readings, weaker -/
section
variable {X : Cx}
theorem pe_imp {e : Expr} {t t' : TE} (h : PE X e t) (i : ∀ σ H Q, t' σ H Q → t σ H Q) : PE X e t' := ⟨fun pins s σ H Q I q => h.run pins s σ H Q I (i σ H Q q)⟩
theorem pt_imp {e : Expr} {t t' : TT} (h : PT X e t) (i : ∀ σ H Q, t' σ H Q → t σ H Q) : PT X e t' := ⟨fun pins s σ H Q I q => h.run pins s σ H Q I (i σ H Q q)⟩
theorem pw_imp {e : Expr} {t t' : TT} (h : PW X e t) (i : ∀ σ H Q, t' σ H Q → t σ H Q) : PW X e t' := ⟨fun wh pins s σ H Q I q => h.run wh pins s σ H Q I (i σ H Q q)⟩
theorem pa_imp {e : List Expr} {t t' : TA} (h : PA X e t) (i : ∀ σ H Q, t' σ H Q → t σ H Q) : PA X e t' := ⟨fun pos pins s σ H Q I q => h.run pos pins s σ H Q I (i σ H Q q)⟩
theorem ps_imp {e : Stmt} {t t' : TS} (h : PS X e t) (i : ∀ D σ H, t' D σ H → t D σ H) : PS X e t' := ⟨fun pins s σ H D I q => h.run pins s σ H D I (i D σ H q)⟩
theorem pss_imp {e : List Stmt} {t t' : TS} (h : PSs X e t) (i : ∀ D σ H, t' D σ H → t D σ H) : PSs X e t' := ⟨fun pins s σ H D I q => h.run pins s σ H D I (i D σ H q)⟩
theorem pg_imp {e : Expr} {t t' : TG} (h : PG X e t) (i : ∀ v σ H Q, t' v σ H Q → t v σ H Q) : PG X e t' := ⟨fun pins s σ H v u Q I r q => h.run pins s σ H v u Q I r (i v σ H Q q)⟩
theorem pi_imp {tg e : Expr} {t t' : TI} (h : PI X tg e t) (i : ∀ σ H R, t' σ H R → t σ H R) : PI X tg e t' := ⟨fun pins s σ H R I q => h.run pins s σ H R I (i σ H R q)⟩
theorem pe_or2 {e : Expr} {t t' : TE} (h : PE X e t) (h' : PE X e t') : PE X e (fun σ H Q => t σ H Q ∨ t' σ H Q) := ⟨fun pins s σ H Q I q => q.elim (h.run pins s σ H Q I) (h'.run pins s σ H Q I)⟩
theorem CallR_or {f : Value} {r r' : List V → Hp → VK → Prop} (h : CallR X f r) (h' : CallR X f r') : CallR X f (fun xs H Q => r xs H Q ∨ r' xs H Q) :=
  fun pins s σ H xs us Q I v q => q.elim (h pins s σ H xs us Q I v) (h' pins s σ H xs us Q I v)
theorem UnR_or {f : Value → Sem Value} {r r' : V → Hp → VK → Prop} (h : UnR X f r) (h' : UnR X f r') : UnR X f (fun xs H Q => r xs H Q ∨ r' xs H Q) :=
  fun pins s σ H xs us Q I v q => q.elim (h pins s σ H xs us Q I v) (h' pins s σ H xs us Q I v)
end

/-! ### what expressions mean -/
def nmF (i : Nat) : M R := fun en => match en[i]? with
  | some (.v d) => .ok (.sh d) en
  | some (.o _ _) => .ok (.sl i) en
  | _ => .bad
/-- the thing of a slot, taken out -/
def mvF (i : Nat) : M R := fun en => match en[i]? with
  | some (.v d) => .ok (.sh d) en
  | some (.o false d) => .ok (.fr d) (en.set i .e)
  | _ => .bad
/-- the thing of a slot, from now on never changed -/
def dmF (i : Nat) : M R := fun en => match en[i]? with
  | some (.v d) => .ok (.sh d) en
  | some (.o false d) => .ok (.sh d) (en.set i (.v d))
  | _ => .bad
def cF (d : D) : M R := fun en => .ok (.sh d) en
def nilF : M (List R) := fun en => .ok [] en
def consF (f : M R) (fs : M (List R)) : M (List R) := fun en => match f en with
  | .ok r en1 => (match fs en1 with
    | .ok rs en2 => .ok (r :: rs) en2
    | .exc x en2 => .exc x en2
    | .bad => .bad)
  | .exc x en1 => .exc x en1
  | .bad => .bad
def rsl (en : En) : R → Option D
  | .sh d => some d
  | .fr d => some d
  | .sl i => match en[i]? with
    | some (.o _ d) => some d
    | _ => none
def rsls (en : En) : List R → Option (List D)
  | [] => some []
  | r :: rs => match rsl en r with
    | some d => (match rsls en rs with
      | some ds => some (d :: ds)
      | none => none)
    | none => none
def mkR (b : Bool) (d : D) : R := match b with
  | true => .fr d
  | false => .sh d
def opF (g : List D → Option (Bool × D)) (fs : M (List R)) : M R := fun en => match fs en with
  | .ok rs en1 => (match rsls en1 rs with
    | some ds => (match g ds with
      | some (b, d) => .ok (mkR b d) en1
      | none => .bad)
    | none => .bad)
  | .exc x en1 => .exc x en1
  | .bad => .bad

/-! ### arguments of an operation: the root may be anything -/
section
variable (K : PySem.W.Frag)
def ARep (U : Addr → Prop) (H : Hp) : D → V → Prop
  | .lst ds, v => ∃ a vs, v = .ref a ∧ H a = some (.lst vs) ∧ RepL K U H ds vs
  | .dic kvs, v => ∃ a ws, v = .ref a ∧ H a = some (.dK ws) ∧ RepK K U H kvs ws
  | .obj C fs, v => ∃ a dx ws, v = .ref a ∧ H a = some (.ins C dx ws) ∧ RepF K U H fs ws
  | d, v => Rep K U H d v
def ARepL (U : Addr → Prop) (H : Hp) : List D → List V → Prop
  | [], vs => vs = []
  | d :: ds, vs => ∃ v us, vs = v :: us ∧ ARep K U H d v ∧ ARepL U H ds us
def Fresh (U : Addr → Prop) (H H' : Hp) (d : D) (v : V) : Prop := ∃ p, v = .ref p ∧ H p = none ∧ Cont K (fun a => U a ∨ a = p) H' d p
/-- what an operation on values r does, on data: g -/
def Prim (r : List V → Hp → VK → Prop) (g : List D → Option (Bool × D)) : Prop :=
  ∀ (U : Addr → Prop) (H : Hp) (ds : List D) (vs : List V) (Q : VK) (b : Bool) (d : D), (∀ a, U a → H a ≠ none) → ARepL K U H ds vs → g ds = some (b, d) →
    (∀ v H', Ext H H' → (b = false → Rep K U H' d v) → (b = true → Fresh K U H H' d v) → Q v H') → r vs H Q
end
section
variable {K : PySem.W.Frag} {W : WX} {B B' : Addr → Prop} {U U' : Addr → Prop} {H H' : Hp} {σ : L2.St} {en en' : En} {d : D} {v : V} {Q Q' : VK}
theorem Rep.arep : ∀ {d : D} {v : V}, Rep K U H d v → ARep K U H d v
  | .non, v, h => h
  | .bl _, v, h => h
  | .int _, v, h => h
  | .str _, v, h => h
  | .tup _, v, h => h
  | .scr _, v, h => h
  | .exn _ _, v, h => h
  | .lst ds, v, h => by
    unfold Rep at h
    obtain ⟨a, vs, e, _, c, q⟩ := h
    exact ⟨a, vs, e, c, q⟩
  | .dic _, v, h => by
    unfold Rep at h
    obtain ⟨a, ws, e, _, ha, q⟩ := h
    exact ⟨a, ws, e, ha, q⟩
  | .obj _ _, v, h => by
    unfold Rep at h
    obtain ⟨a, dx, ws, e, _, ha, q⟩ := h
    exact ⟨a, dx, ws, e, ha, q⟩
theorem Cont.arep {p : Addr} : ∀ {d : D}, Cont K U H d p → ARep K U H d (.ref p)
  | .lst _, ⟨vs, a, r⟩ => ⟨p, vs, rfl, a, r⟩
  | .dic _, ⟨vs, a, r⟩ => ⟨p, vs, rfl, a, r⟩
  | .obj _ _, ⟨dx, vs, a, r⟩ => ⟨p, dx, vs, rfl, a, r⟩
theorem ArgR.arep (G : Good K B H σ en) : ∀ {r : R} {v : V} {d : D}, ArgR K B σ en H r v → rsl en r = some d → ARep K (Un B σ en) H d v
  | .sh d', v, d, h, e => by
    cases e
    exact Rep.arep h
  | .fr d', v, d, ⟨p, e1, _, c⟩, e => by
    cases e
    rw [e1]
    exact c.arep
  | .sl i, v, d, h, e => by
    unfold rsl at e
    dsimp only at e
    cases q : en[i]? with
    | none => rw [q] at e; cases e
    | some s =>
      rw [q] at e
      cases s with
      | e => cases e
      | v x => cases e
      | o b x =>
        cases e
        obtain ⟨p, s1, _, c⟩ := G.own i b d q
        have h' : σ[i]? = some (some v) := h
        rw [s1] at h'
        cases h'
        exact c.arep
theorem ArgRs.arep (G : Good K B H σ en) : ∀ {rs : List R} {vs : List V} {ds : List D}, ArgRs K B σ en H rs vs → rsls en rs = some ds → ARepL K (Un B σ en) H ds vs
  | [], vs, ds, h, e => by
    cases e
    exact h
  | r :: rs, vs, ds, ⟨v, us, e1, h1, h2⟩, e => by
    unfold rsls at e
    cases q : rsl en r with
    | none => rw [q] at e; cases e
    | some d =>
      rw [q] at e
      dsimp only at e
      cases q2 : rsls en rs with
      | none => rw [q2] at e; cases e
      | some ds' =>
        rw [q2] at e
        cases e
        exact ⟨v, us, e1, ArgR.arep G h1 q, ArgRs.arep G h2 q2⟩
theorem RdE.mono {f : M R} (h : ∀ v H, Q v H → Q' v H) (r : RdE K W f σ H Q) : RdE K W f σ H Q' := by
  obtain ⟨B, en, G, m⟩ := r
  refine ⟨B, en, G, ?_⟩
  revert m
  cases f en with
  | ok r en' => exact fun m v H' a b => h v H' (m v H' a b)
  | exc x en' => exact fun m => m
  | bad => exact fun m => m
theorem consImp {f : M R} {fs : M (List R)} {Q : List V → Hp → Prop} (r : RdA K W (consF f fs) σ H Q) : tCons (RdE K W f) (RdA K W fs) σ H Q := by
  obtain ⟨B, en, G, m⟩ := r
  refine ⟨B, en, G, ?_⟩
  unfold consF at m
  cases e1 : f en with
  | bad => rw [e1] at m; exact m
  | exc x en1 => rw [e1] at m; exact m
  | ok r en1 =>
    rw [e1] at m
    dsimp only at m ⊢
    intro v H1 ⟨B1, b1, G1, r1, n1⟩ st1
    refine ⟨B1, en1, G1, ?_⟩
    cases e2 : fs en1 with
    | bad => rw [e2] at m; exact m
    | exc x en2 =>
      rw [e2] at m
      intro c od H2 hx G2 st2
      exact m c od H2 (by
        obtain ⟨h1, h2⟩ := hx
        refine ⟨h1, ?_⟩
        revert h2
        cases x.fld with
        | none => exact fun h2 => h2
        | some fd => exact fun ⟨a, v, e, nu, ha, hr⟩ => ⟨a, v, e, fun q => nu (Un.mono b1.up q), ha, Rep.to (fun a o x n => ⟨x, fun q => n (Un.mono b1.up q)⟩) _ _ hr⟩) (G2.mono b1.up) (st1.trans st2)
    | ok rs en2 =>
      rw [e2] at m
      intro us H2 ⟨B2, b2, G2, r2, n2⟩ st2
      exact m (v :: us) H2 ⟨B2, b1.trans st1 b2, G2, ⟨v, us, rfl, ArgR.step G1 st2 b2 r1, r2⟩, n1, n2.step st1⟩ (st1.trans st2)
theorem nilImp {Q : List V → Hp → Prop} (r : RdA K W nilF σ H Q) : tNil σ H Q := by
  obtain ⟨B, en, G, m⟩ := r
  exact m [] H ⟨B, Bx.refl B σ en H, G, rfl, trivial⟩ (Stp.refl σ en H)
theorem un_or {p : Addr} {a : Addr} (h : Un (fun x => B x ∨ x = p) σ en a) : Un B σ en a ∨ a = p := by
  rcases h with (h | h) | h
  · exact .inl (.inl h)
  · exact .inr h
  · exact .inl (.inr h)
theorem opImp {r : List V → Hp → VK → Prop} {g : List D → Option (Bool × D)} {fs : M (List R)} (hp : Prim K r g) (m : RdE K W (opF g fs) σ H Q) : RdA K W fs σ H (fun vs H' => r vs H' Q) := by
  obtain ⟨B, en, G, m⟩ := m
  refine ⟨B, en, G, ?_⟩
  unfold opF at m
  cases e1 : fs en with
  | bad => rw [e1] at m; exact m
  | exc x en1 => rw [e1] at m; exact m
  | ok rs en1 =>
    rw [e1] at m
    dsimp only at m ⊢
    intro vs H1 ⟨B1, b1, G1, r1, n1⟩ st1
    cases e2 : rsls en1 rs with
    | none => rw [e2] at m; exact m.elim
    | some ds =>
      rw [e2] at m
      dsimp only at m
      cases e3 : g ds with
      | none => rw [e3] at m; exact m.elim
      | some bd =>
        obtain ⟨b, d⟩ := bd
        rw [e3] at m
        dsimp only at m
        refine hp (Un B1 σ en1) H1 ds vs Q b d (fun a => G1.unAt) (ArgRs.arep G1 r1 e2) e3 fun v H2 x2 h1 h2 => ?_
        have st2 : Stp σ en1 H1 σ en1 H2 := Stp.ext x2
        cases b with
        | false => exact m v H2 ⟨B1, b1, G1.ext0 x2, h1 rfl, trivial⟩ (st1.trans st2)
        | true =>
          obtain ⟨p, ep, np, c⟩ := h2 rfl
          obtain ⟨o, ho⟩ := c.at
          have b2 : Bx B1 (fun x => B1 x ∨ x = p) σ en1 H1 := ⟨fun a h => .inl h, fun a h => by
            rcases h with h | h
            · exact .inl h
            · rw [h]; exact .inr (.inl np)⟩
          refine m v H2 ⟨fun x => B1 x ∨ x = p, b1.trans st1 b2, G1.ext x2 (fun a h => ?_), ⟨p, ep, .inr rfl, Cont.to (fun a o x n => ⟨x, fun q => n (un_or q)⟩) (fun _ x => x) c⟩, ?_⟩ (st1.trans st2)
          · rcases h with h | h
            · exact .inl h
            · rw [h, ho]; exact .inr ⟨np, by simp⟩
          · intro q e
            rw [ep] at e
            cases e
            exact .inl (Classical.byContradiction fun z => st1.al p z np)
end

/-! ### rules: names, constants, arguments -/
section
variable {X : Cx} {W : WX} {pos : Pos}
theorem e_nm (i : Nat) {x : Str} (hN : X.N[i]? = some x := by rfl) (hv : Vis X.env.scope x := by first | exact Or.inl rfl | exact Or.inr (Or.inl rfl) | exact Or.inr (Or.inr rfl)) (hd : (x == ("__debug__" : Str)) = false := by decide)
    (hcd : (x == ("__classdict__" : Str)) = false := by decide) : PE X (.Name x pos) (RdE X.K W (nmF i)) := by
  refine pe_imp (pe_var (i := i) hN hv hd hcd) fun σ H Q ⟨B, en, G, m⟩ => ?_
  unfold nmF at m
  revert m
  cases e : en[i]? with
  | none => exact fun m => m.elim
  | some s =>
    cases s with
    | e => exact fun m => m.elim
    | v d =>
      intro m
      obtain ⟨v, s, r⟩ := G.rep i d e
      exact ⟨v, s, m v H ⟨B, Bx.refl B σ en H, G, r, trivial⟩ (Stp.refl σ en H)⟩
    | o b d =>
      intro m
      obtain ⟨p, s, n, c⟩ := G.own i b d e
      exact ⟨.ref p, s, m (.ref p) H ⟨B, Bx.refl B σ en H, G, s, trivial⟩ (Stp.refl σ en H)⟩
end
section
variable {K : PySem.W.Frag} {B B' : Addr → Prop} {H H' : Hp} {σ : L2.St} {en en' : En} {d : D} {i : Nat} {p : Addr}
theorem set_get {α : Type} {l : List α} {i j : Nat} {x y : α} (h : (l.set i x)[j]? = some y) : (i = j ∧ y = x ∧ i < l.length) ∨ (i ≠ j ∧ l[j]? = some y) := by
  by_cases e : i = j
  · subst e
    rw [List.getElem?_set] at h
    by_cases q : i < l.length
    · rw [if_pos rfl, if_pos q] at h
      exact .inl ⟨rfl, (Option.some.inj h).symm, q⟩
    · rw [if_pos rfl, if_neg q] at h
      cases h
  · rw [List.getElem?_set_ne e] at h
    exact .inr ⟨e, h⟩
theorem get_lt {α : Type} {l : List α} {i : Nat} {x : α} (h : l[i]? = some x) : i < l.length := by
  rcases Nat.lt_or_ge i l.length with q | q
  · exact q
  · rw [List.getElem?_eq_none q] at h; cases h
/-- slots are forgotten, others stay -/
theorem own_set_e {a : Addr} (h : Own σ (en.set i .e) a) : Own σ en a := by
  obtain ⟨j, b, d, e, s⟩ := h
  rcases set_get e with ⟨_, q, _⟩ | ⟨_, q⟩
  · cases q
  · exact ⟨j, b, d, q, s⟩
theorem Good.drop (G : Good K B H σ en) : Good K B H σ (en.set i .e) where
  len := by rw [List.length_set]; exact G.len
  all := G.all
  rep := fun j d e => by
    rcases set_get e with ⟨_, q, _⟩ | ⟨_, q⟩
    · cases q
    · obtain ⟨v, s, r⟩ := G.rep j d q
      exact ⟨v, s, Rep.to (fun a o x n => ⟨x, fun z => n (z.imp id own_set_e)⟩) d v r⟩
  own := fun j b d e => by
    rcases set_get e with ⟨_, q, _⟩ | ⟨_, q⟩
    · cases q
    · obtain ⟨p, s, n, c⟩ := G.own j b d q
      exact ⟨p, s, n, Cont.to (fun a o x n => ⟨x, fun z => n (z.imp id own_set_e)⟩) (fun _ x => x) c⟩
  inj := fun j k p b c d d' e1 e2 s1 s2 => by
    rcases set_get e1 with ⟨_, q, _⟩ | ⟨_, q1⟩
    · cases q
    · rcases set_get e2 with ⟨_, q, _⟩ | ⟨_, q2⟩
      · cases q
      · exact G.inj j k p b c d d' q1 q2 s1 s2
theorem own_drop (G : Good K B H σ en) {d0 : D} {b0 : Bool} (e0 : en[i]? = some (.o b0 d0)) (s0 : σ[i]? = some (some (.ref p))) {s : Sl} (hs : ∀ b d, s ≠ .o b d) {a : Addr} (h : Own σ (en.set i s) a) : Own σ en a ∧ a ≠ p := by
  obtain ⟨j, b, d, e, s1⟩ := h
  rcases set_get e with ⟨_, q, _⟩ | ⟨ne, q⟩
  · exact absurd q.symm (hs b d)
  · refine ⟨⟨j, b, d, q, s1⟩, fun z => ne ?_⟩
    rw [z] at s1
    exact G.inj i j p b0 b d0 d e0 q s0 s1
/-- the slot's thing put aside -/
theorem Good.moved (G : Good K B H σ en) {d0 : D} {b0 : Bool} (e0 : en[i]? = some (.o b0 d0)) (s0 : σ[i]? = some (some (.ref p))) : Good K (fun a => B a ∨ a = p) H σ (en.set i .e) := by
  have t : ∀ a, Un (fun a => B a ∨ a = p) σ (en.set i .e) a → Un B σ en a := fun a h => by
    rcases h with (h | h) | h
    · exact .inl h
    · rw [h]; exact .inr ⟨i, b0, d0, e0, s0⟩
    · exact .inr (own_set_e h)
  have t' : ∀ a o, H a = some o → ¬ Un B σ en a → H a = some o ∧ ¬ Un (fun a => B a ∨ a = p) σ (en.set i .e) a := fun a o x n => ⟨x, fun z => n (t a z)⟩
  have G' := G.drop (i := i)
  exact {
    len := G'.len
    all := fun a h => by
      rcases h with h | h
      · exact G.all a h
      · rw [h]
        obtain ⟨o, e⟩ := G.ownAt ⟨i, b0, d0, e0, s0⟩
        rw [e]; simp
    rep := fun j d e => by
      rcases set_get e with ⟨_, q, _⟩ | ⟨_, q⟩
      · cases q
      · obtain ⟨v, s, r⟩ := G.rep j d q
        exact ⟨v, s, Rep.to t' d v r⟩
    own := fun j b d e => by
      rcases set_get e with ⟨_, q, _⟩ | ⟨ne, q⟩
      · cases q
      · obtain ⟨p', s, n, c⟩ := G.own j b d q
        refine ⟨p', s, fun z => ?_, Cont.to t' (fun _ x => x) c⟩
        rcases z with z | z
        · exact n z
        · rw [z] at s
          exact ne (G.inj i j p b0 b d0 d e0 q s0 s)
    inj := G'.inj }
theorem Stp.drop {s : Sl} (hs : ∀ b d, s ≠ .o b d) (e0 : ∀ d, en[i]? ≠ some (.o true d)) (h : ∀ a, Own σ (en.set i s) a → Own σ en a) : Stp σ en H σ (en.set i s) H where
  len := List.length_set
  fr := fun _ _ h _ => h
  al := fun _ h => h
  ow := fun a q => .inl (h a q)
  of := fun a q => .inl (by
    obtain ⟨j, d, e, s1⟩ := q
    rcases set_get e with ⟨_, q, _⟩ | ⟨_, q⟩
    · exact absurd q.symm (hs false d)
    · exact ⟨j, d, q, s1⟩)
  pin := fun j d e => ⟨rfl, d, by
    by_cases q : i = j
    · subst q
      exact absurd e (e0 d)
    · rw [List.getElem?_set_ne q]
      exact e⟩
  pb := fun j d e => by
    rcases set_get e with ⟨_, q, _⟩ | ⟨_, q⟩
    · exact absurd q.symm (hs true d)
    · exact ⟨d, q⟩
end
section
variable {X : Cx} {W : WX} {pos : Pos}
theorem e_mv (i : Nat) {x : Str} (hN : X.N[i]? = some x := by rfl) (hv : Vis X.env.scope x := by first | exact Or.inl rfl | exact Or.inr (Or.inl rfl) | exact Or.inr (Or.inr rfl)) (hd : (x == ("__debug__" : Str)) = false := by decide)
    (hcd : (x == ("__classdict__" : Str)) = false := by decide) : PE X (.Name x pos) (RdE X.K W (mvF i)) := by
  refine pe_imp (pe_var (i := i) hN hv hd hcd) fun σ H Q ⟨B, en, G, m⟩ => ?_
  unfold mvF at m
  revert m
  cases e : en[i]? with
  | none => exact fun m => m.elim
  | some s =>
    cases s with
    | e => exact fun m => m.elim
    | v d =>
      intro m
      obtain ⟨v, s, r⟩ := G.rep i d e
      exact ⟨v, s, m v H ⟨B, Bx.refl B σ en H, G, r, trivial⟩ (Stp.refl σ en H)⟩
    | o b d =>
      cases b with
      | true => exact fun m => m.elim
      | false =>
        intro m
        obtain ⟨p, s, n, c⟩ := G.own i false d e
        have t : ∀ a, Un (fun a => B a ∨ a = p) σ (en.set i .e) a → Un B σ en a := fun a h => by
          rcases h with (h | h) | h
          · exact .inl h
          · rw [h]; exact .inr ⟨i, false, d, e, s⟩
          · exact .inr (own_set_e h)
        refine ⟨.ref p, s, m (.ref p) H ⟨fun a => B a ∨ a = p, ⟨fun a h => .inl h, fun a h => ?_⟩, G.moved e s, ⟨p, rfl, .inr rfl, Cont.to (fun a o x n => ⟨x, fun z => n (t a z)⟩) (fun _ x => x) c⟩, ?_⟩ (Stp.drop (fun b d z => by cases z) (fun d' z => by rw [e] at z; cases z) fun a z => own_set_e z)⟩
        · rcases h with h | h
          · exact .inl h
          · rw [h]; exact .inr (.inr ⟨i, false, d, e, s⟩)
        · intro q eq
          cases eq
          exact .inr ⟨i, d, e, s⟩
theorem e_c {e : Expr} {d : D} {v : V} (h : PE X e (tC v)) (r : ∀ U H, Rep X.K U H d v) : PE X e (RdE X.K W (cF d)) :=
  pe_imp h fun σ H Q ⟨B, en, G, m⟩ => m v H ⟨B, Bx.refl B σ en H, G, r _ _, trivial⟩ (Stp.refl σ en H)
theorem e_int {i j} : PE X (.Constant (.int i) j pos) (RdE X.K W (cF (.int i))) := e_c pe_int fun _ _ => by unfold Rep; rfl
theorem e_bl {i j} : PE X (.Constant (.bool i) j pos) (RdE X.K W (cF (.bl i))) := e_c pe_bl fun _ _ => by unfold Rep; rfl
theorem e_non {j} : PE X (.Constant .none j pos) (RdE X.K W (cF .non)) := e_c pe_non fun _ _ => by unfold Rep; rfl
theorem e_str {x j} : PE X (.Constant (.str x) j pos) (RdE X.K W (cF (.str x))) := e_c pe_str fun _ _ => by unfold Rep; rfl
theorem a_nil : PA X [] (RdA X.K W nilF) := pa_imp pa_nil fun σ H Q q => nilImp q
theorem a_cons {e : Expr} {es : List Expr} {f : M R} {fs : M (List R)} (ha : PE X e (RdE X.K W f)) (hr : PA X es (RdA X.K W fs)) (hs : starEach (e :: es) X.env = (false, eval e X.env) :: starEach es X.env := by rfl) :
    PA X (e :: es) (RdA X.K W (consF f fs)) := pa_imp (pa_cons ha hr hs) fun σ H Q q => consImp q
def r1 (r : V → Hp → VK → Prop) : List V → Hp → VK → Prop := fun vs H Q => ∃ x, vs = [x] ∧ r x H Q
def r2 (r : R2) : List V → Hp → VK → Prop := fun vs H Q => ∃ x y, vs = [x, y] ∧ r x y H Q
def one (f : M R) : M (List R) := consF f nilF
def two (f g : M R) : M (List R) := consF f (consF g nilF)
theorem imp1 {K : PySem.W.Frag} {f : M R} {σ : L2.St} {H : Hp} {k : List V → Hp → Prop} (m : RdA K W (one f) σ H k) : RdE K W f σ H fun x H1 => k [x] H1 :=
  RdE.mono (fun v H1 q => (nilImp q : tNil σ H1 fun xs H2 => k (v :: xs) H2)) (consImp m)
theorem imp2 {K : PySem.W.Frag} {f g : M R} {σ : L2.St} {H : Hp} {k : List V → Hp → Prop} (m : RdA K W (two f g) σ H k) : RdE K W f σ H fun x H1 => RdE K W g σ H1 fun y H2 => k [x, y] H2 :=
  RdE.mono (fun v H q => imp1 q) (consImp m)
theorem impOp {K : PySem.W.Frag} {r : R2} {g : List D → Option (Bool × D)} {fa fb : M R} {σ : L2.St} {H : Hp} {Q : VK} (hp : Prim K (r2 r) g) (m : RdE K W (opF g (two fa fb)) σ H Q) : tOp r (RdE K W fa) (RdE K W fb) σ H Q := by
  refine RdE.mono (fun x H1 q => RdE.mono (fun y H2 q => ?_) q) (imp2 (opImp hp m))
  obtain ⟨a, b, e, z⟩ := q
  cases e
  exact z
theorem impUn {K : PySem.W.Frag} {r : V → Hp → VK → Prop} {g : List D → Option (Bool × D)} {fa : M R} {σ : L2.St} {H : Hp} {Q : VK} (hp : Prim K (r1 r) g) (m : RdE K W (opF g (one fa)) σ H Q) : tUn r (RdE K W fa) σ H Q := by
  refine RdE.mono (fun x H1 q => ?_) (imp1 (opImp hp m))
  obtain ⟨a, e, z⟩ := q
  cases e
  exact z
variable {a b : Expr} {fa fb : M R} {g : List D → Option (Bool × D)}
theorem e_bin {op : Operator} {r : R2} (ho : OpR X (binaryOp op) r) (hp : Prim X.K (r2 r) g) (ha : PE X a (RdE X.K W fa)) (hb : PE X b (RdE X.K W fb)) : PE X (.BinOp a op b pos) (RdE X.K W (opF g (two fa fb))) :=
  pe_imp (pe_op ho ha hb) fun σ H Q m => impOp hp m
theorem e_un {op : UnaryOp} {r : V → Hp → VK → Prop} (ho : UnR X (unaryOp op) r) (hp : Prim X.K (r1 r) g) (ha : PE X a (RdE X.K W fa)) : PE X (.UnaryOp op a pos) (RdE X.K W (opF g (one fa))) :=
  pe_imp (pe_un ho ha) fun σ H Q m => impUn hp m
theorem e_cmp {op : CmpOp} {r : R2} (ho : OpR X (compareOp op) r) (hp : Prim X.K (r2 r) g) (ha : PE X a (RdE X.K W fa)) (hb : PE X b (RdE X.K W fb)) (hm : behindInMarks op b = false) : PE X (.Compare a [op] [b] pos) (RdE X.K W (opF g (two fa fb))) :=
  pe_imp (pe_cmpR ho ha hb hm) fun σ H Q m => impOp hp m
theorem e_ix {r : R2} (hr : IxR X r) (hp : Prim X.K (r2 r) g) (ha : PE X a (RdE X.K W fa)) (hb : PE X b (RdE X.K W fb)) (hs : PlainIx b) : PE X (.Subscript a b pos) (RdE X.K W (opF g (two fa fb))) :=
  pe_imp (pe_ix hr ha hb hs) fun σ H Q m => impOp hp m
variable {x : Str} {p : Pos} {e : Expr} {es : List Expr} {fs : M (List R)} {id T : String} {r : List V → Hp → VK → Prop}
theorem e_callB (hc : CallR X (.builtin id) r) (hp : Prim X.K r g) (hg : Gl X x) (hm : X.mg x = none) (hv : bootBuiltins x = some (.builtin id)) (ha : PA X (e :: es) (RdA X.K W fs)) (hn : x ≠ "__name__" := by decide) (hdb : (x == ("__debug__" : Str)) = false := by decide)
    (he : starEach (e :: es) X.env = (false, eval e X.env) :: starEach es X.env := by rfl) (hpl : (backTo pos (starEach es X.env)).any (·.1) = false := by rfl) : PE X (.Call (.Name x p) (e :: es) [] pos) (RdE X.K W (opF g fs)) :=
  pe_imp (pe_callB hc hg hm hv ha hn hdb he hpl) fun σ H Q m => opImp hp m
theorem e_callTy (hc : CallR X (.type T) r) (hp : Prim X.K r g) (hg : Gl X x) (hm : X.mg x = none) (hv : bootBuiltins x = some (.type T)) (ha : PA X (e :: es) (RdA X.K W fs)) (hn : x ≠ "__name__" := by decide) (hdb : (x == ("__debug__" : Str)) = false := by decide)
    (he : starEach (e :: es) X.env = (false, eval e X.env) :: starEach es X.env := by rfl) (hpl : (backTo pos (starEach es X.env)).any (·.1) = false := by rfl) : PE X (.Call (.Name x p) (e :: es) [] pos) (RdE X.K W (opF g fs)) :=
  pe_imp (pe_callTy hc hg hm hv ha hn hdb he hpl) fun σ H Q m => opImp hp m
theorem e_tup {x1} (h : PA X es (RdA X.K W fs)) : PE X (.Tuple es x1 pos) (tTup (RdA X.K W fs)) := pe_tup h
end
end PyD

namespace PyD
open PySem PySem.Spec L2

/-! ### tests -/
/-- a value's truth -/
def truD : D → Option Bool
  | .non => some false
  | .bl b => some b
  | .int i => some (i != 0)
  | .str s => if s.length ≤ sizeLine then some ((s.length : Int) != 0) else none
  | .tup ds => some (!ds.isEmpty)
  | .lst ds => some (!ds.isEmpty)
  | .dic ds => some (!ds.isEmpty)
  | .obj _ _ => none
  | .scr _ => none
  | .exn _ _ => none
def tstF (f : M R) : M Bool := fun en => match f en with
  | .ok r en1 => (match rsl en1 r with
    | some d => (match truD d with
      | some b => .ok b en1
      | none => .bad)
    | none => .bad)
  | .exc x en1 => .exc x en1
  | .bad => .bad
def blD : D → Option Bool
  | .bl b => some b
  | _ => none
/-- .. of a comparison -/
def tstB (f : M R) : M Bool := fun en => match f en with
  | .ok r en1 => (match rsl en1 r with
    | some d => (match blD d with
      | some b => .ok b en1
      | none => .bad)
    | none => .bad)
  | .exc x en1 => .exc x en1
  | .bad => .bad
def notT (f : M Bool) : M Bool := fun en => match f en with
  | .ok b en1 => .ok (!b) en1
  | .exc x en1 => .exc x en1
  | .bad => .bad
def andT (f g : M Bool) : M Bool := fun en => match f en with
  | .ok true en1 => g en1
  | .ok false en1 => .ok false en1
  | .exc x en1 => .exc x en1
  | .bad => .bad
def orT (f g : M Bool) : M Bool := fun en => match f en with
  | .ok true en1 => .ok true en1
  | .ok false en1 => g en1
  | .exc x en1 => .exc x en1
  | .bad => .bad
/-- a if t else b -/
def ifF (t : M Bool) (f g : M R) : M R := fun en => match t en with
  | .ok true en1 => f en1
  | .ok false en1 => g en1
  | .exc x en1 => .exc x en1
  | .bad => .bad
/-- and, or, not of truths, as values -/
def andF (f g : M R) : M R := fun en => match tstB f en with
  | .ok true en1 => g en1
  | .ok false en1 => .ok (.sh (.bl false)) en1
  | .exc x en1 => .exc x en1
  | .bad => .bad
def orF (f g : M R) : M R := fun en => match tstB f en with
  | .ok true en1 => .ok (.sh (.bl true)) en1
  | .ok false en1 => g en1
  | .exc x en1 => .exc x en1
  | .bad => .bad
def notF (f : M R) : M R := fun en => match tstB f en with
  | .ok b en1 => .ok (.sh (.bl (!b))) en1
  | .exc x en1 => .exc x en1
  | .bad => .bad

section
variable {K : PySem.W.Frag} {W : WX} {B B' : Addr → Prop} {U : Addr → Prop} {H H' : Hp} {σ : L2.St} {en en' : En} {d : D} {v : V}
theorem RepL.nil_iff : ∀ {ds : List D} {vs : List V}, RepL K U H ds vs → (!ds.isEmpty) = !vs.isEmpty
  | [], vs, h => by
    unfold RepL at h
    rw [h] <;> rfl
  | d :: ds, vs, h => by
    unfold RepL at h
    obtain ⟨v, r, e, _⟩ := h
    rw [e] <;> rfl
theorem RepK.nil_iff : ∀ {ds : List (Key × D)} {vs : List (Key × V)}, RepK K U H ds vs → (!ds.isEmpty) = !vs.isEmpty
  | [], vs, h => by
    unfold RepK at h
    rw [h] <;> rfl
  | (k, d) :: ds, vs, h => by
    unfold RepK at h
    obtain ⟨v, r, e, _⟩ := h
    rw [e] <;> rfl
theorem ARep.tru : ∀ {d : D} {v : V} {b : Bool}, ARep K U H d v → truD d = some b → TruV K v H b
  | .non, v, b, h, e => by
    unfold ARep Rep at h
    rw [h]
    exact (Option.some.inj e).symm
  | .bl _, v, b, h, e => by
    unfold ARep Rep at h
    rw [h]
    exact (Option.some.inj e).symm
  | .int _, v, b, h, e => by
    unfold ARep Rep at h
    rw [h]
    exact (Option.some.inj e).symm
  | .str s, v, b, h, e => by
    unfold ARep Rep at h
    rw [h]
    unfold truD at e
    dsimp only at e
    by_cases q : s.length ≤ sizeLine
    · rw [if_pos q] at e
      exact ⟨q, (Option.some.inj e).symm⟩
    · rw [if_neg q] at e
      cases e
  | .tup ds, v, b, h, e => by
    unfold ARep Rep at h
    obtain ⟨a, vs, e1, _, ha, r⟩ := h
    rw [e1, ← Option.some.inj e]
    exact .inr (.inl ⟨vs, SqT.of ha, r.nil_iff⟩)
  | .lst ds, v, b, h, e => by
    obtain ⟨a, vs, e1, ha, r⟩ := h
    rw [e1, ← Option.some.inj e]
    exact .inl ⟨vs, SqL.of ha, r.nil_iff⟩
  | .dic ds, v, b, h, e => by
    obtain ⟨a, vs, e1, ha, r⟩ := h
    rw [e1, ← Option.some.inj e]
    exact .inr (.inr ⟨vs, ha, r.nil_iff⟩)
  | .obj _ _, v, b, h, e => by
    unfold truD at e
    cases e
  | .scr _, v, b, h, e => by
    unfold truD at e
    cases e
  | .exn _ _, v, b, h, e => by
    unfold truD at e
    cases e
theorem RdT.mono {f : M Bool} {Q Q' : Bool → Hp → Prop} (h : ∀ v H, Q v H → Q' v H) (r : RdT K W f σ H Q) : RdT K W f σ H Q' := by
  obtain ⟨B, en, G, m⟩ := r
  refine ⟨B, en, G, ?_⟩
  revert m
  cases f en with
  | ok r en' => exact fun m H' a b => h _ H' (m H' a b)
  | exc x en' => exact fun m => m
  | bad => exact fun m => m
theorem tstImp {f : M R} {Q : Bool → Hp → Prop} (m : RdT K W (tstF f) σ H Q) : RdE K W f σ H fun x H' => ∃ k, TruV K x H' k ∧ Q k H' := by
  obtain ⟨B, en, G, m⟩ := m
  refine ⟨B, en, G, ?_⟩
  unfold tstF at m
  cases e1 : f en with
  | bad => rw [e1] at m; exact m
  | exc x en1 => rw [e1] at m; exact m
  | ok r en1 =>
    rw [e1] at m
    dsimp only at m ⊢
    intro v H1 ⟨B1, b1, G1, r1, n1⟩ st1
    cases e2 : rsl en1 r with
    | none => rw [e2] at m; exact m.elim
    | some d =>
      rw [e2] at m
      dsimp only at m
      cases e3 : truD d with
      | none => rw [e3] at m; exact m.elim
      | some b =>
        rw [e3] at m
        exact ⟨b, ARep.tru (ArgR.arep G1 r1 e2) e3, m H1 ⟨B1, b1, G1⟩ st1⟩
theorem tstBImp {f : M R} {Q : Bool → Hp → Prop} (m : RdT K W (tstB f) σ H Q) : RdE K W f σ H fun x H' => ∃ k, x = .bl k ∧ Q k H' := by
  obtain ⟨B, en, G, m⟩ := m
  refine ⟨B, en, G, ?_⟩
  unfold tstB at m
  cases e1 : f en with
  | bad => rw [e1] at m; exact m
  | exc x en1 => rw [e1] at m; exact m
  | ok r en1 =>
    rw [e1] at m
    dsimp only at m ⊢
    intro v H1 ⟨B1, b1, G1, r1, n1⟩ st1
    cases e2 : rsl en1 r with
    | none => rw [e2] at m; exact m.elim
    | some d =>
      rw [e2] at m
      dsimp only at m
      have ar := ArgR.arep G1 r1 e2
      cases d with
      | bl b =>
        unfold ARep Rep at ar
        exact ⟨b, ar, m H1 ⟨B1, b1, G1⟩ st1⟩
      | non => exact m.elim
      | int _ => exact m.elim
      | str _ => exact m.elim
      | tup _ => exact m.elim
      | lst _ => exact m.elim
      | dic _ => exact m.elim
      | obj _ _ => exact m.elim
      | scr _ => exact m.elim
      | exn _ _ => exact m.elim
theorem ExR.mono {x : Ex} {c : Value} {od : Option Addr} {U U' : Addr → Prop} (h : ∀ a, U' a → U a) (e : ExR K U H x c od) : ExR K U' H x c od := by
  obtain ⟨h1, h2⟩ := e
  refine ⟨h1, ?_⟩
  revert h2
  cases x.fld with
  | none => exact fun h2 => h2
  | some fd => exact fun ⟨a, v, e, nu, ha, hr⟩ => ⟨a, v, e, fun q => nu (h a q), ha, Rep.to (fun a o x n => ⟨x, fun q => n (h a q)⟩) _ _ hr⟩
/-- a test, then what is read by a second reading -/
theorem RdT.bind {f : M Bool} {Q : Bool → Hp → Prop} (G : Good K B H σ en) (m : match f en with
    | .ok b en' => ∀ H' B', Bx B B' σ en H → Good K B' H' σ en' → Stp σ en H σ en' H' → Q b H'
    | .exc x en' => ∀ c od H', ExR K (Un B σ en') H' x c od → Good K B H' σ en' → Stp σ en H σ en' H' → W c od σ H'
    | .bad => False) : RdT K W f σ H Q := by
  refine ⟨B, en, G, ?_⟩
  revert m
  cases f en with
  | ok b en' => exact fun m H' ⟨B', b, g⟩ st => m H' B' b g st
  | exc x en' => exact fun m => m
  | bad => exact fun m => m
/-- the second part of a test, its state carried back to the start -/
theorem RdT.of {f : M Bool} {Q : Bool → Hp → Prop} {en1 : En} {H1 : Hp} {B1 : Addr → Prop} (b1 : Bx B B1 σ en H) (G1 : Good K B1 H1 σ en1) (st1 : Stp σ en H σ en1 H1) (m : match f en1 with
    | .ok b en' => ∀ H', (∃ B', Bx B B' σ en H ∧ Good K B' H' σ en') → Stp σ en H σ en' H' → Q b H'
    | .exc x en' => ∀ c od H', ExR K (Un B σ en') H' x c od → Good K B H' σ en' → Stp σ en H σ en' H' → W c od σ H'
    | .bad => False) : RdT K W f σ H1 Q := by
  refine ⟨B1, en1, G1, ?_⟩
  revert m
  cases f en1 with
  | ok b en' => exact fun m H' ⟨B', b', g⟩ st => m H' ⟨B', b1.trans st1 b', g⟩ (st1.trans st)
  | exc x en' => exact fun m c od H' e g st => m c od H' (e.mono fun a q => Un.mono b1.up q) (g.mono b1.up) (st1.trans st)
  | bad => exact fun m => m
theorem RdE.of {f : M R} {Q : VK} {en1 : En} {H1 : Hp} {B1 : Addr → Prop} (b1 : Bx B B1 σ en H) (G1 : Good K B1 H1 σ en1) (st1 : Stp σ en H σ en1 H1) (m : match f en1 with
    | .ok r en' => ∀ v H', (∃ B', Bx B B' σ en H ∧ Good K B' H' σ en' ∧ ArgR K B' σ en' H' r v ∧ frN σ en H r v) → Stp σ en H σ en' H' → Q v H'
    | .exc x en' => ∀ c od H', ExR K (Un B σ en') H' x c od → Good K B H' σ en' → Stp σ en H σ en' H' → W c od σ H'
    | .bad => False) : RdE K W f σ H1 Q := by
  refine ⟨B1, en1, G1, ?_⟩
  revert m
  cases f en1 with
  | ok b en' => exact fun m v H' ⟨B', b', g, r, n⟩ st => m v H' ⟨B', b1.trans st1 b', g, r, n.step st1⟩ (st1.trans st)
  | exc x en' => exact fun m c od H' e g st => m c od H' (e.mono fun a q => Un.mono b1.up q) (g.mono b1.up) (st1.trans st)
  | bad => exact fun m => m
theorem notImp {f : M Bool} {Q : Bool → Hp → Prop} (m : RdT K W (notT f) σ H Q) : tNot (RdT K W f) σ H Q := by
  obtain ⟨B, en, G, m⟩ := m
  refine ⟨B, en, G, ?_⟩
  unfold notT at m
  cases e1 : f en with
  | bad => rw [e1] at m; exact m
  | exc x en1 => rw [e1] at m; exact m
  | ok r en1 => rw [e1] at m; exact m
theorem andImp {f g : M Bool} {Q : Bool → Hp → Prop} (m : RdT K W (andT f g) σ H Q) : tAnd (RdT K W f) (RdT K W g) σ H Q := by
  obtain ⟨B, en, G, m⟩ := m
  refine ⟨B, en, G, ?_⟩
  unfold andT at m
  cases e1 : f en with
  | bad => rw [e1] at m; exact m
  | exc x en1 => rw [e1] at m; exact m
  | ok r en1 =>
    rw [e1] at m
    intro H1 ⟨B1, b1, G1⟩ st1
    cases r with
    | false => exact m H1 ⟨B1, b1, G1⟩ st1
    | true => exact RdT.of b1 G1 st1 m
theorem orImp {f g : M Bool} {Q : Bool → Hp → Prop} (m : RdT K W (orT f g) σ H Q) : tOr (RdT K W f) (RdT K W g) σ H Q := by
  obtain ⟨B, en, G, m⟩ := m
  refine ⟨B, en, G, ?_⟩
  unfold orT at m
  cases e1 : f en with
  | bad => rw [e1] at m; exact m
  | exc x en1 => rw [e1] at m; exact m
  | ok r en1 =>
    rw [e1] at m
    intro H1 ⟨B1, b1, G1⟩ st1
    cases r with
    | true => exact m H1 ⟨B1, b1, G1⟩ st1
    | false => exact RdT.of b1 G1 st1 m
theorem ifImp {t : M Bool} {f g : M R} {Q : VK} (m : RdE K W (ifF t f g) σ H Q) : tIf (RdT K W t) (RdE K W f) (RdE K W g) σ H Q := by
  obtain ⟨B, en, G, m⟩ := m
  refine ⟨B, en, G, ?_⟩
  unfold ifF at m
  cases e1 : t en with
  | bad => rw [e1] at m; exact m
  | exc x en1 => rw [e1] at m; exact m
  | ok r en1 =>
    rw [e1] at m
    intro H1 ⟨B1, b1, G1⟩ st1
    cases r with
    | true => exact RdE.of b1 G1 st1 m
    | false => exact RdE.of b1 G1 st1 m
theorem tstB_inv {f : M R} (Q : VK) {k : Bool → En → Prop} (G : Good K B H σ en) (m : match tstB f en with
    | .ok b en1 => ∀ H1 B1, Bx B B1 σ en H → Good K B1 H1 σ en1 → Stp σ en H σ en1 H1 → Q (.bl b) H1
    | .exc x en' => ∀ c od H', ExR K (Un B σ en') H' x c od → Good K B H' σ en' → Stp σ en H σ en' H' → W c od σ H'
    | .bad => False) : RdE K W f σ H fun x H1 => ∃ c, x = .bl c ∧ Q (.bl c) H1 := by
  refine tstBImp (Q := fun c H1 => Q (.bl c) H1) ⟨B, en, G, ?_⟩
  revert m
  cases tstB f en with
  | ok b en1 => exact fun m H1 ⟨B1, b1, G1⟩ st => m H1 B1 b1 G1 st
  | exc x en1 => exact fun m => m
  | bad => exact fun m => m
theorem andVImp {f g : M R} {Q : VK} (m : RdE K W (andF f g) σ H Q) : tAndV (RdE K W f) (RdE K W g) σ H Q := by
  obtain ⟨B, en, G, m⟩ := m
  unfold andF at m
  refine RdE.mono (fun v H1 q => ?_) (tstBImp (Q := fun c H1 => if c = true then RdE K W g σ H1 Q else Q (.bl false) H1) ⟨B, en, G, ?_⟩)
  · exact q
  · cases e1 : tstB f en with
    | bad => rw [e1] at m; exact m
    | exc x en1 => rw [e1] at m; exact m
    | ok r en1 =>
      rw [e1] at m
      intro H1 ⟨B1, b1, G1⟩ st1
      cases r with
      | true => exact RdE.of b1 G1 st1 m
      | false => exact m (.bl false) H1 ⟨B1, b1, G1, (by unfold ArgR Rep; rfl), trivial⟩ st1
theorem orVImp {f g : M R} {Q : VK} (m : RdE K W (orF f g) σ H Q) : tOrV (RdE K W f) (RdE K W g) σ H Q := by
  obtain ⟨B, en, G, m⟩ := m
  unfold orF at m
  refine RdE.mono (fun v H1 q => ?_) (tstBImp (Q := fun c H1 => if c = true then Q (.bl true) H1 else RdE K W g σ H1 Q) ⟨B, en, G, ?_⟩)
  · exact q
  · cases e1 : tstB f en with
    | bad => rw [e1] at m; exact m
    | exc x en1 => rw [e1] at m; exact m
    | ok r en1 =>
      rw [e1] at m
      intro H1 ⟨B1, b1, G1⟩ st1
      cases r with
      | false => exact RdE.of b1 G1 st1 m
      | true => exact m (.bl true) H1 ⟨B1, b1, G1, (by unfold ArgR Rep; rfl), trivial⟩ st1
theorem notVImp {f : M R} {Q : VK} (m : RdE K W (notF f) σ H Q) : tNotV (RdE K W f) σ H Q := by
  obtain ⟨B, en, G, m⟩ := m
  unfold notF at m
  refine RdE.mono (fun v H1 q => ?_) (tstBImp (Q := fun c H1 => Q (.bl (!c)) H1) ⟨B, en, G, ?_⟩)
  · exact q
  · cases e1 : tstB f en with
    | bad => rw [e1] at m; exact m
    | exc x en1 => rw [e1] at m; exact m
    | ok r en1 =>
      rw [e1] at m
      intro H1 ⟨B1, b1, G1⟩ st1
      exact m (.bl (!r)) H1 ⟨B1, b1, G1, (by unfold ArgR Rep; rfl), trivial⟩ st1
end
section
variable {X : Cx} {W : WX} {pos : Pos} {a b c : Expr} {rest : List Expr} {fa fb : M R} {ta tb : M Bool} {g : List D → Option (Bool × D)}
theorem t_truth (ha : PE X a (RdE X.K W fa)) (he : ∀ whole, isTrue a X.env whole = (do let v ← whole; standAt a.pos; holding [v] (truthy v)) := by intro _; rfl) : PT X a (RdT X.K W (tstF fa)) :=
  pt_imp (pt_truth ha he) fun σ H Q m => tstImp m
theorem t_val (ha : PE X a (RdE X.K W fa)) (he : ∀ whole, isTrue a X.env whole = (do let v ← whole; standAt a.pos; holding [v] (truthy v)) := by intro _; rfl) : PT X a (RdT X.K W (tstB fa)) :=
  pt_imp (pt_val ha he) fun σ H Q m => tstBImp m
theorem t_cmp {op : CmpOp} {r : R2} (ho : OpR X (compareOp op) r) (hp : Prim X.K (r2 r) g) (ha : PE X a (RdE X.K W fa)) (hb : PE X b (RdE X.K W fb)) (hm : behindInMarks op b = false) : PT X (.Compare a [op] [b] pos) (RdT X.K W (tstB (opF g (two fa fb)))) :=
  pt_imp (pt_cmpR ho ha hb hm) fun σ H Q m => impOp hp (tstBImp m)
theorem t_not (ha : PT X a (RdT X.K W ta)) : PT X (.UnaryOp .Not a pos) (RdT X.K W (notT ta)) := pt_imp (pt_not ha) fun σ H Q m => notImp m
theorem w_and1 (ha : PT X a (RdT X.K W ta)) : PW X (.BoolOp .And [a] pos) (RdT X.K W ta) := pw_and1 ha
theorem w_or1 (ha : PT X a (RdT X.K W ta)) : PW X (.BoolOp .Or [a] pos) (RdT X.K W ta) := pw_or1 ha
theorem w_and (ha : PT X a (RdT X.K W ta)) (hb : PW X (.BoolOp .And (b :: rest) pos) (RdT X.K W tb)) : PW X (.BoolOp .And (a :: b :: rest) pos) (RdT X.K W (andT ta tb)) := pw_imp (pw_and ha hb) fun σ H Q m => andImp m
theorem w_or (ha : PT X a (RdT X.K W ta)) (hb : PW X (.BoolOp .Or (b :: rest) pos) (RdT X.K W tb)) : PW X (.BoolOp .Or (a :: b :: rest) pos) (RdT X.K W (orT ta tb)) := pw_imp (pw_or ha hb) fun σ H Q m => orImp m
theorem e_one {op} (h : PE X a (RdE X.K W fa)) : PE X (.BoolOp op [a] pos) (RdE X.K W fa) := pe_one h
theorem e_and (ha : PE X a (RdE X.K W fa)) (hb : PE X (.BoolOp .And (b :: rest) pos) (RdE X.K W fb)) : PE X (.BoolOp .And (a :: b :: rest) pos) (RdE X.K W (andF fa fb)) := pe_imp (pe_and ha hb) fun σ H Q m => andVImp m
theorem e_or (ha : PE X a (RdE X.K W fa)) (hb : PE X (.BoolOp .Or (b :: rest) pos) (RdE X.K W fb)) : PE X (.BoolOp .Or (a :: b :: rest) pos) (RdE X.K W (orF fa fb)) := pe_imp (pe_or ha hb) fun σ H Q m => orVImp m
theorem e_not (ha : PE X a (RdE X.K W fa)) : PE X (.UnaryOp .Not a pos) (RdE X.K W (notF fa)) := pe_imp (pe_not ha) fun σ H Q m => notVImp m
theorem e_if (hc : PT X c (RdT X.K W ta)) (ha : PE X a (RdE X.K W fa)) (hb : PE X b (RdE X.K W fb)) : PE X (.IfExp c a b pos) (RdE X.K W (ifF ta fa fb)) := pe_imp (pe_ifExp hc ha hb) fun σ H Q m => ifImp m
end
end PyD

namespace PyD
open PySem PySem.Spec L2

/-! ### what statements mean -/
def skF : En → Fl := fun en => .nx en
def seqF (f g : En → Fl) : En → Fl := fun en => match f en with
  | .nx en1 => g en1
  | o => o
def bkF : En → Fl := fun en => .bk en
def ctF : En → Fl := fun en => .ct en
def drF (f : M R) : En → Fl := fun en => match f en with
  | .ok _ en1 => .nx en1
  | .exc x en1 => .exc x en1
  | .bad => .bad
def rtF (f : M R) : En → Fl := fun en => match f en with
  | .ok r en1 => .rt r en1
  | .exc x en1 => .exc x en1
  | .bad => .bad
def rtN : En → Fl := fun en => .rt (.sh .non) en
def ifS (t : M Bool) (f g : En → Fl) : En → Fl := fun en => match t en with
  | .ok true en1 => f en1
  | .ok false en1 => g en1
  | .exc x en1 => .exc x en1
  | .bad => .bad
/-- may the slot be stored to -/
def freeAt (en : En) (i : Nat) : Bool := match en[i]? with
  | some (.o true _) => false
  | some _ => true
  | none => false
/-- name = e, e shared from now on -/
def asV (i : Nat) (f : M R) : En → Fl := fun en => match f en with
  | .ok r en1 => (match freeAt en1 i with
    | true => (match r with
      | .sh d => .nx (en1.set i (.v d))
      | .fr d => .nx (en1.set i (.v d))
      | .sl _ => .bad)
    | false => .bad)
  | .exc x en1 => .exc x en1
  | .bad => .bad
/-- name = e, e new, owned from now on -/
def asO (i : Nat) (f : M R) : En → Fl := fun en => match f en with
  | .ok r en1 => (match freeAt en1 i with
    | true => (match r with
      | .fr d => .nx (en1.set i (.o false d))
      | _ => .bad)
    | false => .bad)
  | .exc x en1 => .exc x en1
  | .bad => .bad
/-- targets: a name; a tuple of names -/
def gNm (i : Nat) : D → M Unit := fun d en => match freeAt en i with
  | true => .ok () (en.set i (.v d))
  | false => .bad
def gNms : List Nat → List D → M Unit
  | [], [], en => .ok () en
  | i :: is, d :: ds, en => (match freeAt en i with
    | true => gNms is ds (en.set i (.v d))
    | false => .bad)
  | _, _, _ => .bad
def gTp (is : List Nat) : D → M Unit := fun d en => match d with
  | .tup ds => gNms is ds en
  | _ => .bad
/-- targets = e -/
def asG (g : D → M Unit) (f : M R) : En → Fl := fun en => match f en with
  | .ok (.sh d) en1 => (match g d en1 with
    | .ok _ en2 => .nx en2
    | _ => .bad)
  | .ok _ _ => .bad
  | .exc x en1 => .exc x en1
  | .bad => .bad
/-- a, b = x, y -/
def asP (i j : Nat) (fs : M (List R)) : En → Fl := fun en => match fs en with
  | .ok [.sh d, .sh d'] en1 => (match freeAt en1 i with
    | true => (match freeAt en1 j with
      | true => .nx ((en1.set i (.v d)).set j (.v d'))
      | false => .bad)
    | false => .bad)
  | .ok _ _ => .bad
  | .exc x en1 => .exc x en1
  | .bad => .bad
def whF (t : M Bool) (f : En → Fl) : Nat → En → Fl
  | 0, _ => .bad
  | n + 1, en => match t en with
    | .ok true en1 => (match f en1 with
      | .nx en2 => whF t f n en2
      | .ct en2 => whF t f n en2
      | .bk en2 => .nx en2
      | o => o)
    | .ok false en1 => .nx en1
    | .exc x en1 => .exc x en1
    | .bad => .bad
def frL (g : D → M Unit) (f : En → Fl) : List D → En → Fl
  | [], en => .nx en
  | d :: ds, en => match g d en with
    | .ok _ en1 => (match f en1 with
      | .nx en2 => frL g f ds en2
      | .ct en2 => frL g f ds en2
      | .bk en2 => .nx en2
      | o => o)
    | _ => .bad
def frF (it : M (List D)) (g : D → M Unit) (f : En → Fl) : En → Fl := fun en => match it en with
  | .ok ds en1 => frL g f ds en1
  | .exc x en1 => .exc x en1
  | .bad => .bad

section
variable {K : PySem.W.Frag} {W : WX} {B B' B1 : Addr → Prop} {U : Addr → Prop} {H H' H1 : Hp} {σ σ' σ1 : L2.St} {en en' en1 : En} {d : D} {v : V} {i : Nat} {p : Addr} {D0 : Ends}
/-- a statement's reading from a later state -/
def QS (K : PySem.W.Frag) (W : WX) (B : Addr → Prop) (σ : L2.St) (en : En) (H : Hp) (D : Ends) (f : Fl) : Prop := match f with
  | .nx en' => ∀ σ' H', Good K B H' σ' en' → Stp σ en H σ' en' H' → D.nx σ' H'
  | .bk en' => ∀ σ' H', Good K B H' σ' en' → Stp σ en H σ' en' H' → D.bk σ' H'
  | .ct en' => ∀ σ' H', Good K B H' σ' en' → Stp σ en H σ' en' H' → D.ct σ' H'
  | .rt r en' => ∀ v σ' H', (∃ B', Bx B B' σ en H ∧ Good K B' H' σ' en' ∧ ArgR K B' σ' en' H' r v ∧ frN σ en H r v) → Stp σ en H σ' en' H' → D.rt v H'
  | .exc x en' => ∀ c od σ' H', ExR K (Un B σ' en') H' x c od → Good K B H' σ' en' → Stp σ en H σ' en' H' → W c od σ' H'
  | .bad => False
theorem QS.to {f : Fl} (b1 : Bx B B1 σ en H) (st : Stp σ en H σ1 en1 H1) (q : QS K W B σ en H D0 f) : QS K W B1 σ1 en1 H1 D0 f := by
  cases f with
  | nx en' => exact fun σ' H' g s => q σ' H' (g.mono b1.up) (st.trans s)
  | bk en' => exact fun σ' H' g s => q σ' H' (g.mono b1.up) (st.trans s)
  | ct en' => exact fun σ' H' g s => q σ' H' (g.mono b1.up) (st.trans s)
  | rt r en' => exact fun v σ' H' ⟨B', b, g, r, n⟩ s => q v σ' H' ⟨B', b1.trans st b, g, r, n.step st⟩ (st.trans s)
  | exc x en' => exact fun c od σ' H' e g s => q c od σ' H' (e.mono fun a z => Un.mono b1.up z) (g.mono b1.up) (st.trans s)
  | bad => exact q
/-- the body's reading, its ends by QS -/
theorem RdS.of {f : En → Fl} (b1 : Bx B B1 σ en H) (G1 : Good K B1 H1 σ1 en1) (st : Stp σ en H σ1 en1 H1) (q : QS K W B σ en H D0 (f en1)) : RdS K W f D0 σ1 H1 :=
  ⟨B1, en1, G1, QS.to b1 st q⟩
theorem RdS.qs {f : En → Fl} (m : RdS K W f D0 σ H) : ∃ B en, Good K B H σ en ∧ QS K W B σ en H D0 (f en) := m
theorem seqImp {f g : En → Fl} (m : RdS K W (seqF f g) D0 σ H) : tSeq (RdS K W f) (RdS K W g) D0 σ H := by
  obtain ⟨B, en, G, m⟩ := RdS.qs m
  refine ⟨B, en, G, ?_⟩
  unfold seqF at m
  cases e : f en with
  | nx en1 =>
    rw [e] at m
    exact fun σ' H' g' st => RdS.of (Bx.refl B σ en H) g' st m
  | bk en1 => rw [e] at m; exact m
  | ct en1 => rw [e] at m; exact m
  | rt r en1 => rw [e] at m; exact m
  | exc x en1 => rw [e] at m; exact m
  | bad => rw [e] at m; exact m
theorem drImp {f : M R} (m : RdS K W (drF f) D0 σ H) : tDrop (RdE K W f) D0 σ H := by
  obtain ⟨B, en, G, m⟩ := RdS.qs m
  refine ⟨B, en, G, ?_⟩
  unfold drF at m
  cases e : f en with
  | ok r en1 =>
    rw [e] at m
    exact fun v H' ⟨B', b, g, _, _⟩ st => m σ H' (g.mono b.up) st
  | exc x en1 => rw [e] at m; exact fun c od H' => m c od σ H'
  | bad => rw [e] at m; exact m
theorem rtImp {f : M R} (m : RdS K W (rtF f) D0 σ H) : tRet (RdE K W f) D0 σ H := by
  obtain ⟨B, en, G, m⟩ := RdS.qs m
  refine ⟨B, en, G, ?_⟩
  unfold rtF at m
  cases e : f en with
  | ok r en1 => rw [e] at m; exact fun v H' => m v σ H'
  | exc x en1 => rw [e] at m; exact fun c od H' => m c od σ H'
  | bad => rw [e] at m; exact m
theorem ifSImp {t : M Bool} {f g : En → Fl} (m : RdS K W (ifS t f g) D0 σ H) : tIfS (RdT K W t) (RdS K W f) (RdS K W g) D0 σ H := by
  obtain ⟨B, en, G, m⟩ := RdS.qs m
  refine ⟨B, en, G, ?_⟩
  unfold ifS at m
  cases e : t en with
  | ok b en1 =>
    rw [e] at m
    intro H' ⟨B', b', g'⟩ st
    cases b with
    | true => exact RdS.of b' g' st m
    | false => exact RdS.of b' g' st m
  | exc x en1 => rw [e] at m; exact fun c od H' => m c od σ H'
  | bad => rw [e] at m; exact m

/-! ### stores to names -/
theorem freeAt_lt (h : freeAt en i = true) : i < en.length ∧ ∀ d, en[i]? ≠ some (.o true d) := by
  unfold freeAt at h
  cases e : en[i]? with
  | none => rw [e] at h; cases h
  | some s => exact ⟨get_lt e, fun d z => by
      cases z
      rw [e] at h
      cases h⟩
theorem own_set_v {a : Addr} (hi : i < en.length) (h : Own (σ.set i (some v)) (en.set i (.v d)) a) : Own σ en a := by
  obtain ⟨j, b, d', e, s⟩ := h
  rcases set_get e with ⟨_, q, _⟩ | ⟨ne, q⟩
  · cases q
  · rw [List.getElem?_set_ne ne] at s
    exact ⟨j, b, d', q, s⟩
theorem Good.set_v (G : Good K B' H σ en) (up : ∀ a, B a → B' a) (hi : i < en.length) (r : Rep K (Un B σ en) H d v) : Good K B H (σ.set i (some v)) (en.set i (.v d)) := by
  have t : ∀ a o, H a = some o → ¬ Un B' σ en a → H a = some o ∧ ¬ Un B (σ.set i (some v)) (en.set i (.v d)) a := fun a o x n => ⟨x, fun z => n (z.imp (up a) (own_set_v hi))⟩
  exact {
    len := by rw [List.length_set, List.length_set]; exact G.len
    all := fun a h => G.all a (up a h)
    rep := fun j d' e => by
      rcases set_get e with ⟨e1, q, hl⟩ | ⟨ne, q⟩
      · cases q
        subst e1
        refine ⟨v, ?_, Rep.to (fun a o x n => ⟨x, fun z => n (z.imp id (own_set_v hi))⟩) d v r⟩
        rw [List.getElem?_set, if_pos rfl, if_pos (by rw [G.len]; exact hl)]
      · obtain ⟨v', s, r'⟩ := G.rep j d' q
        exact ⟨v', by rw [List.getElem?_set_ne ne]; exact s, Rep.to t d' v' r'⟩
    own := fun j b d' e => by
      rcases set_get e with ⟨e1, q, hl⟩ | ⟨ne, q⟩
      · cases q
      · obtain ⟨p, s, n, c⟩ := G.own j b d' q
        exact ⟨p, by rw [List.getElem?_set_ne ne]; exact s, fun z => n (up p z), Cont.to t (fun _ x => x) c⟩
    inj := fun j k p b c d1 d2 e1 e2 s1 s2 => by
      rcases set_get e1 with ⟨_, q, _⟩ | ⟨ne1, q1⟩
      · cases q
      · rcases set_get e2 with ⟨_, q, _⟩ | ⟨ne2, q2⟩
        · cases q
        · rw [List.getElem?_set_ne ne1] at s1
          rw [List.getElem?_set_ne ne2] at s2
          exact G.inj j k p b c d1 d2 q1 q2 s1 s2 }
theorem Stp.set_v (hf : freeAt en i = true) : Stp σ en H (σ.set i (some v)) (en.set i (.v d)) H where
  len := List.length_set
  fr := fun _ _ h _ => h
  al := fun _ h => h
  ow := fun a h => .inl (own_set_v (freeAt_lt hf).1 h)
  of := fun a h => .inl (by
    obtain ⟨j, d', e, s⟩ := h
    rcases set_get e with ⟨_, q, _⟩ | ⟨ne, q⟩
    · cases q
    · rw [List.getElem?_set_ne ne] at s
      exact ⟨j, d', q, s⟩)
  pin := fun j d' e => by
    have ne : i ≠ j := fun z => by
      subst z
      exact (freeAt_lt hf).2 d' e
    exact ⟨by rw [List.getElem?_set_ne ne], d', by rw [List.getElem?_set_ne ne]; exact e⟩
  pb := fun j d' e => by
    rcases set_get e with ⟨_, q, _⟩ | ⟨_, q⟩
    · cases q
    · exact ⟨d', q⟩
/-- a new thing, as it is seen when it is not owned -/
theorem fr_rep (bx : Bx B B' σ en H) (G : Good K B H σ en) (G' : Good K B' H' σ' en') (h : ArgR K B' σ' en' H' (.fr d) v) (n : frN σ en H (.fr d) v) : Rep K (Un B σ' en') H' d v := by
  obtain ⟨p, e, bp, c⟩ := h
  subst e
  refine Cont.rep (fun z => ?_) (Cont.to (fun a o x n => ⟨x, fun z => n (Un.mono bx.up z)⟩) (fun _ x => x) c)
  rcases z with z | z
  · rcases n p rfl with q | q
    · exact G.all p z q
    · obtain ⟨i, d, e1, s1⟩ := q
      obtain ⟨p', s2, n2, _⟩ := G.own i false d e1
      rw [s1] at s2
      cases s2
      exact n2 z
  · obtain ⟨i, b, d, e1, s1⟩ := z
    obtain ⟨p', s2, n2, _⟩ := G'.own i b d e1
    rw [s1] at s2
    cases s2
    exact n2 bp
theorem sto_rep (bx : Bx B B' σ en H) (G : Good K B H σ en) (G' : Good K B' H' σ' en') : ∀ {r : R} {v : V} {d : D}, ArgR K B' σ' en' H' r v → frN σ en H r v → (r = .sh d ∨ r = .fr d) → Rep K (Un B σ' en') H' d v
  | .sh d', v, d, h, n, e => by
    rcases e with e | e
    · cases e
      exact Rep.to (fun a o x n => ⟨x, fun z => n (Un.mono bx.up z)⟩) _ _ h
    · cases e
  | .fr d', v, d, h, n, e => by
    rcases e with e | e
    · cases e
    · cases e
      exact fr_rep bx G G' h n
  | .sl i, v, d, h, n, e => by rcases e with e | e <;> cases e
theorem asVImp {f : M R} (m : RdS K W (asV i f) D0 σ H) : tAsg (RdE K W f) (gName i) D0 σ H := by
  obtain ⟨B, en, G, m⟩ := RdS.qs m
  refine ⟨B, en, G, ?_⟩
  unfold asV at m
  cases e : f en with
  | exc x en1 => rw [e] at m; exact fun c od H' => m c od σ H'
  | bad => rw [e] at m; exact m
  | ok r en1 =>
    rw [e] at m
    dsimp only at m
    intro v H' ⟨B', b, g, ra, n⟩ st
    cases hf : freeAt en1 i with
    | false => rw [hf] at m; exact m.elim
    | true =>
      rw [hf] at m
      cases r with
      | sl j => exact m.elim
      | sh d => exact m _ _ (g.set_v b.up (freeAt_lt hf).1 (sto_rep b G g ra n (.inl rfl))) (st.trans (Stp.set_v hf))
      | fr d => exact m _ _ (g.set_v b.up (freeAt_lt hf).1 (sto_rep b G g ra n (.inr rfl))) (st.trans (Stp.set_v hf))
theorem Good.set_o (G : Good K B' H σ en) (up : ∀ a, B a → B' a) (hi : i < en.length) (hp : B' p) (nb : ¬ B p) (c : Cont K (Un B' σ en) H d p) : Good K B H (σ.set i (some (.ref p))) (en.set i (.o false d)) := by
  have no : ¬ Own σ en p := fun z => by
    obtain ⟨j, b, d', e1, s1⟩ := z
    obtain ⟨p', s2, n2, _⟩ := G.own j b d' e1
    rw [s1] at s2
    cases s2
    exact n2 hp
  have ow : ∀ a, Own (σ.set i (some (.ref p))) (en.set i (.o false d)) a → a = p ∨ Own σ en a := fun a h => by
    obtain ⟨j, b, d', e, s⟩ := h
    rcases set_get e with ⟨e1, q, hl⟩ | ⟨ne, q⟩
    · subst e1
      rw [List.getElem?_set, if_pos rfl] at s
      split at s
      · cases s
        exact .inl rfl
      · cases s
    · rw [List.getElem?_set_ne ne] at s
      exact .inr ⟨j, b, d', q, s⟩
  have t : ∀ a o, H a = some o → ¬ Un B' σ en a → H a = some o ∧ ¬ Un B (σ.set i (some (.ref p))) (en.set i (.o false d)) a := fun a o x n => ⟨x, fun z => n (by
    rcases z with z | z
    · exact .inl (up a z)
    · rcases ow a z with z | z
      · rw [z]; exact .inl hp
      · exact .inr z)⟩
  exact {
    len := by rw [List.length_set, List.length_set]; exact G.len
    all := fun a h => G.all a (up a h)
    rep := fun j d' e => by
      rcases set_get e with ⟨e1, q, hl⟩ | ⟨ne, q⟩
      · cases q
      · obtain ⟨v', s, r'⟩ := G.rep j d' q
        exact ⟨v', by rw [List.getElem?_set_ne ne]; exact s, Rep.to t d' v' r'⟩
    own := fun j b d' e => by
      rcases set_get e with ⟨e1, q, hl⟩ | ⟨ne, q⟩
      · cases q
        subst e1
        refine ⟨p, ?_, nb, Cont.to t (fun _ x => x) c⟩
        rw [List.getElem?_set, if_pos rfl, if_pos (by rw [G.len]; exact hl)]
      · obtain ⟨p', s, n, c'⟩ := G.own j b d' q
        exact ⟨p', by rw [List.getElem?_set_ne ne]; exact s, fun z => n (up p' z), Cont.to t (fun _ x => x) c'⟩
    inj := fun j k q b c d1 d2 e1 e2 s1 s2 => by
      rcases set_get e1 with ⟨z1, _, hl⟩ | ⟨ne1, q1⟩
      · rcases set_get e2 with ⟨z2, _, _⟩ | ⟨ne2, q2⟩
        · rw [← z1, ← z2]
        · subst z1
          rw [List.getElem?_set, if_pos rfl, if_pos (by rw [G.len]; exact hl)] at s1
          rw [List.getElem?_set_ne ne2] at s2
          cases s1
          exact absurd ⟨k, c, d2, q2, s2⟩ no
      · rcases set_get e2 with ⟨z2, _, hl⟩ | ⟨ne2, q2⟩
        · subst z2
          rw [List.getElem?_set, if_pos rfl, if_pos (by rw [G.len]; exact hl)] at s2
          rw [List.getElem?_set_ne ne1] at s1
          cases s2
          exact absurd ⟨j, b, d1, q1, s1⟩ no
        · rw [List.getElem?_set_ne ne1] at s1
          rw [List.getElem?_set_ne ne2] at s2
          exact G.inj j k q b c d1 d2 q1 q2 s1 s2 }
theorem asOImp {f : M R} (m : RdS K W (asO i f) D0 σ H) : tAsg (RdE K W f) (gName i) D0 σ H := by
  obtain ⟨B, en, G, m⟩ := RdS.qs m
  refine ⟨B, en, G, ?_⟩
  unfold asO at m
  cases e : f en with
  | exc x en1 => rw [e] at m; exact fun c od H' => m c od σ H'
  | bad => rw [e] at m; exact m
  | ok r en1 =>
    rw [e] at m
    dsimp only at m
    intro v H' ⟨B', b, g, ra, n⟩ st
    cases hf : freeAt en1 i with
    | false => rw [hf] at m; exact m.elim
    | true =>
      rw [hf] at m
      cases r with
      | sl j => exact m.elim
      | sh d => exact m.elim
      | fr d =>
        obtain ⟨p, e1, bp, c⟩ := ra
        subst e1
        have nn := n p rfl
        have nb : ¬ B p := fun z => by
          rcases nn with q | q
          · exact G.all p z q
          · obtain ⟨j, d, e1, s1⟩ := q
            obtain ⟨p', s2, n2, _⟩ := G.own j false d e1
            rw [s1] at s2
            cases s2
            exact n2 z
        refine m _ _ (g.set_o b.up (freeAt_lt hf).1 bp nb c) ?_
        have fin : ∀ {j : Nat} {bb : Bool} {d' : D} {a : Addr}, (en1.set i (.o false d))[j]? = some (.o bb d') → (σ.set i (some (.ref p)))[j]? = some (some (.ref a)) → (a = p ∧ bb = false) ∨ (en1[j]? = some (.o bb d') ∧ σ[j]? = some (some (.ref a))) := fun {j bb d' a} e s => by
          rcases set_get e with ⟨z, q, hl⟩ | ⟨ne, q⟩
          · subst z
            rw [List.getElem?_set, if_pos rfl, if_pos (by rw [g.len]; exact hl)] at s
            cases s
            cases q
            exact .inl ⟨rfl, rfl⟩
          · rw [List.getElem?_set_ne ne] at s
            exact .inr ⟨q, s⟩
        exact {
          len := by rw [List.length_set]; exact st.len
          fr := st.fr
          al := st.al
          ow := fun a h => by
            obtain ⟨j, bb, d', e, s⟩ := h
            rcases fin e s with ⟨q, _⟩ | ⟨q, s⟩
            · rw [q]
              rcases nn with z | z
              · exact .inr z
              · exact .inl z.own
            · exact st.ow a ⟨j, bb, d', q, s⟩
          of := fun a h => by
            obtain ⟨j, d', e, s⟩ := h
            rcases fin e s with ⟨q, _⟩ | ⟨q, s⟩
            · rw [q]
              rcases nn with z | z
              · exact .inr z
              · exact .inl z
            · exact st.of a ⟨j, d', q, s⟩
          pin := fun j d' e => by
            obtain ⟨h1, d2, h2⟩ := st.pin j d' e
            have ne : i ≠ j := fun z => by
              subst z
              exact (freeAt_lt hf).2 d2 h2
            exact ⟨by rw [List.getElem?_set_ne ne], d2, by rw [List.getElem?_set_ne ne]; exact h2⟩
          pb := fun j d' e => by
            rcases set_get e with ⟨_, q, _⟩ | ⟨_, q⟩
            · cases q
            · exact st.pb j d' q }
/-! ### targets -/
theorem RdG.of {g : D → M Unit} {Q : L2.St → Hp → Prop} (G : Good K B H σ en) (r : Rep K (Un B σ en) H d v) {en2 : En} (e : g d en = .ok () en2) (q : ∀ σ' H', Good K B H' σ' en2 → Stp σ en H σ' en2 H' → Q σ' H') : RdG K g v σ H Q :=
  ⟨B, en, d, G, r, by rw [e]; exact q⟩
theorem gNmImp {Q : L2.St → Hp → Prop} (m : RdG K (gNm i) v σ H Q) : gName i v σ H Q := by
  obtain ⟨B, en, d, G, r, m⟩ := m
  unfold gNm at m
  cases hf : freeAt en i with
  | false => rw [hf] at m; exact m.elim
  | true =>
    rw [hf] at m
    exact m _ _ (G.set_v (fun _ h => h) (freeAt_lt hf).1 r) (Stp.set_v hf)
def gNames : List Nat → TGs
  | [] => gNil
  | i :: is => gCons (gName i) (gNames is)
theorem gNmsImp {Q : L2.St → Hp → Prop} : ∀ {is : List Nat} {ds : List D} {vs : List V} {en : En} {σ : L2.St} {en2 : En}, Good K B H σ en → RepL K (Un B σ en) H ds vs → gNms is ds en = .ok () en2 →
    (∀ σ', Good K B H σ' en2 → Stp σ en H σ' en2 H → Q σ' H) → gNames is vs σ H Q
  | [], [], vs, en, σ, en2, G, r, e, q => by
    unfold RepL at r
    cases e
    exact ⟨r, q σ G (Stp.refl σ _ H)⟩
  | [], d :: ds, vs, en, σ, en2, G, r, e, q => by cases e
  | i :: is, [], vs, en, σ, en2, G, r, e, q => by cases e
  | i :: is, d :: ds, vs, en, σ, en2, G, r, e, q => by
    unfold RepL at r
    obtain ⟨v, us, e1, r1, r2⟩ := r
    unfold gNms at e
    cases hf : freeAt en i with
    | false => rw [hf] at e; cases e
    | true =>
      rw [hf] at e
      have st : Stp σ en H (σ.set i (some v)) (en.set i (.v d)) H := Stp.set_v hf
      refine ⟨v, us, e1, ?_⟩
      exact gNmsImp (is := is) (G.set_v (fun _ h => h) (freeAt_lt hf).1 r1) (RepL.to (stepTo st (Bx.refl B σ en H)) _ _ r2) e fun σ' g s => q σ' g (st.trans s)
theorem RepL.len : ∀ {ds : List D} {vs : List V}, RepL K U H ds vs → vs.length = ds.length
  | [], vs, h => by
    unfold RepL at h
    rw [h] <;> rfl
  | d :: ds, vs, h => by
    unfold RepL at h
    obtain ⟨v, us, e, _, r⟩ := h
    rw [e, List.length_cons, List.length_cons, RepL.len r]
theorem gNms_len : ∀ {is : List Nat} {ds : List D} {en en2 : En}, gNms is ds en = .ok () en2 → is.length = ds.length
  | [], [], _, _, _ => rfl
  | [], _ :: _, _, _, e => by cases e
  | _ :: _, [], _, _, e => by cases e
  | i :: is, d :: ds, en, en2, e => by
    unfold gNms at e
    cases hf : freeAt en i with
    | false => rw [hf] at e; cases e
    | true =>
      rw [hf] at e
      rw [List.length_cons, List.length_cons, gNms_len e]
theorem gTpImp {is : List Nat} {Q : L2.St → Hp → Prop} (m : RdG K (gTp is) v σ H Q) : gTup K is.length (gNames is) v σ H Q := by
  obtain ⟨B, en, d, G, r, m⟩ := m
  unfold gTp at m
  cases d with
  | tup ds =>
    dsimp only at m
    unfold Rep at r
    obtain ⟨a, vs, e1, nu, ha, r⟩ := r
    cases e : gNms is ds en with
    | ok u en2 =>
      rw [e] at m
      exact ⟨a, vs, e1, SqT.of ha, by rw [r.len, gNms_len e], gNmsImp G r e fun σ' g s => m σ' H g s⟩
    | exc x en2 => rw [e] at m; exact m.elim
    | bad => rw [e] at m; exact m.elim
  | non => exact m.elim
  | bl _ => exact m.elim
  | int _ => exact m.elim
  | str _ => exact m.elim
  | lst _ => exact m.elim
  | dic _ => exact m.elim
  | obj _ _ => exact m.elim
  | scr _ => exact m.elim
  | exn _ _ => exact m.elim
theorem asGImp {g : D → M Unit} {f : M R} (m : RdS K W (asG g f) D0 σ H) : tAsg (RdE K W f) (RdG K g) D0 σ H := by
  obtain ⟨B, en, G, m⟩ := RdS.qs m
  refine ⟨B, en, G, ?_⟩
  unfold asG at m
  cases e : f en with
  | exc x en1 => rw [e] at m; exact fun c od H' => m c od σ H'
  | bad => rw [e] at m; exact m
  | ok r en1 =>
    rw [e] at m
    intro v H' ⟨B', b, g', ra, n⟩ st
    cases r with
    | sl j => exact m.elim
    | fr j => exact m.elim
    | sh d =>
      dsimp only at m
      refine ⟨B', en1, d, g', ra, ?_⟩
      cases e2 : g d en1 with
      | ok u en2 =>
        rw [e2] at m
        exact fun σ' H'' g2 s2 => m σ' H'' (g2.mono b.up) (st.trans s2)
      | exc x en2 => rw [e2] at m; exact m.elim
      | bad => rw [e2] at m; exact m.elim
theorem asPImp {i j : Nat} {fs : M (List R)} (m : RdS K W (asP i j fs) D0 σ H) : tPar i j (RdA K W fs) D0 σ H := by
  obtain ⟨B, en, G, m⟩ := RdS.qs m
  refine ⟨B, en, G, ?_⟩
  unfold asP at m
  cases e : fs en with
  | exc x en1 => rw [e] at m; exact fun c od H' => m c od σ H'
  | bad => rw [e] at m; exact m
  | ok rs en1 =>
    rw [e] at m
    intro vs H' ⟨B', b, g', ra, n⟩ st
    match rs, m, ra, n with
    | [.sh d, .sh d'], m, ⟨v1, us, e1, r1, v2, us2, e2, r2, e3⟩, n =>
      dsimp only at m
      subst e1
      subst e2
      have e3' : us2 = [] := e3
      subst e3'
      refine ⟨v1, v2, rfl, ?_⟩
      cases hf : freeAt en1 i with
      | false => rw [hf] at m; exact m.elim
      | true =>
        rw [hf] at m
        dsimp only at m
        cases hj : freeAt en1 j with
        | false => rw [hj] at m; exact m.elim
        | true =>
          rw [hj] at m
          have s1 : Stp σ en1 H' (σ.set i (some v1)) (en1.set i (.v d)) H' := Stp.set_v hf
          have fj : freeAt (en1.set i (.v d)) j = true := by
            unfold freeAt
            by_cases q : i = j
            · subst q
              rw [List.getElem?_set, if_pos rfl, if_pos (freeAt_lt hf).1]
            · rw [List.getElem?_set_ne q]
              exact hj
          have g1 := g'.set_v (B := B') (d := d) (v := v1) (fun _ h => h) (freeAt_lt hf).1 r1
          have g2 := g1.set_v (B := B) (i := j) (d := d') (v := v2) b.up (freeAt_lt fj).1 (Rep.to (fun a o x n => ⟨x, fun z => n (Un.mono b.up z)⟩) _ _ (Rep.step s1 (Bx.refl B' σ en1 H') r2))
          exact m _ _ g2 ((st.trans s1).trans (Stp.set_v fj))
    | [], m, _, _ => exact m.elim
    | [.sh _], m, _, _ => exact m.elim
    | [.fr _], m, _, _ => exact m.elim
    | [.sl _], m, _, _ => exact m.elim
    | .fr _ :: _ :: _, m, _, _ => exact m.elim
    | .sl _ :: _ :: _, m, _, _ => exact m.elim
    | .sh _ :: .fr _ :: _, m, _, _ => exact m.elim
    | .sh _ :: .sl _ :: _, m, _, _ => exact m.elim
    | .sh _ :: .sh _ :: _ :: _, m, _, _ => exact m.elim
end
end PyD

namespace PyD
open PySem PySem.Spec L2

/-- the heap is kept outside U -/
def Kp (U : Addr → Prop) (H H' : Hp) : Prop := ∀ a o, H a = some o → ¬ U a → H' a = some o
/-- what is walked: the data ds, one after another, while the heap is kept outside U -/
structure WalkD (K : PySem.W.Frag) (U : Addr → Prop) (H0 : Hp) (J : It) (ds : List D) : Prop where
  go : ∀ i H1, Kp U H0 H1 → i < ds.length → J.go i H1
  stop : ∀ H1, Kp U H0 H1 → J.stop ds.length H1
  yld : ∀ i H1 x H2 d, Kp U H0 H1 → ds[i]? = some d → J.yld i H1 x H2 → Ext H1 H2 ∧ ∀ U1 : Addr → Prop, (∀ a o, H0 a = some o → ¬ U a → ¬ U1 a) → (∀ a, U1 a → H1 a ≠ none) → Rep K U1 H2 d x
def RdI (K : PySem.W.Frag) (W : WX) (f : M (List D)) : TI := fun σ H Rr => ∃ B en, Good K B H σ en ∧ match f en with
  | .ok ds en' => ∀ J H' B', Bx B B' σ en H → Good K B' H' σ en' → Stp σ en H σ en' H' → WalkD K (Un B' σ en') H' J ds → Rr J H'
  | .exc x en' => ∀ c od H', ExR K (Un B σ en') H' x c od → Good K B H' σ en' → Stp σ en H σ en' H' → W c od σ H'
  | .bad => False

section
variable {K : PySem.W.Frag} {W : WX} {B B' B1 : Addr → Prop} {U : Addr → Prop} {H H' H1 : Hp} {σ σ' σ1 : L2.St} {en en' en1 : En} {d : D} {v : V} {i : Nat} {p : Addr} {D0 : Ends}
theorem Stp.kp (s : Stp σ en H σ' en' H') : Kp (Un B σ en) H H' := fun a o e n => s.fr a o e fun z => n (.inr z)
theorem whImp {t : M Bool} {f : En → Fl} {n : Nat} (m : RdS K W (whF t f n) D0 σ H) : tWhile (RdT K W t) (RdS K W f) D0 σ H := by
  obtain ⟨B, en, G, m⟩ := RdS.qs m
  refine ⟨fun k σ' H' => ∃ en', Good K B H' σ' en' ∧ Stp σ en H σ' en' H' ∧ QS K W B σ en H D0 (whF t f k en'), ⟨n, en, G, Stp.refl σ en H, m⟩, ?_⟩
  intro k σ1 H1 ⟨en1, G1, st1, m1⟩
  cases k with
  | zero => exact m1.elim
  | succ k =>
    refine RdT.bind G1 ?_
    unfold whF at m1
    cases e : t en1 with
    | bad => rw [e] at m1; exact m1
    | exc x en2 => rw [e] at m1; exact fun c od H2 ex g s => m1 c od σ1 H2 (ex.mono fun a q => q) g (st1.trans s)
    | ok b en2 =>
      rw [e] at m1
      intro H2 B2 b2 G2 st2
      cases b with
      | false =>
        rw [if_neg Bool.false_ne_true]
        exact m1 σ1 H2 (G2.mono b2.up) (st1.trans st2)
      | true =>
        rw [if_pos rfl]
        dsimp only at m1
        refine ⟨fun σ' H' => ∃ m', m' < k + 1 ∧ ∃ en', Good K B H' σ' en' ∧ Stp σ en H σ' en' H' ∧ QS K W B σ en H D0 (whF t f m' en'), fun σ' H' z => z, ?_⟩
        refine RdS.of (Bx.refl B σ en H) (G2.mono b2.up) (st1.trans st2) ?_
        cases e2 : f en2 with
        | nx en3 => rw [e2] at m1; exact fun σ' H' g s => ⟨k, Nat.lt_succ_self k, en3, g, s, m1⟩
        | ct en3 => rw [e2] at m1; exact fun σ' H' g s => ⟨k, Nat.lt_succ_self k, en3, g, s, m1⟩
        | bk en3 => rw [e2] at m1; exact m1
        | rt r en3 => rw [e2] at m1; exact m1
        | exc x en3 => rw [e2] at m1; exact m1
        | bad => rw [e2] at m1; exact m1
theorem frImp {it : M (List D)} {g : D → M Unit} {f : En → Fl} {tg : TG} (hg : ∀ {v σ H Q}, RdG K g v σ H Q → tg v σ H Q) (m : RdS K W (frF it g f) D0 σ H) : tFor (RdI K W it) tg (RdS K W f) D0 σ H := by
  obtain ⟨B, en, G, m⟩ := RdS.qs m
  refine ⟨B, en, G, ?_⟩
  unfold frF at m
  cases e : it en with
  | exc x en1 => rw [e] at m; exact fun c od H' => m c od σ H'
  | bad => rw [e] at m; exact m
  | ok ds en1 =>
    rw [e] at m
    dsimp only at m ⊢
    intro J H1 B1 b1 G1 st1 wk
    refine ⟨fun i k σ' H' => k + i = ds.length ∧ ∃ en', Good K B1 H' σ' en' ∧ Stp σ en1 H1 σ' en' H' ∧ QS K W B σ en H D0 (frL g f (ds.drop i) en'), ⟨ds.length, by omega, en1, G1, Stp.refl σ en1 H1, m⟩, ?_⟩
    intro i k σ2 H2 ⟨ek, en2, G2, st2, m2⟩
    have kp : Kp (Un B1 σ en1) H1 H2 := st2.kp
    by_cases hi : i < ds.length
    · refine .inr ⟨wk.go i H2 kp hi, fun σ' H' => ∃ m', m' < k ∧ m' + (i + 1) = ds.length ∧ ∃ en', Good K B1 H' σ' en' ∧ Stp σ en1 H1 σ' en' H' ∧ QS K W B σ en H D0 (frL g f (ds.drop (i + 1)) en'), fun σ' H' z => z, ?_⟩
      intro x H3 hy
      have ed : ds[i]? = some ds[i] := List.getElem?_eq_getElem hi
      obtain ⟨x3, r3⟩ := wk.yld i H2 x H3 ds[i] kp ed hy
      have G3 : Good K B1 H3 σ2 en2 := G2.ext0 x3
      have st3 : Stp σ2 en2 H2 σ2 en2 H3 := Stp.ext x3
      have rr : Rep K (Un B1 σ2 en2) H3 ds[i] x := r3 _ (fun a o e1 n z => (stepTo st2 (Bx.refl B1 σ en1 H1) a o e1 n).2 z) (fun a => G2.unAt)
      rw [List.drop_eq_getElem_cons hi] at m2
      unfold frL at m2
      cases e2 : g ds[i] en2 with
      | exc y en3 => rw [e2] at m2; exact m2.elim
      | bad => rw [e2] at m2; exact m2.elim
      | ok u en3 =>
        rw [e2] at m2
        dsimp only at m2
        refine hg (RdG.of G3 rr e2 fun σ4 H4 G4 st4 => ?_)
        have stA : Stp σ en1 H1 σ4 en3 H4 := (st2.trans st3).trans st4
        refine ⟨B1, en3, G4, ?_⟩
        have stB : Stp σ en H σ4 en3 H4 := st1.trans stA
        cases e3 : f en3 with
        | nx en5 => rw [e3] at m2; exact fun σ' H' g' s => ⟨k - 1, by omega, by omega, en5, g', stA.trans s, m2⟩
        | ct en5 => rw [e3] at m2; exact fun σ' H' g' s => ⟨k - 1, by omega, by omega, en5, g', stA.trans s, m2⟩
        | bk en5 => rw [e3] at m2; exact fun σ' H' g' s => m2 σ' H' (g'.mono b1.up) (stB.trans s)
        | rt r en5 => rw [e3] at m2; exact QS.to (W := W) (D0 := D0) (f := .rt r en5) b1 stB m2
        | exc y en5 => rw [e3] at m2; exact QS.to (W := W) (D0 := D0) (f := .exc y en5) b1 stB m2
        | bad => rw [e3] at m2; exact m2
    · have e0 : i = ds.length := by omega
      refine .inl ⟨by rw [e0]; exact wk.stop H2 kp, ?_⟩
      rw [List.drop_eq_nil_of_le (by omega)] at m2
      exact m2 σ2 H2 (G2.mono b1.up) (st1.trans st2)
end

/-! ### rules of statements -/
section
variable {X : Cx} {W : WX} {pos : Pos} {e c : Expr} {st : Stmt} {rest body : List Stmt} {f g : En → Fl} {fe : M R} {t : M Bool}
theorem s_nil : PSs X [] (RdS X.K W skF) := pss_imp pss_nil fun D σ H ⟨B, en, G, m⟩ => m σ H G (Stp.refl σ en H)
theorem s_cons (h1 : PS X st (RdS X.K W f)) (h2 : PSs X rest (RdS X.K W g)) : PSs X (st :: rest) (RdS X.K W (seqF f g)) := pss_imp (pss_cons h1 h2) fun D σ H m => seqImp m
theorem s_one (h1 : PS X st (RdS X.K W f)) : PSs X [st] (RdS X.K W f) := pss_one h1
theorem s_pass : PS X (.Pass pos) (RdS X.K W skF) := ps_imp ps_pass fun D σ H ⟨B, en, G, m⟩ => m σ H G (Stp.refl σ en H)
theorem s_break : PS X (.Break pos) (RdS X.K W bkF) := ps_imp ps_break fun D σ H ⟨B, en, G, m⟩ => m σ H G (Stp.refl σ en H)
theorem s_continue : PS X (.Continue pos) (RdS X.K W ctF) := ps_imp ps_continue fun D σ H ⟨B, en, G, m⟩ => m σ H G (Stp.refl σ en H)
theorem s_expr (he : PE X e (RdE X.K W fe)) (hs : swapsWith e none pos.line X.env = pure false := by rfl) : PS X (.Expr e pos) (RdS X.K W (drF fe)) := ps_imp (ps_expr he hs) fun D σ H m => drImp m
theorem s_ret (he : PE X e (RdE X.K W fe)) : PS X (.Return (some e) pos) (RdS X.K W (rtF fe)) := ps_imp (ps_ret he) fun D σ H m => rtImp m
theorem s_if {a b : List Stmt} (hc : PT X c (RdT X.K W t)) (ha : PSs X a (RdS X.K W f)) (hb : PSs X b (RdS X.K W g)) : PS X (.If c a b pos) (RdS X.K W (ifS t f g)) := ps_imp (ps_if hc ha hb) fun D σ H m => ifSImp m
theorem s_asV {i : Nat} {x : Str} {pos' : Pos} (hN : X.N.Nodup) (he : PE X e (RdE X.K W fe)) (hi : X.N[i]? = some x := by rfl) (hx : Loc X.env.scope x := by first | exact Or.inl rfl | exact Or.inr rfl) (hs : swapsWith e (some (.Name x pos')) pos.line X.env = pure false := by rfl) (hf : X.fn x = true ∨ X.env.scope.names.lookup x = some .local := by first | exact .inl rfl | exact .inr rfl | assumption) :
    PS X (.Assign [.Name x pos'] e pos) (RdS X.K W (asV i fe)) := ps_imp (ps_set hN hi hx he hs hf) fun D σ H m => asVImp m
theorem s_asO {i : Nat} {x : Str} {pos' : Pos} (hN : X.N.Nodup) (he : PE X e (RdE X.K W fe)) (hi : X.N[i]? = some x := by rfl) (hx : Loc X.env.scope x := by first | exact Or.inl rfl | exact Or.inr rfl) (hs : swapsWith e (some (.Name x pos')) pos.line X.env = pure false := by rfl) (hf : X.fn x = true ∨ X.env.scope.names.lookup x = some .local := by first | exact .inl rfl | exact .inr rfl | assumption) :
    PS X (.Assign [.Name x pos'] e pos) (RdS X.K W (asO i fe)) := ps_imp (ps_set hN hi hx he hs hf) fun D σ H m => asOImp m
theorem g_nm {i : Nat} {x : Str} (hN : X.N.Nodup) (hi : X.N[i]? = some x := by rfl) (hx : Loc X.env.scope x := by first | exact Or.inl rfl | exact Or.inr rfl) (hf : X.fn x = true ∨ X.env.scope.names.lookup x = some .local := by first | exact .inl rfl | exact .inr rfl | assumption) : PG X (.Name x pos) (RdG X.K (gNm i)) :=
  pg_imp (pg_name hN hi hx hf) fun v σ H Q m => gNmImp m
theorem g_nil : PGs X [] (gNames []) := pgs_nil
theorem g_cons {i : Nat} {is : List Nat} {es : List Expr} {x : Str} (hN : X.N.Nodup) (h2 : PGs X es (gNames is)) (hi : X.N[i]? = some x := by rfl) (hx : Loc X.env.scope x := by first | exact Or.inl rfl | exact Or.inr rfl)
    (hf : X.fn x = true ∨ X.env.scope.names.lookup x = some .local := by first | exact .inl rfl | exact .inr rfl | assumption) (hs : (assignEach (.Name x pos :: es) X.env).map (·.2) = assign (.Name x pos) X.env :: (assignEach es X.env).map (·.2) := by rfl) : PGs X (.Name x pos :: es) (gNames (i :: is)) :=
  pgs_cons (pg_name hN hi hx hf) h2 hs
theorem g_tup {es : List Expr} {k : Nat} {is : List Nat} (hc : X.calm = true) (h : PGs X es (gNames is))
    (hn : (assignEach es X.env).length = is.length := by rfl) (hst : (assignEach es X.env).findIdx? (·.1) = none := by rfl) : PG X (.Tuple es k pos) (RdG X.K (gTp is)) :=
  pg_imp (pg_tup hc h hn hst) fun v σ H Q m => gTpImp m
theorem s_asG {tg : Expr} {gg : D → M Unit} (he : PE X e (RdE X.K W fe)) (hg : PG X tg (RdG X.K gg)) (hs : swapsWithSole [tg] e pos.line X.env = pure false := by rfl) (hw : swappedStores [tg] e X.env = pure none := by rfl)
    (h1 : (assignEach [tg] X.env).map (·.2) = [assign tg X.env] := by rfl) : PS X (.Assign [tg] e pos) (RdS X.K W (asG gg fe)) := ps_imp (ps_asg he hg hs hw h1) fun D σ H m => asGImp m
theorem s_par {i j : Nat} {x y : Str} {a b : Expr} {fs : M (List R)} {px py pt : Pos} {kt k2 pt2} (hc : X.calm = true) (hN : X.N.Nodup) (ha : PA X [a, b] (RdA X.K W fs)) (hi : X.N[i]? = some x := by rfl) (hj : X.N[j]? = some y := by rfl) (hij : i ≠ j := by decide)
    (hx : X.env.scope.names.lookup x = some .local := by rfl) (hy : X.env.scope.names.lookup y = some .local := by rfl)
    (hw : swappedStores [.Tuple [.Name x px, .Name y py] kt pt] (.Tuple [a, b] k2 pt2) X.env = pure (some [x, y]) := by rfl)
    (hs : swapsWithSole [.Tuple [.Name x px, .Name y py] kt pt] (.Tuple [a, b] k2 pt2) pos.line X.env = pure false := by rfl) :
    PS X (.Assign [.Tuple [.Name x px, .Name y py] kt pt] (.Tuple [a, b] k2 pt2) pos) (RdS X.K W (asP i j fs)) := ps_imp (ps_par hc hN hi hj hij hx hy ha hw hs) fun D σ H m => asPImp m
theorem s_while {n : Nat} (hp : PassesOwn (model X.prog X.w) X.A X.env X.xe) (hc : PT X c (RdT X.K W t)) (hb : PSs X body (RdS X.K W f)) : PS X (.While c body [] pos) (RdS X.K W (whF t f n)) := ps_imp (ps_while hp hc hb) fun D σ H m => whImp m
theorem s_for {tg iter : Expr} {it : M (List D)} {gg : D → M Unit} (hp : PassesOwn (model X.prog X.w) X.A X.env X.xe) (hc : X.calm = true) (hi : PI X tg iter (RdI X.K W it)) (hg : PG X tg (RdG X.K gg)) (hb : PSs X body (RdS X.K W f))
    (hs : ∀ x, foldedSetIterable iter X.env x = pure x := by intro _; rfl) : PS X (.For tg iter body [] pos) (RdS X.K W (frF it gg f)) := ps_imp (ps_for hp hc hi hg hb hs) fun D σ H m => frImp (fun m => m) m
end
end PyD

namespace PyD
open PySem PySem.Spec L2

/-! ### defs and calls -/
def slIn (b : Bool) (d : D) : Sl := match b with
  | true => .o true d
  | false => .v d
/-- the slots at an entry: true, lent; false, shared -/
def mkE : List Bool → List D → En
  | b :: io, d :: ds => slIn b d :: mkE io ds
  | _, _ => []
def pick (b : Bool) (d : D) (s : Sl) : D := match b, s with
  | true, .o _ d' => d'
  | _, _ => d
def outsOf : List Bool → List D → En → List D
  | b :: io, d :: ds, s :: en => pick b d s :: outsOf io ds en
  | _, _, _ => []
/-- what a def with the body f means -/
def runF (io : List Bool) (k : Nat) (f : En → Fl) (ds : List D) : Out := match f (mkE io ds ++ List.replicate k .e) with
  | .nx en => .ret false .non (outsOf io ds en)
  | .rt (.sh d) en => .ret false d (outsOf io ds en)
  | .rt (.fr d) en => .ret true d (outsOf io ds en)
  | .exc x en => .exc x (outsOf io ds en)
  | _ => .bad
/-- the promise -/
def spD (K : PySem.W.Frag) (io : List Bool) (φ : List D → Out) : Sp := fun vs H Q E => ∃ B ds, ds.length = io.length ∧ vs.length = io.length ∧ Good K B H (vs.map some) (mkE io ds) ∧ match φ ds with
  | .ret b d outs => ∀ v H', (∃ B', Bx B B' (vs.map some) (mkE io ds) H ∧ Good K B' H' (vs.map some) (mkE io outs) ∧ (b = false → Rep K (Un B' (vs.map some) (mkE io outs)) H' d v) ∧
      (b = true → ∃ p, v = .ref p ∧ H p = none ∧ B' p ∧ Cont K (Un B' (vs.map some) (mkE io outs)) H' d p)) → Stp (vs.map some) (mkE io ds) H (vs.map some) (mkE io outs) H' → Q v H'
  | .exc x outs => ∀ c od H', ExR K (Un B (vs.map some) (mkE io outs)) H' x c od → Good K B H' (vs.map some) (mkE io outs) → Stp (vs.map some) (mkE io ds) H (vs.map some) (mkE io outs) H' → E c od H'
  | .bad => False

/-! data without lists, dicts, objects within -/
mutual
def flatD : D → Bool
  | .tup ds => flatL ds
  | .lst _ => false
  | .dic _ => false
  | .obj _ _ => false
  | .scr _ => false
  | .exn _ _ => false
  | _ => true
def flatL : List D → Bool
  | [] => true
  | d :: ds => flatD d && flatL ds
end
def flatC : D → Bool
  | .lst ds => flatL ds
  | .dic kvs => flatL (kvs.map (·.2))
  | .obj _ fs => flatL (fs.map (·.2))
  | _ => true
def resFlat (b : Bool) (d : D) : Bool := match b with
  | true => flatC d
  | false => flatD d
def excFlat (x : Ex) : Bool := match x.fld with
  | some (_, d) => flatD d
  | none => true
def slotsOf : List R → List Nat
  | [] => []
  | .sl i :: rs => i :: slotsOf rs
  | _ :: rs => slotsOf rs
/-- lent where asked for -/
def lentOk : List Bool → List R → Bool
  | true :: io, .sl _ :: rs => lentOk io rs
  | true :: _, _ => false
  | false :: io, _ :: rs => lentOk io rs
  | [], [] => true
  | _, _ => false
/-- a list of one's own handed in without being lent -/
def borrows : List Bool → List R → Bool
  | false :: _, .sl _ :: _ => true
  | _ :: io, _ :: rs => borrows io rs
  | _, _ => false
def nodupB : List Nat → Bool
  | [] => true
  | i :: is => !(is.elem i) && nodupB is
def putBack : List Bool → List R → List D → En → En
  | true :: io, .sl j :: rs, d :: outs, en => putBack io rs outs (match en[j]? with
    | some (.o f _) => en.set j (.o f d)
    | _ => en)
  | _ :: io, _ :: rs, _ :: outs, en => putBack io rs outs en
  | _, _, _, en => en
def callF (io : List Bool) (φ : List D → Out) (fs : M (List R)) : M R := fun en => match fs en with
  | .ok rs en1 => (match rsls en1 rs with
    | some ds => (match lentOk io rs && nodupB (slotsOf rs) with
      | true => (match φ ds with
        | .ret b d outs => (match !(borrows io rs) || (!(io.elem true) && resFlat b d) with
          | true => .ok (mkR b d) (putBack io rs outs en1)
          | false => .bad)
        | .exc x outs => (match !(borrows io rs) || (!(io.elem true) && excFlat x) with
          | true => .exc x (putBack io rs outs en1)
          | false => .bad)
        | .bad => .bad)
      | false => .bad)
    | none => .bad)
  | .exc x en1 => .exc x en1
  | .bad => .bad

section
variable {K : PySem.W.Frag} {W : WX} {B B' B1 : Addr → Prop} {U U' : Addr → Prop} {H H' H1 : Hp} {σ σ' σ1 : L2.St} {en en' en1 : En} {d : D} {v : V} {i : Nat} {p : Addr} {io : List Bool} {ds : List D}
theorem mkE_len : ∀ {io : List Bool} {ds : List D}, ds.length = io.length → (mkE io ds).length = io.length
  | [], _, _ => rfl
  | b :: io, [], h => by cases h
  | b :: io, d :: ds, h => by
    show (mkE io ds).length + 1 = io.length + 1
    rw [mkE_len (Nat.succ.inj h)]
theorem mkE_get : ∀ {io : List Bool} {ds : List D} {i : Nat} {s : Sl}, (mkE io ds)[i]? = some s → ∃ b d, io[i]? = some b ∧ ds[i]? = some d ∧ s = slIn b d
  | [], _, i, s, h => by cases h
  | b :: io, [], i, s, h => by cases h
  | b :: io, d :: ds, 0, s, h => ⟨b, d, rfl, rfl, (Option.some.inj h).symm⟩
  | b :: io, d :: ds, i + 1, s, h => mkE_get (io := io) (ds := ds) (i := i) h
theorem mkE_of : ∀ {io : List Bool} {ds : List D} {i : Nat} {b : Bool} {d : D}, io[i]? = some b → ds[i]? = some d → (mkE io ds)[i]? = some (slIn b d)
  | [], _, i, b, d, h, _ => by cases h
  | b :: io, [], i, _, d, h, h2 => by cases h2
  | b :: io, d :: ds, 0, _, _, h, h2 => by
    cases h
    cases h2
    rfl
  | b :: io, d :: ds, i + 1, _, _, h, h2 => mkE_of (io := io) (ds := ds) (i := i) h h2
theorem outs_len : ∀ {io : List Bool} {ds : List D} {en : En}, ds.length = io.length → io.length ≤ en.length → (outsOf io ds en).length = io.length
  | [], ds, en, _, _ => by
    cases ds <;> rfl
  | b :: io, [], en, h, _ => by cases h
  | b :: io, d :: ds, [], _, h => by cases h
  | b :: io, d :: ds, s :: en, h, h2 => by
    show (outsOf io ds en).length + 1 = io.length + 1
    rw [outs_len (Nat.succ.inj h) (Nat.le_of_succ_le_succ h2)]
theorem outs_get : ∀ {io : List Bool} {ds : List D} {en : En} {i : Nat} {b : Bool} {d : D} {s : Sl}, io[i]? = some b → ds[i]? = some d → en[i]? = some s → (outsOf io ds en)[i]? = some (pick b d s)
  | [], _, _, i, b, d, s, h, _, _ => by cases h
  | b :: io, [], _, i, _, d, s, _, h, _ => by cases h
  | b :: io, d :: ds, [], i, _, _, s, _, _, h => by cases h
  | b :: io, d :: ds, s :: en, 0, _, _, _, h1, h2, h3 => by
    cases h1
    cases h2
    cases h3
    rfl
  | b :: io, d :: ds, s :: en, i + 1, _, _, _, h1, h2, h3 => outs_get (io := io) (ds := ds) (en := en) (i := i) h1 h2 h3
theorem app_get {α : Type} {l : List α} {k i : Nat} {x y : α} (h : (l ++ List.replicate k x)[i]? = some y) : l[i]? = some y ∨ y = x := by
  by_cases q : i < l.length
  · rw [List.getElem?_append_left q] at h
    exact .inl h
  · rw [List.getElem?_append_right (by omega), List.getElem?_replicate] at h
    split at h
    · exact .inr (Option.some.inj h).symm
    · cases h
theorem get_app {α : Type} {l m : List α} {i : Nat} {y : α} (h : l[i]? = some y) : (l ++ m)[i]? = some y := by
  rw [List.getElem?_append_left (get_lt h)]
  exact h
theorem own_app {k k' : Nat} {a : Addr} (hl : σ.length = en.length) (h : Own (σ ++ List.replicate k none) (en ++ List.replicate k' .e) a) : Own σ en a := by
  obtain ⟨i, b, d, e, s⟩ := h
  rcases app_get e with e | e
  · rw [List.getElem?_append_left (by rw [hl]; exact get_lt e)] at s
    exact ⟨i, b, d, e, s⟩
  · cases e
theorem Good.app (G : Good K B H σ en) (k : Nat) : Good K B H (σ ++ List.replicate k none) (en ++ List.replicate k .e) where
  len := by rw [List.length_append, List.length_append, List.length_replicate, List.length_replicate, G.len]
  all := G.all
  rep := fun i d e => by
    rcases app_get e with e | e
    · obtain ⟨v, s, r⟩ := G.rep i d e
      exact ⟨v, get_app s, Rep.to (fun a o x n => ⟨x, fun z => n (z.imp id (own_app G.len))⟩) d v r⟩
    · cases e
  own := fun i b d e => by
    rcases app_get e with e | e
    · obtain ⟨p, s, n, c⟩ := G.own i b d e
      exact ⟨p, get_app s, n, Cont.to (fun a o x n => ⟨x, fun z => n (z.imp id (own_app G.len))⟩) (fun _ x => x) c⟩
    · cases e
  inj := fun i j p b c d d' e1 e2 s1 s2 => by
    rcases app_get e1 with e1 | e1
    · rcases app_get e2 with e2 | e2
      · rw [List.getElem?_append_left (by rw [G.len]; exact get_lt e1)] at s1
        rw [List.getElem?_append_left (by rw [G.len]; exact get_lt e2)] at s2
        exact G.inj i j p b c d d' e1 e2 s1 s2
      · cases e2
    · cases e1
theorem slIn_o {b c : Bool} {d d' : D} (h : slIn b d = .o c d') : b = true ∧ c = true ∧ d' = d := by
  cases b with
  | true => cases h; exact ⟨rfl, rfl, rfl⟩
  | false => cases h
theorem slIn_v {b : Bool} {d d' : D} (h : slIn b d = .v d') : b = false ∧ d' = d := by
  cases b with
  | true => cases h
  | false => cases h; exact ⟨rfl, rfl⟩
/-- behind the body: the parameters again -/
theorem back_to {vs : List V} {k : Nat} (hd : ds.length = io.length) (hv : vs.length = io.length) (G : Good K B H (vs.map some) (mkE io ds)) (G' : Good K B' H' σ' en') (bx : Bx B B' (vs.map some ++ List.replicate k none) (mkE io ds ++ List.replicate k .e) H)
    (st : Stp (vs.map some ++ List.replicate k none) (mkE io ds ++ List.replicate k .e) H σ' en' H') :
    Bx B B' (vs.map some) (mkE io ds) H ∧ Good K B' H' (vs.map some) (mkE io (outsOf io ds en')) ∧ Stp (vs.map some) (mkE io ds) H (vs.map some) (mkE io (outsOf io ds en')) H' ∧ ∀ a, Un B' (vs.map some) (mkE io (outsOf io ds en')) a → Un B' σ' en' a := by
  have hle : io.length ≤ en'.length := by
    rw [st.len, List.length_append, mkE_len hd]
    omega
  have ol := outs_len (en := en') hd hle
  have at_ : ∀ {i : Nat} {s : Sl}, (mkE io (outsOf io ds en'))[i]? = some s → ∃ b d s', io[i]? = some b ∧ ds[i]? = some d ∧ en'[i]? = some s' ∧ s = slIn b (pick b d s') := fun {i s} h => by
    obtain ⟨b, d, h1, h2, h3⟩ := mkE_get h
    have hi := get_lt h1
    obtain ⟨s', e'⟩ : ∃ s', en'[i]? = some s' := ⟨_, List.getElem?_eq_getElem (by omega)⟩
    have hdi : i < ds.length := by omega
    obtain ⟨d0, e0⟩ : ∃ d0, ds[i]? = some d0 := ⟨_, List.getElem?_eq_getElem hdi⟩
    have := outs_get h1 e0 e'
    rw [h2] at this
    cases this
    exact ⟨b, d0, s', h1, e0, e', h3⟩
  -- a lent one
  have lent : ∀ {i : Nat} {d : D}, io[i]? = some true → ds[i]? = some d → σ'[i]? = (vs.map some)[i]? ∧ ∃ d', en'[i]? = some (.o true d') := fun {i d} h1 h2 => by
    obtain ⟨q1, d', q2⟩ := st.pin i d (get_app (mkE_of h1 h2))
    refine ⟨?_, d', q2⟩
    rw [q1, List.getElem?_append_left]
    rw [List.length_map, hv]
    exact get_lt h1
  have ow : ∀ a, Own (vs.map some) (mkE io (outsOf io ds en')) a → Own σ' en' a := fun a h => by
    obtain ⟨i, b, d, e, s⟩ := h
    obtain ⟨b', d0, s', h1, h2, h3, h4⟩ := at_ e
    obtain ⟨z1, z2, z3⟩ := slIn_o h4.symm
    subst z1
    obtain ⟨q1, d', q2⟩ := lent h1 h2
    exact ⟨i, true, d', q2, by rw [q1]; exact s⟩
  have ow0 : ∀ a, Own (vs.map some) (mkE io (outsOf io ds en')) a → Own (vs.map some) (mkE io ds) a := fun a h => by
    obtain ⟨i, b, d, e, s⟩ := h
    obtain ⟨b', d0, s', h1, h2, h3, h4⟩ := at_ e
    obtain ⟨z1, z2, z3⟩ := slIn_o h4.symm
    subst z1
    exact ⟨i, true, d0, mkE_of h1 h2, s⟩
  have un : ∀ a, Un B' (vs.map some) (mkE io (outsOf io ds en')) a → Un B' σ' en' a := fun a h => h.imp id (ow a)
  have oapp : ∀ {a}, Own (vs.map some ++ List.replicate k none) (mkE io ds ++ List.replicate k .e) a → Own (vs.map some) (mkE io ds) a := fun {a} h => own_app G.len h
  have oapp' : ∀ {a}, Own (vs.map some) (mkE io ds) a → Own (vs.map some ++ List.replicate k none) (mkE io ds ++ List.replicate k .e) a := fun {a} ⟨i, b, d, e, s⟩ => ⟨i, b, d, get_app e, get_app s⟩
  refine ⟨⟨bx.up, fun a h => ?_⟩, ?_, ?_, un⟩
  · rcases bx.new a h with q | q | q
    · exact .inl q
    · exact .inr (.inl q)
    · exact .inr (.inr (oapp q))
  · have t : ∀ a o, H a = some o → ¬ Un B (vs.map some) (mkE io ds) a → H' a = some o ∧ ¬ Un B' (vs.map some) (mkE io (outsOf io ds en')) a := fun a o h n => by
      obtain ⟨q1, q2⟩ := stepTo st bx a o h fun z => n (z.imp id oapp)
      exact ⟨q1, fun z => q2 (un a z)⟩
    exact {
      len := by rw [List.length_map, hv, mkE_len ol]
      all := G'.all
      rep := fun i d e => by
        obtain ⟨b', d0, s', h1, h2, h3, h4⟩ := at_ e
        obtain ⟨z1, z2⟩ := slIn_v h4.symm
        subst z1
        have e0 : (mkE io ds)[i]? = some (.v d) := by
          rw [mkE_of h1 h2, z2]
          rfl
        obtain ⟨v, s, r⟩ := G.rep i d e0
        exact ⟨v, s, Rep.to t d v r⟩
      own := fun i b d e => by
        obtain ⟨b', d0, s', h1, h2, h3, h4⟩ := at_ e
        obtain ⟨z1, z2, z3⟩ := slIn_o h4.symm
        subst z1
        obtain ⟨q1, d', q2⟩ := lent h1 h2
        obtain ⟨p, s, n, c⟩ := G'.own i true d' q2
        have ed : d = d' := by
          rw [z3]
          rw [h3] at q2
          cases q2
          rfl
        subst ed
        exact ⟨p, by rw [← q1]; exact s, n, Cont.to (fun a o x n => ⟨x, fun z => n (un a z)⟩) (fun _ x => x) c⟩
      inj := fun i j p b c d d' e1 e2 s1 s2 => by
        obtain ⟨b1, d1, t1, h1, h2, h3, h4⟩ := at_ e1
        obtain ⟨b2, d2, t2, g1, g2, g3, g4⟩ := at_ e2
        obtain ⟨z1, _, _⟩ := slIn_o h4.symm
        obtain ⟨y1, _, _⟩ := slIn_o g4.symm
        subst z1
        subst y1
        exact G.inj i j p true true d1 d2 (mkE_of h1 h2) (mkE_of g1 g2) s1 s2 }
  · exact {
      len := by rw [mkE_len ol, mkE_len hd]
      fr := fun a o h n => st.fr a o h fun z => n (oapp z)
      al := st.al
      ow := fun a h => .inl (ow0 a h)
      of := fun a h => by
        obtain ⟨i, d, e, s⟩ := h
        obtain ⟨b', d0, s', h1, h2, h3, h4⟩ := at_ e
        obtain ⟨_, z2, _⟩ := slIn_o h4.symm
        cases z2
      pin := fun i d e => by
        refine ⟨rfl, ?_⟩
        obtain ⟨b, d0, h1, h2, h3⟩ := mkE_get e
        obtain ⟨z1, _, z3⟩ := slIn_o h3.symm
        subst z1
        obtain ⟨q1, d', q2⟩ := lent h1 h2
        exact ⟨_, mkE_of h1 (outs_get h1 h2 q2)⟩
      pb := fun i d e => by
        obtain ⟨b, d0, s', h1, h2, h3, h4⟩ := at_ e
        obtain ⟨z1, _, _⟩ := slIn_o h4.symm
        subst z1
        exact ⟨_, mkE_of h1 h2⟩ }
/-- a def keeps its promise, by its body -/
theorem ok_def {P : Program} {w : World} {mg : Str → Option Value} {base : Heap} {x qual : Str} {st : Stmt} {f : Addr} {fd : FuncData} {N ps : List Str} {lev k : Nat} {io : List Bool} {b : En → Fl} (F : Fun K x qual st f fd) (S : FnScope N ps (defScope st)) (hps : io.length = ps.length) (hN : N.length = ps.length + k)
    (hb : ∀ (cdv : Value) (A : Around) (outer : List Env) (s : Shared) (H : Hp) (E : XK), Room lev (A.deeper (PyProof.Rows.envOfC qual (defScope st) s.heap.objs.size f cdv)) → PSs (cxOf (L2.CX P w) P w K mg base N qual (defScope st) f cdv A outer s H E) (defBody st) (RdS K (fun cls d _ H => E cls d H) b)) :
    FnOk P w K mg base (L2.CX P w) (lev + 1) f fd ps (spD K io (runF io k b)) := by
  refine F.okX S (fun vs H Q E ⟨B, ds, h1, h2, _⟩ => h2.trans hps) fun cdv A outer s H vs Q E hr h => ⟨_, hb cdv A outer s H E hr, ?_⟩
  obtain ⟨B, ds, h1, h2, G, m⟩ := h
  have hst : L2.start N vs = vs.map some ++ List.replicate k none := by
    unfold L2.start
    rw [hN, h2, hps, Nat.add_sub_cancel_left]
  rw [hst]
  refine ⟨B, _, G.app k, ?_⟩
  unfold runF at m
  cases e : b (mkE io ds ++ List.replicate k .e) with
  | nx en' =>
    rw [e] at m
    intro σ' H' g s
    obtain ⟨b1, g1, s1, un⟩ := back_to h1 h2 G g (Bx.refl B _ _ H) s
    exact m .non H' ⟨B, b1, g1, fun _ => (by unfold Rep; rfl), fun z => (by cases z)⟩ s1
  | bk en' => rw [e] at m; exact m.elim
  | ct en' => rw [e] at m; exact m.elim
  | rt r en' =>
    rw [e] at m
    intro v σ' H' ⟨B', bx, g, ra, n⟩ s
    obtain ⟨b1, g1, s1, un⟩ := back_to h1 h2 G g bx s
    cases r with
    | sh d => exact m v H' ⟨B', b1, g1, fun _ => Rep.to (fun a o x n => ⟨x, fun z => n (un a z)⟩) _ _ ra, fun z => (by cases z)⟩ s1
    | fr d =>
      obtain ⟨p, e1, bp, c⟩ := ra
      refine m v H' ⟨B', b1, g1, fun z => (by cases z), fun _ => ⟨p, e1, ?_, bp, Cont.to (fun a o x n => ⟨x, fun z => n (un a z)⟩) (fun _ x => x) c⟩⟩ s1
      rcases n p e1 with q | q
      · exact q
      · obtain ⟨i, d', e2, s2⟩ := q
        rcases app_get e2 with e2 | e2
        · obtain ⟨b2, d2, _, _, h4⟩ := mkE_get e2
          obtain ⟨_, z2, _⟩ := slIn_o h4.symm
          cases z2
        · cases e2
    | sl i => exact m.elim
  | exc x en' =>
    rw [e] at m
    intro c od σ' H' ex g s
    obtain ⟨b1, g1, s1, un⟩ := back_to h1 h2 G g (Bx.refl B _ _ H) s
    exact m c od H' (ex.mono un) g1 s1
  | bad => rw [e] at m; exact m.elim
end
end PyD

namespace PyD
open PySem PySem.Spec L2
section
variable {K : PySem.W.Frag} {W : WX} {B B' B1 : Addr → Prop} {U U' : Addr → Prop} {H H' H1 : Hp} {σ σ' σ1 : L2.St} {en en' en1 : En} {d : D} {v : V} {i : Nat} {p : Addr} {io : List Bool} {ds : List D}
mutual
theorem Rep.flat (h : ∀ a vs, H a = some (.tup vs) → ¬ U a → ¬ U' a) : ∀ {d : D} {v : V}, flatD d = true → Rep K U H d v → Rep K U' H d v
  | .non, v, _, r => by unfold Rep at r ⊢; exact r
  | .bl _, v, _, r => by unfold Rep at r ⊢; exact r
  | .int _, v, _, r => by unfold Rep at r ⊢; exact r
  | .str _, v, _, r => by unfold Rep at r ⊢; exact r
  | .tup ds, v, f, r => by
    unfold Rep at r ⊢
    obtain ⟨a, vs, e, n, ha, q⟩ := r
    exact ⟨a, vs, e, h a vs ha n, ha, RepL.flat h (by unfold flatD at f; exact f) q⟩
  | .lst _, _, f, _ => by unfold flatD at f; cases f
  | .dic _, _, f, _ => by unfold flatD at f; cases f
  | .obj _ _, _, f, _ => by unfold flatD at f; cases f
  | .scr _, _, f, _ => by unfold flatD at f; cases f
  | .exn _ _, _, f, _ => by unfold flatD at f; cases f
theorem RepL.flat (h : ∀ a vs, H a = some (.tup vs) → ¬ U a → ¬ U' a) : ∀ {ds : List D} {vs : List V}, flatL ds = true → RepL K U H ds vs → RepL K U' H ds vs
  | [], vs, _, r => by unfold RepL at r ⊢; exact r
  | d :: ds, vs, f, r => by
    unfold RepL at r ⊢
    unfold flatL at f
    obtain ⟨f1, f2⟩ := Bool.and_eq_true_iff.mp f
    obtain ⟨v, us, e, q1, q2⟩ := r
    exact ⟨v, us, e, Rep.flat h f1 q1, RepL.flat h f2 q2⟩
end
theorem RepK.flat (h : ∀ a vs, H a = some (.tup vs) → ¬ U a → ¬ U' a) : ∀ {ds : List (Key × D)} {vs : List (Key × V)}, flatL (ds.map (·.2)) = true → RepK K U H ds vs → RepK K U' H ds vs
  | [], vs, _, r => by unfold RepK at r ⊢; exact r
  | (k, d) :: ds, vs, f, r => by
    unfold RepK at r ⊢
    rw [List.map_cons] at f
    unfold flatL at f
    obtain ⟨f1, f2⟩ := Bool.and_eq_true_iff.mp f
    obtain ⟨v, us, e, q1, q2⟩ := r
    exact ⟨v, us, e, Rep.flat h f1 q1, RepK.flat h f2 q2⟩
theorem RepF.flat (h : ∀ a vs, H a = some (.tup vs) → ¬ U a → ¬ U' a) : ∀ {ds : List (Str × D)} {vs : List (Str × V)}, flatL (ds.map (·.2)) = true → RepF K U H ds vs → RepF K U' H ds vs
  | [], vs, _, r => by unfold RepF at r ⊢; exact r
  | (k, d) :: ds, vs, f, r => by
    unfold RepF at r ⊢
    rw [List.map_cons] at f
    unfold flatL at f
    obtain ⟨f1, f2⟩ := Bool.and_eq_true_iff.mp f
    obtain ⟨v, us, e, q1, q2⟩ := r
    exact ⟨v, us, e, Rep.flat h f1 q1, RepF.flat h f2 q2⟩
theorem Cont.flat (h : ∀ a vs, H a = some (.tup vs) → ¬ U a → ¬ U' a) : ∀ {d : D}, flatC d = true → Cont K U H d p → Cont K U' H d p
  | .lst ds, f, ⟨vs, a, r⟩ => ⟨vs, a, RepL.flat h f r⟩
  | .dic ds, f, ⟨vs, a, r⟩ => ⟨vs, a, RepK.flat h f r⟩
  | .obj C ds, f, ⟨dx, vs, a, r⟩ => ⟨dx, vs, a, RepF.flat h f r⟩

theorem argRs_len : ∀ {rs : List R} {vs : List V}, ArgRs K B σ en H rs vs → vs.length = rs.length
  | [], vs, h => by
    have h' : vs = [] := h
    rw [h'] <;> rfl
  | r :: rs, vs, ⟨v, us, e, _, h⟩ => by rw [e, List.length_cons, List.length_cons, argRs_len h]
theorem argRs_get : ∀ {rs : List R} {vs : List V} {i : Nat} {r : R}, ArgRs K B σ en H rs vs → rs[i]? = some r → ∃ v, vs[i]? = some v ∧ ArgR K B σ en H r v
  | [], vs, i, r, h, e => by cases e
  | r :: rs, vs, 0, _, ⟨v, us, e, h1, h2⟩, e1 => by
    cases e1
    exact ⟨v, by rw [e] <;> rfl, h1⟩
  | r :: rs, vs, i + 1, _, ⟨v, us, e, h1, h2⟩, e1 => by
    obtain ⟨v', q, r'⟩ := argRs_get (i := i) h2 e1
    exact ⟨v', by rw [e]; exact q, r'⟩
theorem frNs_get : ∀ {rs : List R} {vs : List V} {i : Nat} {r : R} {v : V}, frNs σ en H rs vs → rs[i]? = some r → vs[i]? = some v → frN σ en H r v
  | [], vs, i, r, v, h, e, _ => by cases e
  | r :: rs, [], i, _, v, h, _, e => by cases e
  | r :: rs, v :: vs, 0, _, _, h, e, e1 => by
    cases e
    cases e1
    exact h.1
  | r :: rs, v :: vs, i + 1, _, _, h, e, e1 => frNs_get (i := i) h.2 e e1
theorem rsls_len : ∀ {rs : List R} {ds : List D}, rsls en rs = some ds → ds.length = rs.length
  | [], ds, e => by cases e; rfl
  | r :: rs, ds, e => by
    unfold rsls at e
    cases q : rsl en r with
    | none => rw [q] at e; cases e
    | some d =>
      rw [q] at e
      dsimp only at e
      cases q2 : rsls en rs with
      | none => rw [q2] at e; cases e
      | some ds' =>
        rw [q2] at e
        cases e
        rw [List.length_cons, List.length_cons, rsls_len q2]
theorem rsls_get : ∀ {rs : List R} {ds : List D} {i : Nat} {d : D}, rsls en rs = some ds → ds[i]? = some d → ∃ r, rs[i]? = some r ∧ rsl en r = some d
  | [], ds, i, d, e, h => by cases e; cases h
  | r :: rs, ds, i, d, e, h => by
    unfold rsls at e
    cases q : rsl en r with
    | none => rw [q] at e; cases e
    | some d' =>
      rw [q] at e
      dsimp only at e
      cases q2 : rsls en rs with
      | none => rw [q2] at e; cases e
      | some ds' =>
        rw [q2] at e
        cases e
        cases i with
        | zero => cases h; exact ⟨r, rfl, q⟩
        | succ i => exact rsls_get (i := i) q2 h
theorem lentOk_len : ∀ {io : List Bool} {rs : List R}, lentOk io rs = true → rs.length = io.length
  | [], [], _ => rfl
  | [], _ :: _, h => by cases h
  | true :: io, [], h => by cases h
  | false :: io, [], h => by cases h
  | true :: io, .sl j :: rs, h => by rw [List.length_cons, List.length_cons, lentOk_len (io := io) h]
  | true :: io, .sh _ :: rs, h => by cases h
  | true :: io, .fr _ :: rs, h => by cases h
  | false :: io, r :: rs, h => by
    rw [List.length_cons, List.length_cons, lentOk_len (io := io) (rs := rs) (by cases r <;> exact h)]
theorem lentOk_get : ∀ {io : List Bool} {rs : List R} {i : Nat}, lentOk io rs = true → io[i]? = some true → ∃ j, rs[i]? = some (.sl j)
  | [], [], i, _, h => by cases h
  | [], _ :: _, i, h, _ => by cases h
  | true :: io, [], i, h, _ => by cases h
  | false :: io, [], i, h, _ => by cases h
  | true :: io, .sl j :: rs, 0, h, _ => ⟨j, rfl⟩
  | true :: io, .sl j :: rs, i + 1, h, e => lentOk_get (io := io) (i := i) h e
  | true :: io, .sh _ :: rs, i, h, _ => by cases h
  | true :: io, .fr _ :: rs, i, h, _ => by cases h
  | false :: io, r :: rs, 0, h, e => by cases e
  | false :: io, r :: rs, i + 1, h, e => lentOk_get (io := io) (rs := rs) (i := i) (by cases r <;> exact h) e
theorem slots_mem : ∀ {rs : List R} {i j : Nat}, rs[i]? = some (.sl j) → j ∈ slotsOf rs
  | [], i, j, h => by cases h
  | .sl k :: rs, 0, j, h => by
    cases h
    exact List.mem_cons_self
  | .sl k :: rs, i + 1, j, h => List.mem_cons_of_mem _ (slots_mem (rs := rs) (i := i) h)
  | .sh _ :: rs, 0, j, h => by cases h
  | .fr _ :: rs, 0, j, h => by cases h
  | .sh _ :: rs, i + 1, j, h => slots_mem (rs := rs) (i := i) h
  | .fr _ :: rs, i + 1, j, h => slots_mem (rs := rs) (i := i) h
theorem nodup_cons {i : Nat} {is : List Nat} (h : nodupB (i :: is) = true) : i ∉ is ∧ nodupB is = true := by
  unfold nodupB at h
  obtain ⟨h1, h2⟩ := Bool.and_eq_true_iff.mp h
  refine ⟨fun z => ?_, h2⟩
  rw [Bool.not_eq_true'] at h1
  have q : is.elem i = true := List.elem_eq_true_of_mem z
  rw [h1] at q
  cases q
theorem slots_inj : ∀ {rs : List R} {i k j : Nat}, nodupB (slotsOf rs) = true → rs[i]? = some (.sl j) → rs[k]? = some (.sl j) → i = k
  | [], i, k, j, _, h, _ => by cases h
  | .sl m :: rs, 0, 0, j, n, h, g => rfl
  | .sl m :: rs, 0, k + 1, j, n, h, g => by
    cases h
    exact absurd (slots_mem (rs := rs) (i := k) g) (nodup_cons n).1
  | .sl m :: rs, i + 1, 0, j, n, h, g => by
    cases g
    exact absurd (slots_mem (rs := rs) (i := i) h) (nodup_cons n).1
  | .sl m :: rs, i + 1, k + 1, j, n, h, g => by rw [slots_inj (rs := rs) (i := i) (k := k) (nodup_cons n).2 h g]
  | .sh _ :: rs, 0, k, j, n, h, g => by cases h
  | .fr _ :: rs, 0, k, j, n, h, g => by cases h
  | .sh _ :: rs, i + 1, 0, j, n, h, g => by cases g
  | .fr _ :: rs, i + 1, 0, j, n, h, g => by cases g
  | .sh _ :: rs, i + 1, k + 1, j, n, h, g => by rw [slots_inj (rs := rs) (i := i) (k := k) n h g]
  | .fr _ :: rs, i + 1, k + 1, j, n, h, g => by rw [slots_inj (rs := rs) (i := i) (k := k) n h g]
theorem borrows_no : ∀ {io : List Bool} {rs : List R} {i j : Nat}, borrows io rs = false → io[i]? = some false → rs[i]? = some (.sl j) → False
  | [], rs, i, j, _, h, _ => by cases h
  | b :: io, [], i, j, _, _, h => by cases h
  | false :: io, .sl m :: rs, i, j, n, _, _ => by cases n
  | true :: io, r :: rs, 0, j, n, h, _ => by cases h
  | true :: io, r :: rs, i + 1, j, n, h, g => borrows_no (io := io) (rs := rs) (i := i) (by cases r <;> exact n) h g
  | false :: io, .sh _ :: rs, 0, j, n, _, h => by cases h
  | false :: io, .fr _ :: rs, 0, j, n, _, h => by cases h
  | false :: io, .sh _ :: rs, i + 1, j, n, h, g => borrows_no (io := io) (rs := rs) (i := i) n h g
  | false :: io, .fr _ :: rs, i + 1, j, n, h, g => borrows_no (io := io) (rs := rs) (i := i) n h g

/-! what is put back -/
theorem putBack_len : ∀ {io : List Bool} {rs : List R} {outs : List D} {en : En}, (putBack io rs outs en).length = en.length
  | [], rs, outs, en => by cases rs <;> cases outs <;> rfl
  | true :: io, [], outs, en => by cases outs <;> rfl
  | false :: io, [], outs, en => by cases outs <;> rfl
  | true :: io, .sh _ :: rs, [], en => rfl
  | true :: io, .fr _ :: rs, [], en => rfl
  | true :: io, .sl _ :: rs, [], en => rfl
  | false :: io, r :: rs, [], en => by cases r <;> rfl
  | true :: io, .sl j :: rs, d :: outs, en => by
    show (putBack io rs outs _).length = _
    rw [putBack_len]
    split
    · exact List.length_set
    · rfl
  | true :: io, .sh _ :: rs, d :: outs, en => putBack_len (io := io)
  | true :: io, .fr _ :: rs, d :: outs, en => putBack_len (io := io)
  | false :: io, r :: rs, d :: outs, en => by cases r <;> exact putBack_len (io := io)
/-- a slot behind it: as it was, or its thing is another -/
def SlSame (s s' : Sl) : Prop := s' = s ∨ ∃ f d d', s = .o f d ∧ s' = .o f d'
theorem SlSame.trans {s t u : Sl} (a : SlSame s t) (b : SlSame t u) : SlSame s u := by
  rcases a with rfl | ⟨f, d, d', rfl, rfl⟩
  · exact b
  · rcases b with rfl | ⟨g, x, x', e, rfl⟩
    · exact .inr ⟨f, d, d', rfl, rfl⟩
    · cases e
      exact .inr ⟨f, d, x', rfl, rfl⟩
theorem set_same {j : Nat} {d : D} {s : Sl} (e : en[i]? = some s) : ∃ s', (match en[j]? with
    | some (.o f _) => en.set j (.o f d)
    | _ => en)[i]? = some s' ∧ SlSame s s' := by
  split
  · rename_i f x q
    by_cases z : j = i
    · subst z
      rw [e] at q
      cases q
      exact ⟨.o f d, by rw [List.getElem?_set, if_pos rfl, if_pos (get_lt e)], .inr ⟨f, x, d, rfl, rfl⟩⟩
    · exact ⟨s, by rw [List.getElem?_set_ne z]; exact e, .inl rfl⟩
  · exact ⟨s, e, .inl rfl⟩
theorem putBack_get : ∀ {io : List Bool} {rs : List R} {outs : List D} {en : En} {i : Nat} {s : Sl}, en[i]? = some s → ∃ s', (putBack io rs outs en)[i]? = some s' ∧ SlSame s s'
  | [], rs, outs, en, i, s, e => ⟨s, by cases rs <;> cases outs <;> exact e, .inl rfl⟩
  | true :: io, [], outs, en, i, s, e => ⟨s, by cases outs <;> exact e, .inl rfl⟩
  | false :: io, [], outs, en, i, s, e => ⟨s, by cases outs <;> exact e, .inl rfl⟩
  | true :: io, .sh _ :: rs, [], en, i, s, e => ⟨s, e, .inl rfl⟩
  | true :: io, .fr _ :: rs, [], en, i, s, e => ⟨s, e, .inl rfl⟩
  | true :: io, .sl _ :: rs, [], en, i, s, e => ⟨s, e, .inl rfl⟩
  | false :: io, r :: rs, [], en, i, s, e => ⟨s, by cases r <;> exact e, .inl rfl⟩
  | true :: io, .sl j :: rs, d :: outs, en, i, s, e => by
    obtain ⟨s1, e1, q1⟩ := set_same (j := j) (d := d) e
    obtain ⟨s2, e2, q2⟩ := putBack_get (io := io) (rs := rs) (outs := outs) e1
    exact ⟨s2, e2, q1.trans q2⟩
  | true :: io, .sh _ :: rs, d :: outs, en, i, s, e => putBack_get (io := io) e
  | true :: io, .fr _ :: rs, d :: outs, en, i, s, e => putBack_get (io := io) e
  | false :: io, r :: rs, d :: outs, en, i, s, e => by cases r <;> exact putBack_get (io := io) e
/-- a slot that isn't lent -/
theorem putBack_other : ∀ {io : List Bool} {rs : List R} {outs : List D} {en : En} {k : Nat}, (∀ i : Nat, io[i]? = some true → rs[i]? ≠ some (R.sl k)) → (putBack io rs outs en)[k]? = en[k]?
  | [], rs, outs, en, k, h => by cases rs <;> cases outs <;> rfl
  | true :: io, [], outs, en, k, h => by cases outs <;> rfl
  | false :: io, [], outs, en, k, h => by cases outs <;> rfl
  | true :: io, .sh _ :: rs, [], en, k, h => rfl
  | true :: io, .fr _ :: rs, [], en, k, h => rfl
  | true :: io, .sl _ :: rs, [], en, k, h => rfl
  | false :: io, r :: rs, [], en, k, h => by cases r <;> rfl
  | true :: io, .sl j :: rs, d :: outs, en, k, h => by
    show (putBack io rs outs _)[k]? = _
    rw [putBack_other (io := io) (fun i => h (i + 1))]
    split
    · rw [List.getElem?_set_ne]
      intro z
      subst z
      exact h 0 rfl rfl
    · rfl
  | true :: io, .sh _ :: rs, d :: outs, en, k, h => putBack_other (io := io) (fun i => h (i + 1))
  | true :: io, .fr _ :: rs, d :: outs, en, k, h => putBack_other (io := io) (fun i => h (i + 1))
  | false :: io, r :: rs, d :: outs, en, k, h => by cases r <;> exact putBack_other (io := io) (fun i => h (i + 1))
theorem putBack_lent : ∀ {io : List Bool} {rs : List R} {outs : List D} {en : En} {i k : Nat} {f : Bool} {d0 d : D}, nodupB (slotsOf rs) = true → io[i]? = some true → rs[i]? = some (.sl k) → outs[i]? = some d → en[k]? = some (.o f d0) →
    (putBack io rs outs en)[k]? = some (.o f d)
  | [], rs, outs, en, i, k, f, d0, d, n, h, _, _, _ => by cases h
  | b :: io, [], outs, en, i, k, f, d0, d, n, _, h, _, _ => by cases h
  | b :: io, r :: rs, [], en, i, k, f, d0, d, n, _, _, h, _ => by cases h
  | true :: io, .sl j :: rs, d' :: outs, en, 0, k, f, d0, d, n, h1, h2, h3, h4 => by
    cases h2
    cases h3
    show (putBack io rs outs _)[j]? = _
    rw [putBack_other (io := io) (fun i _ z => (nodup_cons n).1 (slots_mem z)), h4]
    show (en.set j (.o f d'))[j]? = _
    rw [List.getElem?_set, if_pos rfl, if_pos (get_lt h4)]
  | true :: io, .sl j :: rs, d' :: outs, en, i + 1, k, f, d0, d, n, h1, h2, h3, h4 => by
    have ne : j ≠ k := fun z => by
      subst z
      exact (nodup_cons n).1 (slots_mem (rs := rs) (i := i) h2)
    refine putBack_lent (io := io) (rs := rs) (outs := outs) (i := i) (d0 := d0) (nodup_cons n).2 h1 h2 h3 ?_
    split
    · rw [List.getElem?_set_ne ne]
      exact h4
    · exact h4
  | true :: io, .sh _ :: rs, d' :: outs, en, 0, k, f, d0, d, n, h1, h2, h3, h4 => by cases h2
  | true :: io, .fr _ :: rs, d' :: outs, en, 0, k, f, d0, d, n, h1, h2, h3, h4 => by cases h2
  | true :: io, .sh _ :: rs, d' :: outs, en, i + 1, k, f, d0, d, n, h1, h2, h3, h4 => putBack_lent (io := io) (rs := rs) (outs := outs) (i := i) (d0 := d0) n h1 h2 h3 h4
  | true :: io, .fr _ :: rs, d' :: outs, en, i + 1, k, f, d0, d, n, h1, h2, h3, h4 => putBack_lent (io := io) (rs := rs) (outs := outs) (i := i) (d0 := d0) n h1 h2 h3 h4
  | false :: io, r :: rs, d' :: outs, en, 0, k, f, d0, d, n, h1, h2, h3, h4 => by cases h1
  | false :: io, r :: rs, d' :: outs, en, i + 1, k, f, d0, d, n, h1, h2, h3, h4 => by
    have n' : nodupB (slotsOf rs) = true := by
      cases r with
      | sl m => exact (nodup_cons n).2
      | sh _ => exact n
      | fr _ => exact n
    cases r <;> exact putBack_lent (io := io) (rs := rs) (outs := outs) (i := i) (d0 := d0) n' h1 h2 h3 h4
theorem outs_of_get {outs : List D} {io : List Bool} (h : outs.length = io.length) {i : Nat} {b : Bool} (e : io[i]? = some b) : ∃ d, outs[i]? = some d :=
  ⟨_, List.getElem?_eq_getElem (by rw [h]; exact get_lt e)⟩
end
end PyD

namespace PyD
open PySem PySem.Spec L2
section
variable {K : PySem.W.Frag} {W : WX} {B B' B1 : Addr → Prop} {U U' : Addr → Prop} {H H' H1 : Hp} {σ σ' σ1 : L2.St} {en en' en1 : En} {d : D} {v : V} {i : Nat} {p : Addr} {io : List Bool} {ds : List D} {φ : List D → Out} {fs : M (List R)} {Q : VK}
/-- outs' length is io's -/
theorem good_outs {vs : List V} {outs : List D} (hv : vs.length = io.length) (G : Good K B H (vs.map some) (mkE io outs)) : io.length ≤ outs.length := by
  have h := G.len
  rw [List.length_map, hv] at h
  have : ∀ (io : List Bool) (ds : List D), (mkE io ds).length = min io.length ds.length := fun io => by
    induction io with
    | nil => intro ds; simp [mkE]
    | cons b io ih =>
      intro ds
      cases ds with
      | nil => simp [mkE]
      | cons d ds => simp [mkE, ih]
  rw [this] at h
  omega
def isRoot (r : R) : Bool := match r with
  | .sh _ => false
  | _ => true
/-- the roots of new things and of slots' things among the arguments -/
def Ro (rs : List R) (vs : List V) (a : Addr) : Prop := ∃ (i : Nat) (r : R), rs[i]? = some r ∧ isRoot r = true ∧ vs[i]? = some (V.ref a)
theorem callImp (m : RdE K W (callF io φ fs) σ H Q) : RdA K W fs σ H fun vs H1 => spD K io φ vs H1 Q (WE W σ) := by
  obtain ⟨B, en, G, m⟩ := m
  refine ⟨B, en, G, ?_⟩
  unfold callF at m
  cases e1 : fs en with
  | bad => rw [e1] at m; exact m
  | exc x en1 => rw [e1] at m; exact m
  | ok rs en1 =>
    rw [e1] at m
    dsimp only at m ⊢
    intro vs H1 ⟨B1, b1, G1, ra, fn⟩ st1
    cases e2 : rsls en1 rs with
    | none => rw [e2] at m; exact m.elim
    | some ds =>
      rw [e2] at m
      dsimp only at m
      cases e3 : lentOk io rs && nodupB (slotsOf rs) with
      | false => rw [e3] at m; exact m.elim
      | true =>
        rw [e3] at m
        dsimp only at m
        obtain ⟨lk, nd⟩ := Bool.and_eq_true_iff.mp e3
        have hrl : rs.length = io.length := lentOk_len lk
        have hdl : ds.length = io.length := (rsls_len e2).trans hrl
        have hvl : vs.length = io.length := (argRs_len ra).trans hrl
        -- places
        have at_ : ∀ {i : Nat} {b : Bool} {d : D}, io[i]? = some b → ds[i]? = some d → ∃ (r : R) (v : V), rs[i]? = some r ∧ vs[i]? = some v ∧ ArgR K B1 σ en1 H1 r v ∧ rsl en1 r = some d := fun {i b d} h1 h2 => by
          obtain ⟨r, q1, q2⟩ := rsls_get e2 h2
          obtain ⟨v, q3, q4⟩ := argRs_get ra q1
          exact ⟨r, v, q1, q3, q4, q2⟩
        have slAt : ∀ {j : Nat} {d : D}, rsl en1 (.sl j) = some d → ∃ (f : Bool) (p : Addr), en1[j]? = some (Sl.o f d) ∧ σ[j]? = some (some (.ref p)) ∧ ¬ B1 p ∧ Cont K (Un B1 σ en1) H1 d p := fun {j d} h => by
          unfold rsl at h
          dsimp only at h
          cases q : en1[j]? with
          | none => rw [q] at h; cases h
          | some s =>
            rw [q] at h
            cases s with
            | e => cases h
            | v x => cases h
            | o f x =>
              cases h
              obtain ⟨p, s1, n1, c1⟩ := G1.own j f d q
              exact ⟨f, p, rfl, s1, n1, c1⟩
        -- a lent root
        have lentAt : ∀ {i : Nat} {d : D}, io[i]? = some true → ds[i]? = some d → ∃ (j : Nat) (f : Bool) (p : Addr), rs[i]? = some (R.sl j) ∧ en1[j]? = some (Sl.o f d) ∧ σ[j]? = some (some (V.ref p)) ∧ vs[i]? = some (V.ref p) ∧ ¬ B1 p ∧ Cont K (Un B1 σ en1) H1 d p := fun {i d} h1 h2 => by
          obtain ⟨r, v, q1, q2, q3, q4⟩ := at_ h1 h2
          obtain ⟨j, q5⟩ := lentOk_get lk h1
          rw [q1] at q5
          cases q5
          obtain ⟨f, p, g1, g2, g3, g4⟩ := slAt q4
          have q3' : σ[j]? = some (some v) := q3
          rw [g2] at q3'
          cases q3'
          exact ⟨j, f, p, q1, g1, g2, q2, g3, g4⟩
        have ownC : ∀ {a : Addr}, Own (vs.map some) (mkE io ds) a → ∃ (i j : Nat) (f : Bool) (d : D), io[i]? = some true ∧ ds[i]? = some d ∧ rs[i]? = some (R.sl j) ∧ en1[j]? = some (Sl.o f d) ∧ σ[j]? = some (some (V.ref a)) ∧ vs[i]? = some (V.ref a) := fun {a} h => by
          obtain ⟨i, b, d, q1, q2⟩ := h
          obtain ⟨b', d', g1, g2, g3⟩ := mkE_get q1
          obtain ⟨z1, _, z2⟩ := slIn_o g3.symm
          subst z1
          obtain ⟨j, f, p, t1, t2, t3, t4, _, _⟩ := lentAt g1 g2
          rw [List.getElem?_map, t4] at q2
          cases q2
          exact ⟨i, j, f, d', g1, g2, t1, t2, t3, t4⟩
        let Bc : Addr → Prop := fun a => Un B1 σ en1 a ∧ ¬ Ro rs vs a
        have unC : ∀ {a : Addr}, Un Bc (vs.map some) (mkE io ds) a → Un B1 σ en1 a := fun {a} h => by
          rcases h with h | h
          · exact h.1
          · obtain ⟨i, j, f, d, h1, h2, h3, h4, h5, h6⟩ := ownC h
            exact .inr ⟨j, f, d, h4, h5⟩
        have tC : ∀ a o, H1 a = some o → ¬ Un B1 σ en1 a → H1 a = some o ∧ ¬ Un Bc (vs.map some) (mkE io ds) a := fun a o x n => ⟨x, fun z => n (unC z)⟩
        have GC : Good K Bc H1 (vs.map some) (mkE io ds) := {
          len := by rw [List.length_map, hvl, mkE_len hdl]
          all := fun a h => G1.unAt h.1
          rep := fun i d e => by
            obtain ⟨b, d', h1, h2, h3⟩ := mkE_get e
            obtain ⟨z1, z2⟩ := slIn_v h3.symm
            subst z1
            subst z2
            obtain ⟨r, v, q1, q2, q3, q4⟩ := at_ h1 h2
            refine ⟨v, by rw [List.getElem?_map, q2] <;> rfl, ?_⟩
            cases r with
            | sh x =>
              cases q4
              exact Rep.to tC _ _ q3
            | fr x =>
              cases q4
              obtain ⟨p, e4, bp, c⟩ := q3
              subst e4
              refine Cont.rep (fun z => ?_) (Cont.to tC (fun _ x => x) c)
              rcases z with z | z
              · exact z.2 ⟨i, _, q1, rfl, q2⟩
              · obtain ⟨i', j, f, d2, g1, g2, g3, g4, g5, g6⟩ := ownC z
                obtain ⟨p', s2, n2, _⟩ := G1.own j f d2 g4
                rw [g5] at s2
                cases s2
                exact n2 bp
            | sl j =>
              obtain ⟨f, p, g1, g2, g3, g4⟩ := slAt q4
              have q3' : σ[j]? = some (some v) := q3
              rw [g2] at q3'
              cases q3'
              refine Cont.rep (fun z => ?_) (Cont.to tC (fun _ x => x) g4)
              rcases z with z | z
              · exact z.2 ⟨i, _, q1, rfl, q2⟩
              · obtain ⟨i', j', f', d2, t1, t2, t3, t4, t5, t6⟩ := ownC z
                have ej : j = j' := G1.inj j j' p f f' _ _ g1 t4 g2 t5
                subst ej
                have ei := slots_inj nd q1 t3
                subst ei
                rw [h1] at t1
                cases t1
          own := fun i b d e => by
            obtain ⟨b', d', h1, h2, h3⟩ := mkE_get e
            obtain ⟨z1, _, z2⟩ := slIn_o h3.symm
            subst z1
            subst z2
            obtain ⟨j, f, p, t1, t2, t3, t4, t5, t6⟩ := lentAt h1 h2
            exact ⟨p, by rw [List.getElem?_map, t4] <;> rfl, fun z => z.2 ⟨i, _, t1, rfl, t4⟩, Cont.to tC (fun _ x => x) t6⟩
          inj := fun i k p b c d d' e1 e2 s1 s2 => by
            obtain ⟨b1, d1, h1, h2, h3⟩ := mkE_get e1
            obtain ⟨z1, _, z2⟩ := slIn_o h3.symm
            subst z1
            obtain ⟨b2, d2, g1, g2, g3⟩ := mkE_get e2
            obtain ⟨y1, _, y2⟩ := slIn_o g3.symm
            subst y1
            obtain ⟨j, f, p1, t1, t2, t3, t4, t5, t6⟩ := lentAt h1 h2
            obtain ⟨j', f', p2, u1, u2, u3, u4, u5, u6⟩ := lentAt g1 g2
            rw [List.getElem?_map, t4] at s1
            cases s1
            rw [List.getElem?_map, u4] at s2
            cases s2
            have ej := G1.inj j j' p f f' _ _ t2 u2 t3 u3
            subst ej
            exact slots_inj nd t1 u1 }
        refine ⟨Bc, ds, hdl, hvl, GC, ?_⟩
        -- the caller's slots behind the call
        have core : ∀ (outs : List D) (B2 : Addr → Prop) (H2 : Hp) (nw : Addr → Prop), (∀ a, nw a → B2 a ∧ H1 a = none) → (borrows io rs = true → io.elem true = false) → Bx Bc B2 (vs.map some) (mkE io ds) H1 → Good K B2 H2 (vs.map some) (mkE io outs) → Stp (vs.map some) (mkE io ds) H1 (vs.map some) (mkE io outs) H2 →
            Bx B (fun a => (B1 a ∧ ¬ Ro rs vs a) ∨ nw a) σ en H ∧ Good K (fun a => (B1 a ∧ ¬ Ro rs vs a) ∨ nw a) H2 σ (putBack io rs outs en1) ∧ Stp σ en1 H1 σ (putBack io rs outs en1) H2 ∧
            (∀ a o, H2 a = some o → ¬ Un B2 (vs.map some) (mkE io outs) a → Un (fun a => (B1 a ∧ ¬ Ro rs vs a) ∨ nw a) σ (putBack io rs outs en1) a → borrows io rs = true ∧ (∀ xs, o ≠ .tup xs) ∧ ∀ xs, o ≠ .xd xs) := by
          intro outs B2 H2 nw hnw hbo bx2 G2 st2
          have hol : io.length ≤ outs.length := good_outs hvl G2
          have ownP : ∀ {a : Addr}, Own σ (putBack io rs outs en1) a → Own σ en1 a := fun {a} h => by
            obtain ⟨k, f, d, q1, q2⟩ := h
            have hk : k < en1.length := by
              have := get_lt q1
              rw [putBack_len] at this
              exact this
            obtain ⟨s', g1, g2⟩ := putBack_get (io := io) (rs := rs) (outs := outs) (List.getElem?_eq_getElem hk)
            rw [q1] at g1
            cases g1
            rcases g2 with g2 | ⟨f', d0, d1, g2, g3⟩
            · exact ⟨k, f, d, by rw [List.getElem?_eq_getElem hk, ← g2], q2⟩
            · exact ⟨k, f', d0, by rw [List.getElem?_eq_getElem hk, g2], q2⟩
          -- the roots that may be changed
          have keep : ∀ a o, H1 a = some o → ¬ Own (vs.map some) (mkE io ds) a → H2 a = some o := st2.fr
          have t12 : ∀ a o, H1 a = some o → ¬ Un B1 σ en1 a → H2 a = some o ∧ ¬ Un (fun a => (B1 a ∧ ¬ Ro rs vs a) ∨ nw a) σ (putBack io rs outs en1) a := fun a o x n => by
            refine ⟨keep a o x fun z => n (unC (.inr z)), fun z => ?_⟩
            rcases z with (z | z) | z
            · exact n (.inl z.1)
            · exact absurd (hnw a z).2 (by rw [x]; simp)
            · exact n (.inr (ownP z))
          have out1 : ∀ a o, H2 a = some o → ¬ Un B2 (vs.map some) (mkE io outs) a → Un (fun a => (B1 a ∧ ¬ Ro rs vs a) ∨ nw a) σ (putBack io rs outs en1) a → borrows io rs = true ∧ (∀ xs, o ≠ .tup xs) ∧ ∀ xs, o ≠ .xd xs := by
            intro a o ho n z
            rcases z with (z | z) | z
            · exact absurd (.inl (bx2.up a ⟨.inl z.1, z.2⟩)) n
            · exact absurd (.inl (hnw a z).1) n
            · have zo := ownP z
              by_cases hm : Ro rs vs a
              · -- one of the arguments
                obtain ⟨i, r, q1, ir, hi⟩ := hm
                have hil : i < io.length := by rw [← hvl]; exact get_lt hi
                obtain ⟨b, hb⟩ : ∃ b, io[i]? = some b := ⟨_, List.getElem?_eq_getElem hil⟩
                obtain ⟨d, hd⟩ : ∃ d, ds[i]? = some d := ⟨_, List.getElem?_eq_getElem (by rw [hdl]; exact hil)⟩
                obtain ⟨r', v, q1', q2, q3, q4⟩ := at_ hb hd
                rw [q1] at q1'
                cases q1'
                rw [hi] at q2
                cases q2
                cases b with
                | true =>
                  obtain ⟨d', hd'⟩ := (⟨_, List.getElem?_eq_getElem (by omega)⟩ : ∃ d', outs[i]? = some d')
                  exact absurd (.inr ⟨i, true, d', mkE_of hb hd', by rw [List.getElem?_map, hi] <;> rfl⟩) n
                | false =>
                  cases r with
                  | sh x => cases ir
                  | fr x =>
                    exfalso
                    obtain ⟨p, e5, bp, _⟩ := q3
                    cases e5
                    obtain ⟨k, f, d2, t1, t2⟩ := zo
                    obtain ⟨p', s2, n2, _⟩ := G1.own k f d2 t1
                    rw [t2] at s2
                    cases s2
                    exact n2 bp
                  | sl j =>
                    obtain ⟨f, p, g1, g2, g3, g4⟩ := slAt q4
                    have q3' : σ[j]? = some (some (.ref a)) := q3
                    rw [g2] at q3'
                    cases q3'
                    cases hbr : borrows io rs with
                    | false => exact (borrows_no hbr hb q1).elim
                    | true =>
                      have key : (∃ xs, o = .tup xs) ∨ (∃ xs, o = .xd xs) → False := fun ex => by
                        obtain ⟨o1, ho1⟩ := g4.at
                        have ho2 := keep _ o1 ho1 fun z => by
                          obtain ⟨i', j', f', d2, t1, t2, t3, t4, t5, t6⟩ := ownC z
                          have := hbo hbr
                          have hm2 : io.elem true = true := List.elem_eq_true_of_mem (List.mem_of_getElem? t1)
                          rw [this] at hm2
                          cases hm2
                        have eo : o = o1 := Option.some.inj (ho.symm.trans ho2)
                        subst eo
                        cases d with
                        | lst _ => obtain ⟨_, e6, _⟩ := g4; rw [ho1] at e6; cases e6; rcases ex with ⟨_, z⟩ | ⟨_, z⟩ <;> cases z
                        | dic _ => obtain ⟨_, e6, _⟩ := g4; rw [ho1] at e6; cases e6; rcases ex with ⟨_, z⟩ | ⟨_, z⟩ <;> cases z
                        | obj _ _ => obtain ⟨_, _, e6, _⟩ := g4; rw [ho1] at e6; cases e6; rcases ex with ⟨_, z⟩ | ⟨_, z⟩ <;> cases z
                        | non => exact g4.elim
                        | bl _ => exact g4.elim
                        | int _ => exact g4.elim
                        | str _ => exact g4.elim
                        | tup _ => exact g4.elim
                        | scr _ => exact g4.elim
                        | exn _ _ => exact g4.elim
                      exact ⟨rfl, fun xs e => key (.inl ⟨xs, e⟩), fun xs e => key (.inr ⟨xs, e⟩)⟩
              · exact absurd (.inl (bx2.up a ⟨.inr zo, hm⟩)) n
          have back : ∀ {k : Nat} {s : Sl}, (putBack io rs outs en1)[k]? = some s → ∃ s0, en1[k]? = some s0 ∧ SlSame s0 s := fun {k s} q1 => by
            have hk : k < en1.length := by
              have := get_lt q1
              rw [putBack_len] at this
              exact this
            obtain ⟨s', g1, g2⟩ := putBack_get (io := io) (rs := rs) (outs := outs) (List.getElem?_eq_getElem hk)
            rw [q1] at g1
            cases g1
            exact ⟨_, List.getElem?_eq_getElem hk, g2⟩
          have backO : ∀ {k : Nat} {f : Bool} {d : D}, (putBack io rs outs en1)[k]? = some (.o f d) → ∃ d0, en1[k]? = some (Sl.o f d0) := fun {k f d} q1 => by
            obtain ⟨s0, h1, h2⟩ := back q1
            rcases h2 with h2 | ⟨f', d0, d1, h2, h3⟩
            · exact ⟨d, by rw [h1, h2]⟩
            · cases h3
              exact ⟨d0, by rw [h1, h2]⟩
          have rootNB : ∀ {a : Addr}, Ro rs vs a → ¬ B a := fun {a} ⟨i, r, q1, ir, hi⟩ hB => by
            have hil : i < io.length := by rw [← hvl]; exact get_lt hi
            obtain ⟨b, hb⟩ : ∃ b, io[i]? = some b := ⟨_, List.getElem?_eq_getElem hil⟩
            obtain ⟨d, hd⟩ : ∃ d, ds[i]? = some d := ⟨_, List.getElem?_eq_getElem (by rw [hdl]; exact hil)⟩
            obtain ⟨r', v, q1', q2, q3, q4⟩ := at_ hb hd
            rw [q1] at q1'
            cases q1'
            rw [hi] at q2
            cases q2
            cases r with
            | sh x => cases ir
            | fr x =>
              have fr := frNs_get fn q1 hi
              rcases fr a rfl with z | z
              · exact G.all a hB z
              · obtain ⟨k, d2, t1, t2⟩ := z
                obtain ⟨p', s2, n2, _⟩ := G.own k false d2 t1
                rw [t2] at s2
                cases s2
                exact n2 hB
            | sl j =>
              obtain ⟨f, p, g1, g2, g3, g4⟩ := slAt q4
              have q3' : σ[j]? = some (some (.ref a)) := q3
              rw [g2] at q3'
              cases q3'
              exact g3 (b1.up _ hB)
          have notB' : ∀ {k : Nat} {f : Bool} {d0 : D} {p : Addr}, en1[k]? = some (.o f d0) → σ[k]? = some (some (.ref p)) → ¬ ((B1 p ∧ ¬ Ro rs vs p) ∨ nw p) := fun {k f d0 p} h1 h2 z => by
            obtain ⟨p', s2, n2, c2⟩ := G1.own k f d0 h1
            rw [h2] at s2
            cases s2
            rcases z with z | z
            · exact n2 z.1
            · obtain ⟨o, ho⟩ := c2.at
              have := (hnw p z).2
              rw [ho] at this
              cases this
          refine ⟨⟨fun a h => .inl ⟨b1.up a h, fun z => rootNB z h⟩, fun a h => ?_⟩, ?_, ?_, out1⟩
          · rcases h with h | h
            · exact b1.new a h.1
            · exact .inr (.inl (Classical.byContradiction fun z => st1.al a z (hnw a h).2))
          · exact {
              len := by rw [putBack_len]; exact G1.len
              all := fun a h => by
                rcases h with h | h
                · exact st2.al a (G1.all a h.1)
                · exact G2.all a (hnw a h).1
              rep := fun k d e => by
                obtain ⟨s0, h1, h2⟩ := back e
                rcases h2 with h2 | ⟨f', d0, d1, h2, h3⟩
                · subst h2
                  obtain ⟨v, s, r⟩ := G1.rep k d h1
                  exact ⟨v, s, Rep.to t12 d v r⟩
                · cases h3
              own := fun k f d e => by
                obtain ⟨d0, h1⟩ := backO e
                obtain ⟨p, s1, n1, c1⟩ := G1.own k f d0 h1
                refine ⟨p, s1, notB' h1 s1, ?_⟩
                by_cases hl : ∃ i : Nat, io[i]? = some true ∧ rs[i]? = some (R.sl k)
                · obtain ⟨i, l1, l2⟩ := hl
                  have hil : i < io.length := get_lt l1
                  obtain ⟨d', hd'⟩ : ∃ d', outs[i]? = some d' := ⟨_, List.getElem?_eq_getElem (by omega)⟩
                  obtain ⟨dd, hdd⟩ : ∃ d, ds[i]? = some d := ⟨_, List.getElem?_eq_getElem (by rw [hdl]; exact hil)⟩
                  obtain ⟨j, f', p', t1, t2, t3, t4, t5, t6⟩ := lentAt l1 hdd
                  rw [l2] at t1
                  cases t1
                  rw [s1] at t3
                  cases t3
                  have ep := putBack_lent nd l1 l2 hd' h1
                  rw [e] at ep
                  cases ep
                  obtain ⟨p2, s2, n2, c2⟩ := G2.own i true d (mkE_of l1 hd')
                  rw [List.getElem?_map, t4] at s2
                  cases s2
                  refine Cont.to (fun a o x n => ⟨x, fun z => ?_⟩) (fun _ x => x) c2
                  have hz := (out1 a o x n z).1
                  have := hbo hz
                  have hm2 : io.elem true = true := List.elem_eq_true_of_mem (List.mem_of_getElem? l1)
                  rw [this] at hm2
                  cases hm2
                · have eo := putBack_other (io := io) (rs := rs) (outs := outs) (en := en1) (k := k) (fun i l1 l2 => hl ⟨i, l1, l2⟩)
                  rw [eo, h1] at e
                  cases e
                  refine Cont.to t12 (fun o x => keep p o x fun z => ?_) c1
                  obtain ⟨i', j, f', d2, g1, g2, g3, g4, g5, g6⟩ := ownC z
                  have ej := G1.inj k j p f f' _ _ h1 g4 s1 g5
                  subst ej
                  exact hl ⟨i', g1, g3⟩
              inj := fun k l p b c d d' e1 e2 s1 s2 => by
                obtain ⟨d0, h1⟩ := backO e1
                obtain ⟨d1, h2⟩ := backO e2
                exact G1.inj k l p b c d0 d1 h1 h2 s1 s2 }
          · exact {
              len := putBack_len
              fr := fun a o h n => keep a o h fun z => n (by
                obtain ⟨i', j, f', d2, g1, g2, g3, g4, g5, g6⟩ := ownC z
                exact ⟨j, f', d2, g4, g5⟩)
              al := st2.al
              ow := fun a h => .inl (ownP h)
              of := fun a h => by
                obtain ⟨k, d, e, s⟩ := h
                obtain ⟨d0, h1⟩ := backO e
                exact .inl ⟨k, d0, h1, s⟩
              pin := fun k d e => by
                obtain ⟨s', g1, g2⟩ := putBack_get (io := io) (rs := rs) (outs := outs) e
                refine ⟨rfl, ?_⟩
                rcases g2 with g2 | ⟨f', d0, d1, g2, g3⟩
                · exact ⟨d, by rw [g1, g2]⟩
                · cases g2
                  exact ⟨d1, by rw [g1, g3]⟩
              pb := fun k d e => backO e }
        cases e4 : φ ds with
        | bad => rw [e4] at m; exact m.elim
        | exc x outs =>
          rw [e4] at m
          dsimp only at m
          cases e5 : !(borrows io rs) || (!(io.elem true) && excFlat x) with
          | false => rw [e5] at m; exact m.elim
          | true =>
            rw [e5] at m
            intro c od H2 hx G2 st2
            have hbo : borrows io rs = true → io.elem true = false ∧ excFlat x = true := fun h => by
              rw [h] at e5
              simpa using e5
            obtain ⟨q1, q2, q3, q4⟩ := core outs Bc H2 (fun _ => False) (fun a h => h.elim) (fun h => (hbo h).1) (Bx.refl Bc _ _ H1) G2 st2
            refine m c od H2 ?_ (q2.mono q1.up) (st1.trans q3)
            obtain ⟨h1, h2⟩ := hx
            refine ⟨h1, ?_⟩
            cases ef : x.fld with
            | none => rw [ef] at h2; exact h2
            | some fd =>
              obtain ⟨fn, fd⟩ := fd
              rw [ef] at h2
              obtain ⟨a, v, r1, nu, r2, r3⟩ := h2
              refine ⟨a, v, r1, fun z => (q4 a _ r2 nu (Un.mono q1.up z)).2.2 _ rfl, r2, ?_⟩
              cases hbr : borrows io rs with
              | false => exact Rep.to (fun a o x n => ⟨x, fun z => by
                  have := (q4 a o x n (Un.mono q1.up z)).1
                  rw [hbr] at this
                  cases this⟩) _ _ r3
              | true =>
                have hf := (hbo hbr).2
                unfold excFlat at hf
                rw [ef] at hf
                exact Rep.flat (fun a xs x n z => (q4 a _ x n (Un.mono q1.up z)).2.1 xs rfl) hf r3
        | ret b d outs =>
          rw [e4] at m
          dsimp only at m
          cases e5 : !(borrows io rs) || (!(io.elem true) && resFlat b d) with
          | false => rw [e5] at m; exact m.elim
          | true =>
            rw [e5] at m
            intro v H2 ⟨B2, bx2, G2, hs, hf⟩ st2
            have hbo : borrows io rs = true → io.elem true = false ∧ resFlat b d = true := fun h => by
              rw [h] at e5
              simpa using e5
            cases b with
            | false =>
              obtain ⟨q1, q2, q3, q4⟩ := core outs B2 H2 (fun _ => False) (fun a h => h.elim) (fun h => (hbo h).1) bx2 G2 st2
              refine m v H2 ⟨_, q1, q2, ?_, trivial⟩ (st1.trans q3)
              cases hbr : borrows io rs with
              | false => exact Rep.to (fun a o x n => ⟨x, fun z => by
                  have := (q4 a o x n z).1
                  rw [hbr] at this
                  cases this⟩) _ _ (hs rfl)
              | true => exact Rep.flat (fun a xs x n z => (q4 a _ x n z).2.1 xs rfl) (hbo hbr).2 (hs rfl)
            | true =>
              obtain ⟨p, ev, np, bp, c⟩ := hf rfl
              obtain ⟨q1, q2, q3, q4⟩ := core outs B2 H2 (fun a => a = p) (fun a h => by rw [h]; exact ⟨bp, np⟩) (fun h => (hbo h).1) bx2 G2 st2
              refine m v H2 ⟨_, q1, q2, ⟨p, ev, .inr rfl, ?_⟩, ?_⟩ (st1.trans q3)
              · cases hbr : borrows io rs with
                | false => exact Cont.to (fun a o x n => ⟨x, fun z => by
                    have := (q4 a o x n z).1
                    rw [hbr] at this
                    cases this⟩) (fun _ x => x) c
                | true => exact Cont.flat (fun a xs x n z => (q4 a _ x n z).2.1 xs rfl) (hbo hbr).2 c
              · intro q eq
                rw [ev] at eq
                cases eq
                exact .inl (Classical.byContradiction fun z => st1.al p z np)
/-- f(..), f a def of the text -/
theorem e_call {X : Cx} {k : Nat} {f : Addr} {fd : FuncData} {ps : List Str} {x : Str} {p pos : Pos} {e : Expr} {es : List Expr} (F : FnOk X.prog X.w X.K X.mg X.base (L2.CX X.prog X.w) k f fd ps (spD X.K io φ)) (hr : Room k X.A) (hg : Gl X x) (hm : X.mg x = some (.ref f)) (hk : PySem.W.keepIn X.K (.ref f) = true) (hb : Binds X.K fd ps []) (tk : Takes X W)
    (ha : PA X (e :: es) (RdA X.K W fs)) (hdb : (x == ("__debug__" : Str)) = false := by decide) (he : starEach (e :: es) X.env = (false, eval e X.env) :: starEach es X.env := by rfl) (hpl : (backTo pos (starEach es X.env)).any (·.1) = false := by rfl) :
    PE X (.Call (.Name x p) (e :: es) [] pos) (RdE X.K W (callF io φ fs)) :=
  pe_imp (pe_callS (E := WE W) F hr hg hm hk hb (fun σ => passAt tk σ) ha hdb he hpl) fun σ H Q m => callImp m
end
end PyD

namespace PyD
open PySem PySem.Spec L2

/-! ### what is stored -/
def stoD : R → Option D
  | .sh d => some d
  | .fr d => some d
  | .sl _ => none
def stos : List R → Option (List D)
  | [] => some []
  | r :: rs => match stoD r with
    | some d => (match stos rs with
      | some ds => some (d :: ds)
      | none => none)
    | none => none
def tupF (fs : M (List R)) : M R := fun en => match fs en with
  | .ok rs en1 => (match stos rs with
    | some ds => (match decide (ds.length ≤ 1000) with
      | true => .ok (.sh (.tup ds)) en1
      | false => .bad)
    | none => .bad)
  | .exc x en1 => .exc x en1
  | .bad => .bad
def lstF (fs : M (List R)) : M R := fun en => match fs en with
  | .ok rs en1 => (match stos rs with
    | some ds => (match decide (ds.length ≤ 1000) with
      | true => .ok (.fr (.lst ds)) en1
      | false => .bad)
    | none => .bad)
  | .exc x en1 => .exc x en1
  | .bad => .bad
def dicF : M R := fun en => .ok (.fr (.dic [])) en
/-- a method that changes the slot's thing -/
def mutF (st : Bool) (i : Nat) (isT : D → Bool) (g : D → List D → Option (D × D)) (fs : M (List R)) : M R := fun en => match en[i]? with
  | some (.o _ dd) => (match isT dd with
    | true => (match fs en with
      | .ok rs en1 => (match (match st with | true => stos rs | false => rsls en1 rs) with
        | some ds => (match en1[i]? with
          | some (.o b d0) => (match g d0 ds with
            | some (d1, d) => .ok (.sh d) (en1.set i (.o b d1))
            | none => .bad)
          | _ => .bad)
        | none => .bad)
      | .exc x en1 => .exc x en1
      | .bad => .bad)
    | false => .bad)
  | _ => .bad
/-- thing[index] = value -/
def stF (i : Nat) (fi fv : M R) (u : D → D → D → Option D) : En → Fl := fun en => match fv en with
  | .ok r en1 => (match stoD r with
    | some d => (match en1[i]? with
      | some (.o _ _) => (match fi en1 with
        | .ok ri en2 => (match rsl en2 ri with
          | some di => (match en2[i]? with
            | some (.o b d0) => (match u d0 di d with
              | some d1 => .nx (en2.set i (.o b d1))
              | none => .bad)
            | _ => .bad)
          | none => .bad)
        | .exc x en2 => .exc x en2
        | .bad => .bad)
      | _ => .bad)
    | none => .bad)
  | .exc x en1 => .exc x en1
  | .bad => .bad

section
variable {K : PySem.W.Frag} {W : WX} {B B' B1 : Addr → Prop} {U U' : Addr → Prop} {H H' H1 : Hp} {σ σ' σ1 : L2.St} {en en' en1 : En} {d : D} {v : V} {i : Nat} {p : Addr} {ds : List D} {fs : M (List R)} {Q : VK} {D0 : Ends}
theorem stoD_of {r : R} {d : D} (h : stoD r = some d) : r = .sh d ∨ r = .fr d := by
  cases r with
  | sh x => cases h; exact .inl rfl
  | fr x => cases h; exact .inr rfl
  | sl x => cases h
theorem stos_rep (bx : Bx B B' σ en H) (G : Good K B H σ en) (G' : Good K B' H' σ en') : ∀ {rs : List R} {vs : List V} {ds : List D}, ArgRs K B' σ en' H' rs vs → frNs σ en H rs vs → stos rs = some ds → RepL K (Un B σ en') H' ds vs
  | [], vs, ds, h, _, e => by
    cases e
    unfold RepL
    exact h
  | r :: rs, vs, ds, ⟨v, us, e1, h1, h2⟩, fn, e => by
    subst e1
    unfold stos at e
    cases q : stoD r with
    | none => rw [q] at e; cases e
    | some d =>
      rw [q] at e
      dsimp only at e
      cases q2 : stos rs with
      | none => rw [q2] at e; cases e
      | some ds' =>
        rw [q2] at e
        cases e
        unfold RepL
        exact ⟨v, us, rfl, sto_rep bx G G' h1 fn.1 (stoD_of q), stos_rep bx G G' h2 fn.2 q2⟩
theorem ext_new {o : HO} (h : H p = none) : Ext H (upd H p o) := fun a x e => by
  rw [upd_ne (ne_of_none e h)]
  exact e
theorem small_of {n : Nat} (h : n ≤ 1000) : n ≤ sizeLine := Nat.le_trans h (by decide)
theorem tupImp (m : RdE K W (tupF fs) σ H Q) : tTup (RdA K W fs) σ H Q := by
  obtain ⟨B, en, G, m⟩ := m
  refine ⟨B, en, G, ?_⟩
  unfold tupF at m
  cases e : fs en with
  | bad => rw [e] at m; exact m
  | exc x en1 => rw [e] at m; exact m
  | ok rs en1 =>
    rw [e] at m
    dsimp only at m ⊢
    intro vs H1 ⟨B1, b1, G1, ra, fn⟩ st1
    cases e2 : stos rs with
    | none => rw [e2] at m; exact m.elim
    | some ds =>
      rw [e2] at m
      dsimp only at m
      have rl := stos_rep b1 G G1 ra fn e2
      cases e3 : decide (ds.length ≤ 1000) with
      | false => rw [e3] at m; exact m.elim
      | true =>
        rw [e3] at m
        refine ⟨small_of (by rw [rl.len]; exact of_decide_eq_true e3), fun p hp => ?_⟩
        have x : Ext H1 (upd H1 p (.tup vs)) := ext_new hp
        have G2 := G1.mono b1.up
        refine m _ _ ⟨B, Bx.refl B σ en H, G2.ext0 x, ?_, trivial⟩ (st1.trans (Stp.ext x))
        unfold ArgR Rep
        exact ⟨p, vs, rfl, fun z => G2.unAt z hp, upd_same, RepL.to (fun a o q n => ⟨x a o q, n⟩) _ _ rl⟩
theorem newOwn (hp : H p = none) {o : HO} (G : Good K B H σ en) : Good K (fun a => B a ∨ a = p) (upd H p o) σ en :=
  G.ext (ext_new hp) fun a h => by
    rcases h with h | h
    · exact .inl h
    · rw [h, upd_same]
      exact .inr ⟨hp, by simp⟩
theorem bxNew (hp : H p = none) : Bx B (fun a => B a ∨ a = p) σ en H := ⟨fun a h => .inl h, fun a h => by
  rcases h with h | h
  · exact .inl h
  · rw [h]; exact .inr (.inl hp)⟩
theorem newTo (hp : H p = none) {o : HO} : ∀ a x, H a = some x → ¬ Un B σ en a → upd H p o a = some x ∧ ¬ Un (fun a => B a ∨ a = p) σ en a := fun a x q n => ⟨ext_new hp a x q, fun z => by
  rcases un_or z with z | z
  · exact n z
  · rw [z, hp] at q; cases q⟩
theorem lstImp (m : RdE K W (lstF fs) σ H Q) : tLst (RdA K W fs) σ H Q := by
  obtain ⟨B, en, G, m⟩ := m
  refine ⟨B, en, G, ?_⟩
  unfold lstF at m
  cases e : fs en with
  | bad => rw [e] at m; exact m
  | exc x en1 => rw [e] at m; exact m
  | ok rs en1 =>
    rw [e] at m
    dsimp only at m ⊢
    intro vs H1 ⟨B1, b1, G1, ra, fn⟩ st1
    cases e2 : stos rs with
    | none => rw [e2] at m; exact m.elim
    | some ds =>
      rw [e2] at m
      dsimp only at m
      have rl := stos_rep b1 G G1 ra fn e2
      cases e3 : decide (ds.length ≤ 1000) with
      | false => rw [e3] at m; exact m.elim
      | true =>
        rw [e3] at m
        refine ⟨small_of (by rw [rl.len]; exact of_decide_eq_true e3), fun p hp => ?_⟩
        have x : Ext H1 (upd H1 p (.lst vs)) := ext_new hp
        have G2 := G1.mono b1.up
        have hp0 : H p = none := Classical.byContradiction fun z => st1.al p z hp
        refine m _ _ ⟨_, bxNew hp0, newOwn hp G2, ⟨p, rfl, .inr rfl, vs, upd_same, RepL.to (newTo hp) _ _ rl⟩, ?_⟩ (st1.trans (Stp.ext x))
        intro q eq
        cases eq
        exact .inl hp0
theorem dicImp (m : RdE K W dicF σ H Q) : tDNewK σ H Q := by
  obtain ⟨B, en, G, m⟩ := m
  intro p hp
  refine m _ _ ⟨_, bxNew hp, newOwn hp G, ⟨p, rfl, .inr rfl, [], upd_same, by unfold RepK; rfl⟩, ?_⟩ (Stp.ext (ext_new hp))
  intro q eq
  cases eq
  exact .inl hp

/-! ### a slot's thing is changed -/
theorem own_set_o {b : Bool} {d0 d1 : D} (e : en[i]? = some (.o b d0)) {a : Addr} (h : Own σ (en.set i (.o b d1)) a) : Own σ en a := by
  obtain ⟨j, c, d', e1, s1⟩ := h
  rcases set_get e1 with ⟨q, z, _⟩ | ⟨_, q⟩
  · subst q
    cases z
    exact ⟨i, b, d0, e, s1⟩
  · exact ⟨j, c, d', q, s1⟩
theorem Good.mut {b : Bool} {d0 d1 : D} (G : Good K B H σ en) (e : en[i]? = some (.o b d0)) (s : σ[i]? = some (some (.ref p))) (k : ∀ a o, a ≠ p → H a = some o → H' a = some o) (hp : H' p ≠ none) (c : Cont K (Un B σ en) H' d1 p) :
    Good K B H' σ (en.set i (.o b d1)) ∧ Stp σ en H σ (en.set i (.o b d1)) H' := by
  have up : Own σ en p := ⟨i, b, d0, e, s⟩
  have t : ∀ a o, H a = some o → ¬ Un B σ en a → H' a = some o ∧ ¬ Un B σ (en.set i (.o b d1)) a := fun a o x n => ⟨k a o (fun z => n (by rw [z]; exact .inr up)) x, fun z => n (z.imp id (own_set_o e))⟩
  have t' : ∀ a o, H' a = some o → ¬ Un B σ en a → H' a = some o ∧ ¬ Un B σ (en.set i (.o b d1)) a := fun a o x n => ⟨x, fun z => n (z.imp id (own_set_o e))⟩
  have al : ∀ a, H a ≠ none → H' a ≠ none := fun a h => by
    by_cases z : a = p
    · rw [z]; exact hp
    · cases q : H a with
      | none => exact absurd q h
      | some o => rw [k a o z q]; simp
  have hi : i < en.length := get_lt e
  refine ⟨?_, ?_⟩
  · exact {
      len := by rw [List.length_set]; exact G.len
      all := fun a h => al a (G.all a h)
      rep := fun j d e1 => by
        rcases set_get e1 with ⟨_, z, _⟩ | ⟨_, q⟩
        · cases z
        · obtain ⟨v, s1, r⟩ := G.rep j d q
          exact ⟨v, s1, Rep.to t d v r⟩
      own := fun j c' d e1 => by
        rcases set_get e1 with ⟨q, z, _⟩ | ⟨ne, q⟩
        · subst q
          cases z
          obtain ⟨p', s1, n1, _⟩ := G.own i b d0 e
          rw [s] at s1
          cases s1
          exact ⟨p, s, n1, Cont.to t' (fun _ x => x) c⟩
        · obtain ⟨p', s1, n1, c1⟩ := G.own j c' d q
          refine ⟨p', s1, n1, Cont.to t (fun o x => k p' o (fun z => ?_) x) c1⟩
          rw [z] at s1
          exact ne (G.inj i j p b c' d0 d e q s s1)
      inj := fun j l q c1 c2 x y e1 e2 s1 s2 => by
        have h1 : ∃ z, en[j]? = some (Sl.o c1 z) := by
          rcases set_get e1 with ⟨q, z, _⟩ | ⟨_, q⟩
          · subst q; cases z; exact ⟨d0, e⟩
          · exact ⟨x, q⟩
        have h2 : ∃ z, en[l]? = some (Sl.o c2 z) := by
          rcases set_get e2 with ⟨q, z, _⟩ | ⟨_, q⟩
          · subst q; cases z; exact ⟨d0, e⟩
          · exact ⟨y, q⟩
        obtain ⟨z1, h1⟩ := h1
        obtain ⟨z2, h2⟩ := h2
        exact G.inj j l q c1 c2 z1 z2 h1 h2 s1 s2 }
  · exact {
      len := List.length_set
      fr := fun a o h n => k a o (fun z => n (by rw [z]; exact up)) h
      al := al
      ow := fun a h => .inl (own_set_o e h)
      of := fun a h => by
        obtain ⟨j, d', e1, s1⟩ := h
        rcases set_get e1 with ⟨q, z, _⟩ | ⟨_, q⟩
        · subst q; cases z; exact .inl ⟨i, d0, e, s1⟩
        · exact .inl ⟨j, d', q, s1⟩
      pin := fun j d' e1 => by
        refine ⟨rfl, ?_⟩
        by_cases z : i = j
        · subst z
          rw [e] at e1
          cases e1
          exact ⟨d1, by rw [List.getElem?_set, if_pos rfl, if_pos hi]⟩
        · exact ⟨d', by rw [List.getElem?_set_ne z]; exact e1⟩
      pb := fun j d' e1 => by
        rcases set_get e1 with ⟨q, z, _⟩ | ⟨_, q⟩
        · subst q; cases z; exact ⟨d0, e⟩
        · exact ⟨d', q⟩ }
/-- what a changing method does: to the thing's data, and what it gives -/
def PrimM (K : PySem.W.Frag) (st : Bool) (r : V → List V → Hp → VK → Prop) (g : D → List D → Option (D × D)) : Prop :=
  ∀ (U : Addr → Prop) (H : Hp) (d0 : D) (ds : List D) (p : Addr) (vs : List V) (Q : VK) (d1 d : D), (∀ a, U a → H a ≠ none) → U p → Cont K U H d0 p → ARepL K U H ds vs → (st = true → RepL K U H ds vs) → g d0 ds = some (d1, d) →
    (∀ v H', (∀ a o, a ≠ p → H a = some o → H' a = some o) → H' p ≠ none → Cont K U H' d1 p → Rep K U H' d v → Q v H') → r (.ref p) vs H Q
theorem ARepL.mono (h : ∀ a, U' a → U a) : ∀ {ds : List D} {vs : List V}, ARepL K U H ds vs → ARepL K U' H ds vs
  | [], vs, e => e
  | d :: ds, vs, ⟨v, us, e, h1, h2⟩ => by
    have t : ∀ a o, H a = some o → ¬ U a → H a = some o ∧ ¬ U' a := fun a o x n => ⟨x, fun z => n (h a z)⟩
    refine ⟨v, us, e, ?_, ARepL.mono h h2⟩
    cases d with
    | lst _ => obtain ⟨a, xs, e1, s, r⟩ := h1; exact ⟨a, xs, e1, s, RepL.to t _ _ r⟩
    | dic _ => obtain ⟨a, xs, e1, s, r⟩ := h1; exact ⟨a, xs, e1, s, RepK.to t _ _ r⟩
    | obj _ _ => obtain ⟨a, dx, xs, e1, s, r⟩ := h1; exact ⟨a, dx, xs, e1, s, RepF.to t _ _ r⟩
    | non => exact Rep.to (K := K) t _ v h1
    | bl _ => exact Rep.to (K := K) t _ v h1
    | int _ => exact Rep.to (K := K) t _ v h1
    | str _ => exact Rep.to (K := K) t _ v h1
    | tup _ => exact Rep.to (K := K) t _ v h1
    | scr _ => exact Rep.to (K := K) t _ v h1
    | exn _ _ => exact Rep.to (K := K) t _ v h1
theorem RepL.arep : ∀ {ds : List D} {vs : List V}, RepL K U H ds vs → ARepL K U H ds vs
  | [], vs, e => by
    unfold RepL at e
    exact e
  | d :: ds, vs, h => by
    unfold RepL at h
    obtain ⟨v, us, e, h1, h2⟩ := h
    exact ⟨v, us, e, Rep.arep h1, RepL.arep h2⟩
def isLst : D → Bool
  | .lst _ => true
  | _ => false
def isDic : D → Bool
  | .dic _ => true
  | _ => false
/-- the receiver's type, as tyV asks -/
def TyOk (K : PySem.W.Frag) (T : String) (isT : D → Bool) : Prop := ∀ (U : Addr → Prop) (H : Hp) (d : D) (p : Addr), isT d = true → Cont K U H d p → tyV K T (.ref p) H
theorem ty_lst : TyOk K "list" isLst := fun U H d p h c => by
  cases d with
  | lst ds => obtain ⟨vs, a, _⟩ := c; exact .inl ⟨rfl, vs, SqL.of a⟩
  | _ => cases h
theorem ty_dic : TyOk K "dict" isDic := fun U H d p h c => by
  cases d with
  | dic ds => obtain ⟨vs, a, _⟩ := c; exact .inr (.inr (.inl ⟨rfl, .inl ⟨vs, a⟩⟩))
  | _ => cases h
theorem mutImp {st : Bool} {T : String} {r : V → List V → Hp → VK → Prop} {isT : D → Bool} {g : D → List D → Option (D × D)} (hT : TyOk K T isT) (hp : PrimM K st r g) (m : RdE K W (mutF st i isT g fs) σ H Q) :
    tBM K T r (tVar i) (RdA K W fs) σ H Q := by
  obtain ⟨B, en, G, m⟩ := m
  unfold mutF at m
  cases e : en[i]? with
  | none => rw [e] at m; exact m.elim
  | some s =>
    rw [e] at m
    cases s with
    | e => exact m.elim
    | v _ => exact m.elim
    | o b0 dd =>
      dsimp only at m
      cases ei : isT dd with
      | false => rw [ei] at m; exact m.elim
      | true =>
        rw [ei] at m
        dsimp only at m
        obtain ⟨p, s, n, c⟩ := G.own i b0 dd e
        refine ⟨.ref p, s, hT _ _ _ _ ei c, B, en, G, ?_⟩
        cases e1 : fs en with
        | bad => rw [e1] at m; exact m
        | exc x en1 => rw [e1] at m; exact m
        | ok rs en1 =>
          rw [e1] at m
          dsimp only at m ⊢
          intro vs H1 ⟨B1, b1, G1, ra, fn⟩ st1
          cases e2 : (match st with | true => stos rs | false => rsls en1 rs) with
          | none => rw [e2] at m; exact m.elim
          | some ds =>
            rw [e2] at m
            dsimp only at m
            cases e3 : en1[i]? with
            | none => rw [e3] at m; exact m.elim
            | some s3 =>
              rw [e3] at m
              cases s3 with
              | e => exact m.elim
              | v _ => exact m.elim
              | o b d0 =>
                dsimp only at m
                cases e4 : g d0 ds with
                | none => rw [e4] at m; exact m.elim
                | some dd1 =>
                  obtain ⟨d1, d⟩ := dd1
                  rw [e4] at m
                  dsimp only at m
                  have G2 := G1.mono b1.up
                  obtain ⟨p', s', n', c'⟩ := G2.own i b d0 e3
                  rw [s] at s'
                  cases s'
                  have ar : ARepL K (Un B σ en1) H1 ds vs ∧ (st = true → RepL K (Un B σ en1) H1 ds vs) := by
                    cases st with
                    | true =>
                      have rl := stos_rep b1 G G1 ra fn e2
                      exact ⟨rl.arep, fun _ => rl⟩
                    | false => exact ⟨ARepL.mono (fun a z => Un.mono b1.up z) (ArgRs.arep G1 ra e2), fun z => by cases z⟩
                  refine hp (Un B σ en1) H1 d0 ds p vs Q d1 d (fun a => G2.unAt) (.inr ⟨i, b, d0, e3, s⟩) c' ar.1 ar.2 e4 fun v H2 k1 k2 k3 k4 => ?_
                  obtain ⟨g2, s2⟩ := G2.mut e3 s k1 k2 k3
                  refine m v H2 ⟨B, Bx.refl B σ en H, g2, ?_, trivial⟩ (st1.trans s2)
                  exact Rep.to (fun a o x n => ⟨x, fun z => n (z.imp id (own_set_o e3))⟩) _ _ k4
theorem mutImp0 {T : String} {r : V → List V → Hp → VK → Prop} {isT : D → Bool} {g : D → List D → Option (D × D)} (hT : TyOk K T isT) (hp : PrimM K true r g) (m : RdE K W (mutF true i isT g nilF) σ H Q) :
    tBM0 K T r (tVar i) σ H Q := by
  obtain ⟨v, s, t, m⟩ := mutImp (W := W) hT hp m
  exact ⟨v, s, t, nilImp m⟩
/-- a store by values -/
def PrimS (K : PySem.W.Frag) (t : TSet) (u : D → D → D → Option D) : Prop :=
  ∀ (U : Addr → Prop) (H : Hp) (d0 di d : D) (p : Addr) (vi v : V) (Q : Hp → Prop) (d1 : D), (∀ a, U a → H a ≠ none) → U p → Cont K U H d0 p → ARep K U H di vi → Rep K U H d v → u d0 di d = some d1 →
    (∀ H', (∀ a o, a ≠ p → H a = some o → H' a = some o) → H' p ≠ none → Cont K U H' d1 p → Q H') → t (.ref p) vi v H Q
theorem stImp {fi fv : M R} {u : D → D → D → Option D} {t : TSet} (hp : PrimS K t u) (m : RdS K W (stF i fi fv u) D0 σ H) : tAsg (RdE K W fv) (gSub (tVar i) (RdE K W fi) t) D0 σ H := by
  obtain ⟨B, en, G, m⟩ := RdS.qs m
  refine ⟨B, en, G, ?_⟩
  unfold stF at m
  cases e1 : fv en with
  | bad => rw [e1] at m; exact m
  | exc x en1 => rw [e1] at m; exact fun c od H' => m c od σ H'
  | ok r en1 =>
    rw [e1] at m
    dsimp only at m ⊢
    intro v H1 ⟨B1, b1, G1, ra, fn⟩ st1
    cases e2 : stoD r with
    | none => rw [e2] at m; exact m.elim
    | some d =>
      rw [e2] at m
      dsimp only at m
      have rv := sto_rep b1 G G1 ra fn (stoD_of e2)
      have G1' := G1.mono b1.up
      cases e3 : en1[i]? with
      | none => rw [e3] at m; exact m.elim
      | some s3 =>
        rw [e3] at m
        cases s3 with
        | e => exact m.elim
        | v _ => exact m.elim
        | o b0 dd =>
          dsimp only at m
          obtain ⟨p, s, n, c⟩ := G1'.own i b0 dd e3
          refine ⟨.ref p, s, B, en1, G1', ?_⟩
          cases e4 : fi en1 with
          | bad => rw [e4] at m; exact m
          | exc x en2 => rw [e4] at m; exact fun c od H2 ex g st => m c od σ H2 ex g (st1.trans st)
          | ok ri en2 =>
            rw [e4] at m
            dsimp only at m ⊢
            intro vi H2 ⟨B2, b2, G2, ri', fn2⟩ st2
            cases e5 : rsl en2 ri with
            | none => rw [e5] at m; exact m.elim
            | some di =>
              rw [e5] at m
              dsimp only at m
              cases e6 : en2[i]? with
              | none => rw [e6] at m; exact m.elim
              | some s6 =>
                rw [e6] at m
                cases s6 with
                | e => exact m.elim
                | v _ => exact m.elim
                | o b d0 =>
                  dsimp only at m
                  cases e7 : u d0 di d with
                  | none => rw [e7] at m; exact m.elim
                  | some d1 =>
                    rw [e7] at m
                    have G2' := G2.mono b2.up
                    obtain ⟨p', s', n', c'⟩ := G2'.own i b d0 e6
                    rw [s] at s'
                    cases s'
                    have ai : ARep K (Un B σ en2) H2 di vi := by
                      have := ARepL.mono (K := K) (H := H2) (ds := [di]) (vs := [vi]) (fun a z => Un.mono b2.up z) ⟨vi, [], rfl, ArgR.arep G2 ri' e5, rfl⟩
                      obtain ⟨v', us, e8, h8, _⟩ := this
                      cases e8
                      exact h8
                    refine hp (Un B σ en2) H2 d0 di d p vi v _ d1 (fun a => G2'.unAt) (.inr ⟨i, b, d0, e6, s⟩) c' ai (Rep.step st2 (Bx.refl B σ en1 H1) rv) e7 fun H3 k1 k2 k3 => ?_
                    obtain ⟨g2, s2⟩ := G2'.mut e6 s k1 k2 k3
                    exact m σ H3 g2 ((st1.trans st2).trans s2)
end

/-! ### slices -/
def slF (g : D → Option Int → Option Int → Option (Bool × D)) (f : M R) (lo hi : Option (M R)) : M R := fun en => match f en with
  | .ok r en1 => (match (match lo with | none => Res.ok none en1 | some fl => (match fl en1 with | .ok (.sh (.int k)) en2 => .ok (some k) en2 | .ok _ _ => .bad | .exc x en2 => .exc x en2 | .bad => .bad)) with
    | .ok l en2 => (match (match hi with | none => Res.ok none en2 | some fh => (match fh en2 with | .ok (.sh (.int k)) en3 => .ok (some k) en3 | .ok _ _ => .bad | .exc x en3 => .exc x en3 | .bad => .bad)) with
      | .ok h en3 => (match rsl en3 r with
        | some d => (match g d l h with
          | some (b, d') => .ok (mkR b d') en3
          | none => .bad)
        | none => .bad)
      | .exc x en3 => .exc x en3
      | .bad => .bad)
    | .exc x en2 => .exc x en2
    | .bad => .bad)
  | .exc x en1 => .exc x en1
  | .bad => .bad
def prtF (f : Option (M R)) : M (Option Int) := fun en => match f with
  | none => .ok none en
  | some fl => (match fl en with
    | .ok (.sh (.int k)) en2 => .ok (some k) en2
    | .ok _ _ => .bad
    | .exc x en2 => .exc x en2
    | .bad => .bad)
def poT (K : PySem.W.Frag) (W : WX) : Option (M R) → TO
  | none => tNoPart
  | some f => tPart (RdE K W f)
def PrimSl (K : PySem.W.Frag) (r : V → Option Int → Option Int → Hp → VK → Prop) (g : D → Option Int → Option Int → Option (Bool × D)) : Prop :=
  ∀ (U : Addr → Prop) (H : Hp) (d : D) (v : V) (lo hi : Option Int) (Q : VK) (b : Bool) (d' : D), (∀ a, U a → H a ≠ none) → ARep K U H d v → g d lo hi = some (b, d') →
    (∀ v H', Ext H H' → (b = false → Rep K U H' d' v) → (b = true → Fresh K U H H' d' v) → Q v H') → r v lo hi H Q
section
variable {K : PySem.W.Frag} {W : WX} {B B' B1 : Addr → Prop} {U U' : Addr → Prop} {H H' H1 : Hp} {σ σ' σ1 : L2.St} {en en' en1 : En} {d : D} {v : V} {i : Nat} {p : Addr} {ds : List D} {fs : M (List R)} {Q : VK} {D0 : Ends}
/-- a slice's part -/
theorem partOf {f : Option (M R)} {k : Option Int → Hp → Prop} (b1 : Bx B B1 σ en H) (G1 : Good K B1 H1 σ en1) (st1 : Stp σ en H σ en1 H1) (m : match prtF f en1 with
    | .ok o en2 => ∀ H2 B2, Bx B1 B2 σ en1 H1 → Good K B2 H2 σ en2 → Stp σ en1 H1 σ en2 H2 → k o H2
    | .exc x en' => ∀ c od H', ExR K (Un B σ en') H' x c od → Good K B H' σ en' → Stp σ en H σ en' H' → W c od σ H'
    | .bad => False) : poT K W f σ H1 k := by
  unfold prtF at m
  cases f with
  | none => exact m H1 B1 (Bx.refl B1 σ en1 H1) G1 (Stp.refl σ en1 H1)
  | some fl =>
    dsimp only at m
    refine ⟨B1, en1, G1, ?_⟩
    cases e : fl en1 with
    | bad => rw [e] at m; exact m
    | exc x en2 => rw [e] at m; exact fun c od H' ex g st => m c od H' (ex.mono fun a z => Un.mono b1.up z) (g.mono b1.up) (st1.trans st)
    | ok r en2 =>
      rw [e] at m
      intro v H2 ⟨B2, b2, G2, ra, _⟩ st2
      match r, m, ra with
      | .sh (.int k), m, ra =>
        unfold ArgR Rep at ra
        exact ⟨k, ra, m H2 B2 b2 G2 st2⟩
      | .sh .non, m, _ => exact m.elim
      | .sh (.bl _), m, _ => exact m.elim
      | .sh (.str _), m, _ => exact m.elim
      | .sh (.tup _), m, _ => exact m.elim
      | .sh (.lst _), m, _ => exact m.elim
      | .sh (.dic _), m, _ => exact m.elim
      | .sh (.obj _ _), m, _ => exact m.elim
      | .sh (.scr _), m, _ => exact m.elim
      | .sh (.exn _ _), m, _ => exact m.elim
      | .fr _, m, _ => exact m.elim
      | .sl _, m, _ => exact m.elim
theorem slF_eq {g : D → Option Int → Option Int → Option (Bool × D)} {f : M R} {lo hi : Option (M R)} : slF g f lo hi en = match f en with
    | .ok r en1 => (match prtF lo en1 with
      | .ok l en2 => (match prtF hi en2 with
        | .ok h en3 => (match rsl en3 r with
          | some d => (match g d l h with
            | some (b, d') => .ok (mkR b d') en3
            | none => .bad)
          | none => .bad)
        | .exc x en3 => .exc x en3
        | .bad => .bad)
      | .exc x en2 => .exc x en2
      | .bad => .bad)
    | .exc x en1 => .exc x en1
    | .bad => .bad := rfl
theorem slImp {r : V → Option Int → Option Int → Hp → VK → Prop} {g : D → Option Int → Option Int → Option (Bool × D)} {f : M R} {lo hi : Option (M R)} (hp : PrimSl K r g) (m : RdE K W (slF g f lo hi) σ H Q) : tSl r (RdE K W f) (poT K W lo) (poT K W hi) σ H Q := by
  obtain ⟨B, en, G, m⟩ := m
  refine ⟨B, en, G, ?_⟩
  rw [slF_eq] at m
  cases e1 : f en with
  | bad => rw [e1] at m; exact m
  | exc x en1 => rw [e1] at m; exact m
  | ok r en1 =>
    rw [e1] at m
    dsimp only at m ⊢
    intro v H1 ⟨B1, b1, G1, r1, n1⟩ st1
    refine partOf b1 G1 st1 ?_
    cases e2 : prtF lo en1 with
    | bad => rw [e2] at m; exact m
    | exc x en2 => rw [e2] at m; exact m
    | ok l en2 =>
      rw [e2] at m
      dsimp only at m ⊢
      intro H2 B2 b2 G2 st2
      refine partOf (b1.trans st1 b2) G2 (st1.trans st2) ?_
      cases e3 : prtF hi en2 with
      | bad => rw [e3] at m; exact m
      | exc x en3 => rw [e3] at m; exact m
      | ok h en3 =>
        rw [e3] at m
        dsimp only at m ⊢
        intro H3 B3 b3 G3 st3
        cases e4 : rsl en3 r with
        | none => rw [e4] at m; exact m.elim
        | some d =>
          rw [e4] at m
          dsimp only at m
          cases e5 : g d l h with
          | none => rw [e5] at m; exact m.elim
          | some bd =>
            obtain ⟨b, d'⟩ := bd
            rw [e5] at m
            dsimp only at m
            have ra := ArgR.step G2 st3 b3 (ArgR.step G1 st2 b2 r1)
            refine hp (Un B3 σ en3) H3 d v l h Q b d' (fun a => G3.unAt) (ArgR.arep G3 ra e4) e5 fun v' H4 x4 h1 h2 => ?_
            have st4 := (((st1.trans st2).trans st3).trans (Stp.ext x4))
            have bb := (b1.trans st1 b2).trans (st1.trans st2) b3
            cases b with
            | false => exact m v' H4 ⟨B3, bb, G3.ext0 x4, h1 rfl, trivial⟩ st4
            | true =>
              obtain ⟨p, ep, np, c⟩ := h2 rfl
              obtain ⟨o, ho⟩ := c.at
              have hp0 : H p = none := Classical.byContradiction fun z => ((st1.trans st2).trans st3).al p z np
              refine m v' H4 ⟨fun x => B3 x ∨ x = p, bb.trans ((st1.trans st2).trans st3) (bxNew np), G3.ext x4 (fun a h => ?_), ⟨p, ep, .inr rfl, Cont.to (fun a o x n => ⟨x, fun q => n (un_or q)⟩) (fun _ x => x) c⟩, ?_⟩ st4
              · rcases h with h | h
                · exact .inl h
                · rw [h, ho]; exact .inr ⟨np, by simp⟩
              · intro q e
                rw [ep] at e
                cases e
                exact .inl hp0
end
section
variable {X : Cx} {W : WX} {pos p2 : Pos} {e o : Expr} {es : List Expr} {lo hi : Option Expr} {f fi fv : M R} {fl fh : Option (M R)} {fs : M (List R)} {i : Nat} {name : Str} {apos cpos : Pos} {T id : String}
theorem e_tupD {x1} (h : PA X es (RdA X.K W fs)) : PE X (.Tuple es x1 pos) (RdE X.K W (tupF fs)) := pe_imp (pe_tup h) fun σ H Q m => tupImp m
theorem e_lstD (h : PA X es (RdA X.K W fs)) : PE X (.List es pos) (RdE X.K W (lstF fs)) := pe_imp (pe_lst h) fun σ H Q m => lstImp m
theorem e_dicD : PE X (.Dict [] [] pos) (RdE X.K W dicF) := pe_imp pe_dnewK fun σ H Q m => dicImp m
theorem o_none : PO X none (poT X.K W none) := po_none
theorem o_some (h : PE X e (RdE X.K W f)) : PO X (some e) (poT X.K W (some f)) := po_some h
theorem e_slice {r : V → Option Int → Option Int → Hp → VK → Prop} {g : D → Option Int → Option Int → Option (Bool × D)} (hr : SlR X r) (hp : PrimSl X.K r g) (he : PE X e (RdE X.K W f)) (hl : PO X lo (poT X.K W fl)) (hu : PO X hi (poT X.K W fh)) :
    PE X (.Subscript e (.Slice lo hi none p2) pos) (RdE X.K W (slF g f fl fh)) := pe_imp (pe_slice hr he hl hu) fun σ H Q m => slImp hp m
/-- x.m(e, ..), x a slot's thing that m changes -/
theorem e_mut {st : Bool} {r : V → List V → Hp → VK → Prop} {isT : D → Bool} {g : D → List D → Option (D × D)} (hT : TyOk X.K T isT) (hp : PrimM X.K st r g) (pa : PlainAttrs T) (slot : Slot T name id) (hty : typeOf (.builtin id) = pure (.type "method_descriptor")) (hm : MtR X id r) (ho : PE X o (tVar i)) (ha : PA X (e :: es) (RdA X.K W fs))
    (hbase : attributeBase o name X.env (eval o X.env) = eval o X.env := by rfl)
    (hfew : ((backTo cpos (starEach (e :: es) X.env)).all (fun x => !x.1) && (backToKw cpos (keywordEach [] X.env)).all (fun x => x.1.isSome)
      && decide ((e :: es).length + ([] : List Keyword).length + (if ([] : List Keyword).isEmpty then 0 else 1) < 30)) = true := by rfl)
    (hline : (apos.endLine == cpos.line) = true := by rfl) (hs : starEach (e :: es) X.env = (false, eval e X.env) :: starEach es X.env := by rfl) (hplain : (backTo cpos (starEach es X.env)).any (·.1) = false := by rfl) :
    PE X (.Call (.Attribute o name apos) (e :: es) [] cpos) (RdE X.K W (mutF st i isT g fs)) :=
  pe_imp (pe_bm pa slot hty hm ho ha hbase hfew hline hs hplain) fun σ H Q m => mutImp hT hp m
theorem e_mut0 {r : V → List V → Hp → VK → Prop} {isT : D → Bool} {g : D → List D → Option (D × D)} (hT : TyOk X.K T isT) (hp : PrimM X.K true r g) (pa : PlainAttrs T) (slot : Slot T name id) (hty : typeOf (.builtin id) = pure (.type "method_descriptor")) (hm : MtR X id r) (ho : PE X o (tVar i))
    (hbase : attributeBase o name X.env (eval o X.env) = eval o X.env := by rfl) (hline : (apos.endLine == cpos.line) = true := by rfl) : PE X (.Call (.Attribute o name apos) [] [] cpos) (RdE X.K W (mutF true i isT g nilF)) :=
  pe_imp (pe_bm0 pa slot hty hm ho hbase hline) fun σ H Q m => mutImp0 (W := W) hT hp m
/-- x[i] = e -/
theorem s_sub {t : TSet} {u : D → D → D → Option D} {tpos : Pos} {ix : Expr} (hS : PSet X t) (hp : PrimS X.K t u) (he : PE X e (RdE X.K W fv)) (ho : PE X o (tVar i)) (hi : PE X ix (RdE X.K W fi))
    (ha : ∀ v, assign (.Subscript o ix tpos) X.env v = (do
      let ov ← holding [v] (eval o X.env)
      let iv ← holding [v, ov] (eval ix X.env)
      standAt tpos
      holding [v, ov, iv] (setItem ov iv v)
      release [v, ov, iv] []) := by intro _; rfl)
    (hs : swapsWithSole [.Subscript o ix tpos] e pos.line X.env = pure false := by rfl) (hw : swappedStores [.Subscript o ix tpos] e X.env = pure none := by rfl)
    (h1 : (assignEach [.Subscript o ix tpos] X.env).map (·.2) = [assign (.Subscript o ix tpos) X.env] := by rfl) : PS X (.Assign [.Subscript o ix tpos] e pos) (RdS X.K W (stF i fi fv u)) :=
  ps_imp (ps_asg he (pg_sub ho hi hS ha) hs hw h1) fun D σ H m => stImp hp m
end
end PyD

namespace PyD
open PySem PySem.Spec L2

/-! ### list comprehensions -/
def wipeE : List Nat → En → En
  | [], en => en
  | v :: vs, en => (wipeE vs en).set v .e
/-- the block's own names as they were -/
def resE : List Nat → En → En → En
  | [], _, en => en
  | v :: vs, en0, en => (resE vs en0 en).set v (match en0[v]? with
    | some (.v d) => .v d
    | _ => .e)
def lcL (g : D → M Unit) (tt : M Bool) (te : M R) (vs : List Nat) : List D → List D → En → Res (List D)
  | [], acc, en => .ok acc en
  | d :: ds, acc, en => match g d en with
    | .ok _ en1 => (match tt en1 with
      | .ok true en2 => (match te en2 with
        | .ok r en3 => (match stoD r with
          | some y => (match decide (acc.length < 1000000) with
            | true => lcL g tt te vs ds (acc ++ [y]) (wipeE vs en3)
            | false => .bad)
          | none => .bad)
        | _ => .bad)
      | .ok false en2 => lcL g tt te vs ds acc (wipeE vs en2)
      | _ => .bad)
    | _ => .bad
def lcF (it : M (List D)) (g : D → M Unit) (tt : M Bool) (te : M R) (vs : List Nat) : M R := fun en => match it en with
  | .ok ds en1 => (match vs.all (freeAt en1) with
    | true => (match lcL g tt te vs ds [] (wipeE vs en1) with
      | .ok acc en2 => .ok (.fr (.lst acc)) (resE vs en1 en2)
      | _ => .bad)
    | false => .bad)
  | .exc x en1 => .exc x en1
  | .bad => .bad
def yesT : M Bool := fun en => .ok true en
abbrev W0 : WX := fun _ _ _ _ => False

section
variable {K : PySem.W.Frag} {W : WX} {B B' B1 : Addr → Prop} {U U' : Addr → Prop} {H H' H1 : Hp} {σ σ' σ1 : L2.St} {en en' en1 : En} {d : D} {v : V} {i : Nat} {p : Addr} {ds : List D} {Q : VK}
theorem wipe_set {σ : L2.St} {i : Nat} {x : Option V} : ∀ {vs : List Nat}, i ∈ vs → wipe (σ.set i x) vs = wipe σ vs
  | [], h => by cases h
  | v :: vs, h => by
    show (wipe (σ.set i x) vs).set v none = (wipe σ vs).set v none
    by_cases hv : i ∈ vs
    · rw [wipe_set hv]
    · have e : i = v := by
        rcases List.mem_cons.mp h with h | h
        · exact h
        · exact absurd h hv
      subst e
      have aux : ∀ (vs : List Nat), i ∉ vs → wipe (σ.set i x) vs = (wipe σ vs).set i x := fun vs => by
        induction vs with
        | nil => intro _; rfl
        | cons w ws ih =>
          intro hn
          have h1 : i ∉ ws := fun z => hn (List.mem_cons_of_mem _ z)
          have h2 : i ≠ w := fun z => hn (by rw [z]; exact List.mem_cons_self)
          show (wipe (σ.set i x) ws).set w none = ((wipe σ ws).set w none).set i x
          rw [ih h1, List.set_comm none x h2.symm]
      rw [aux vs hv, List.set_set]
theorem wipe_idem (σ : L2.St) (vs : List Nat) : wipe (wipe σ vs) vs = wipe σ vs := by
  have w : ∀ (ws : List Nat) (u : Nat), u ∈ ws → (wipe σ ws)[u]? = some none ∨ (wipe σ ws)[u]? = none := fun ws u => by
    induction ws with
    | nil => intro h; cases h
    | cons w ws ih =>
      intro h
      show ((wipe σ ws).set w none)[u]? = _ ∨ ((wipe σ ws).set w none)[u]? = _
      by_cases q : w = u
      · subst q
        rw [List.getElem?_set, if_pos rfl]
        split
        · exact .inl rfl
        · exact .inr rfl
      · rw [List.getElem?_set_ne q]
        rcases List.mem_cons.mp h with h | h
        · exact absurd h.symm q
        · exact ih h
  have aux : ∀ (us : List Nat), (∀ u ∈ us, (wipe σ vs)[u]? = some none ∨ (wipe σ vs)[u]? = none) → wipe (wipe σ vs) us = wipe σ vs := fun us => by
    induction us with
    | nil => intro _; rfl
    | cons u us ih =>
      intro hu
      show (wipe (wipe σ vs) us).set u none = _
      rw [ih fun x h => hu x (List.mem_cons_of_mem _ h)]
      apply List.ext_getElem?
      intro n
      rw [List.getElem?_set]
      by_cases q : u = n
      · subst q
        rw [if_pos rfl]
        rcases hu u List.mem_cons_self with z | z
        · rw [if_pos (get_lt z), z]
        · rw [if_neg (by
            intro hl
            rw [List.getElem?_eq_getElem hl] at z
            cases z), z]
      · rw [if_neg q]
  exact aux vs fun u hu => w vs u hu
theorem wipe_get {σ : L2.St} {j : Nat} {x : V} {vs : List Nat} (h : σ[j]? = some (some x)) (hj : j ∉ vs) : (wipe σ vs)[j]? = some (some x) := by
  rw [wipe_out hj]
  exact h
theorem wipeE_len : ∀ {vs : List Nat} {en : En}, (wipeE vs en).length = en.length
  | [], _ => rfl
  | v :: vs, en => by
    show ((wipeE vs en).set v .e).length = _
    rw [List.length_set, wipeE_len]
theorem wipeE_get : ∀ {vs : List Nat} {en : En} {j : Nat} {s : Sl}, (wipeE vs en)[j]? = some s → s = .e ∨ (j ∉ vs ∧ en[j]? = some s)
  | [], en, j, s, h => .inr ⟨fun z => (by cases z), h⟩
  | v :: vs, en, j, s, h => by
    rcases set_get h with ⟨_, q, _⟩ | ⟨ne, q⟩
    · exact .inl q
    · rcases wipeE_get q with q | ⟨n, q⟩
      · exact .inl q
      · exact .inr ⟨fun z => by
          rcases List.mem_cons.mp z with z | z
          · exact ne z.symm
          · exact n z, q⟩
theorem wipeE_out : ∀ {vs : List Nat} {en : En} {j : Nat}, j ∉ vs → (wipeE vs en)[j]? = en[j]?
  | [], _, _, _ => rfl
  | v :: vs, en, j, h => by
    show ((wipeE vs en).set v .e)[j]? = _
    rw [List.getElem?_set_ne (fun z => h (by rw [z]; exact List.mem_cons_self)), wipeE_out (fun z => h (List.mem_cons_of_mem _ z))]
theorem own_wipe {vs : List Nat} {a : Addr} (h : Own (wipe σ vs) (wipeE vs en) a) : Own σ en a := by
  obtain ⟨j, b, d, e, s⟩ := h
  rcases wipeE_get e with q | ⟨n, q⟩
  · cases q
  · rw [wipe_out n] at s
    exact ⟨j, b, d, q, s⟩
theorem Good.wipe {vs : List Nat} (G : Good K B H σ en) : Good K B H (L2.wipe σ vs) (wipeE vs en) := by
  have t : ∀ a o, H a = some o → ¬ Un B σ en a → H a = some o ∧ ¬ Un B (L2.wipe σ vs) (wipeE vs en) a := fun a o x n => ⟨x, fun z => n (z.imp id own_wipe)⟩
  exact {
    len := by rw [wipe_length, wipeE_len]; exact G.len
    all := G.all
    rep := fun j d e => by
      rcases wipeE_get e with q | ⟨n, q⟩
      · cases q
      · obtain ⟨v, s, r⟩ := G.rep j d q
        exact ⟨v, wipe_get s n, Rep.to t d v r⟩
    own := fun j b d e => by
      rcases wipeE_get e with q | ⟨n, q⟩
      · cases q
      · obtain ⟨p, s, n1, c⟩ := G.own j b d q
        exact ⟨p, wipe_get s n, n1, Cont.to t (fun _ x => x) c⟩
    inj := fun j k q b c d d' e1 e2 s1 s2 => by
      rcases wipeE_get e1 with z | ⟨n1, q1⟩
      · cases z
      · rcases wipeE_get e2 with z | ⟨n2, q2⟩
        · cases z
        · rw [wipe_out n1] at s1
          rw [wipe_out n2] at s2
          exact G.inj j k q b c d d' q1 q2 s1 s2 }
/-- into the block's next turn: its own names forgotten -/
theorem Stp.wipe {vs : List Nat} (hp : ∀ v ∈ vs, ∀ d, en[v]? ≠ some (.o true d)) : Stp σ en H (L2.wipe σ vs) (wipeE vs en) H where
  len := wipeE_len
  fr := fun _ _ h _ => h
  al := fun _ h => h
  ow := fun a h => .inl (own_wipe h)
  of := fun a h => .inl (by
    obtain ⟨j, d, e, s⟩ := h
    rcases wipeE_get e with q | ⟨n, q⟩
    · cases q
    · rw [wipe_out n] at s
      exact ⟨j, d, q, s⟩)
  pin := fun j d e => by
    have nj : j ∉ vs := fun z => hp j z d e
    exact ⟨wipe_out nj, d, by rw [wipeE_out nj]; exact e⟩
  pb := fun j d e => by
    rcases wipeE_get e with q | ⟨_, q⟩
    · cases q
    · exact ⟨d, q⟩
theorem Stp.updNew {o : HO} (hp : H p = none) (s : Stp σ en H σ' en' H') : Stp σ en H σ' en' (upd H' p o) where
  len := s.len
  fr := fun a x h n => by
    rw [upd_ne (ne_of_none h hp)]
    exact s.fr a x h n
  al := fun a h => by
    have hh := s.al a h
    by_cases z : a = p
    · rw [z, upd_same]; simp
    · rw [upd_ne z]; exact hh
  ow := s.ow
  of := s.of
  pin := s.pin
  pb := s.pb
/-- a thing put aside is changed -/
theorem Good.side (G : Good K B H σ en) (hp : B p) {o : HO} : Good K B (upd H p o) σ en := by
  have t : ∀ a x, H a = some x → ¬ Un B σ en a → upd H p o a = some x ∧ ¬ Un B σ en a := fun a x q n => ⟨by
    rw [upd_ne (fun z => n (by rw [z]; exact .inl hp))]
    exact q, n⟩
  exact {
    len := G.len
    all := fun a h => by
      by_cases z : a = p
      · rw [z, upd_same]; simp
      · rw [upd_ne z]; exact G.all a h
    rep := fun i d e => by
      obtain ⟨v, s, r⟩ := G.rep i d e
      exact ⟨v, s, Rep.to t d v r⟩
    own := fun i b d e => by
      obtain ⟨q, s, n, c⟩ := G.own i b d e
      exact ⟨q, s, n, Cont.to t (fun x y => by rw [upd_ne (fun z => n (by rw [z]; exact hp))]; exact y) c⟩
    inj := G.inj }
theorem resE_len : ∀ {vs : List Nat} {en0 en : En}, (resE vs en0 en).length = en.length
  | [], _, _ => rfl
  | v :: vs, en0, en => by
    show ((resE vs en0 en).set v _).length = _
    rw [List.length_set, resE_len]
theorem resE_get : ∀ {vs : List Nat} {en0 en : En} {j : Nat} {s : Sl}, (resE vs en0 en)[j]? = some s → s = .e ∨ (∃ d, s = .v d ∧ en0[j]? = some s) ∨ (j ∉ vs ∧ en[j]? = some s)
  | [], en0, en, j, s, h => .inr (.inr ⟨fun z => (by cases z), h⟩)
  | v :: vs, en0, en, j, s, h => by
    rcases set_get h with ⟨ev, q, _⟩ | ⟨ne, q⟩
    · subst ev
      split at q
      · rename_i d e
        exact .inr (.inl ⟨d, q, by rw [q]; exact e⟩)
      · exact .inl q
    · rcases resE_get q with q | q | ⟨n, q⟩
      · exact .inl q
      · exact .inr (.inl q)
      · exact .inr (.inr ⟨fun z => by
          rcases List.mem_cons.mp z with z | z
          · exact ne z.symm
          · exact n z, q⟩)
theorem resE_out : ∀ {vs : List Nat} {en0 en : En} {j : Nat}, j ∉ vs → (resE vs en0 en)[j]? = en[j]?
  | [], _, _, _, _ => rfl
  | v :: vs, en0, en, j, h => by
    show ((resE vs en0 en).set v _)[j]? = _
    rw [List.getElem?_set_ne (fun z => h (by rw [z]; exact List.mem_cons_self)), resE_out (fun z => h (List.mem_cons_of_mem _ z))]
theorem own_res {vs : List Nat} {en2 : En} {a : Addr} (h : Own σ (resE vs en1 en2) a) : Own (L2.wipe σ vs) en2 a := by
  obtain ⟨j, b, d, e, s⟩ := h
  rcases resE_get e with q | ⟨d', q, _⟩ | ⟨n, q⟩
  · cases q
  · cases q
  · exact ⟨j, b, d, q, by rw [wipe_out n]; exact s⟩
/-- behind the block -/
theorem Good.behind {vs : List Nat} {en2 : En} {H2 : Hp} (G1 : Good K B1 H1 σ en1) (hp : ∀ v ∈ vs, ∀ d, en1[v]? ≠ some (.o true d)) (G2 : Good K B' H2 (L2.wipe σ vs) en2) (bx : Bx B1 B' σ en1 H1) (st : Stp (L2.wipe σ vs) (wipeE vs en1) H1 (L2.wipe σ vs) en2 H2) :
    Good K B' H2 σ (resE vs en1 en2) ∧ Stp σ en1 H1 σ (resE vs en1 en2) H2 := by
  have ow2 : ∀ a, Own σ (resE vs en1 en2) a → Own (L2.wipe σ vs) en2 a := fun a h => by
    obtain ⟨j, b, d, e, s⟩ := h
    rcases resE_get e with q | ⟨d', q, _⟩ | ⟨n, q⟩
    · cases q
    · cases q
    · exact ⟨j, b, d, q, by rw [wipe_out n]; exact s⟩
  have t2 : ∀ a o, H2 a = some o → ¬ Un B' (L2.wipe σ vs) en2 a → H2 a = some o ∧ ¬ Un B' σ (resE vs en1 en2) a := fun a o x n => ⟨x, fun z => n (z.imp id (ow2 a))⟩
  have s1 : Stp σ en1 H1 (L2.wipe σ vs) en2 H2 := (Stp.wipe hp).trans st
  have t1 : ∀ a o, H1 a = some o → ¬ Un B1 σ en1 a → H2 a = some o ∧ ¬ Un B' σ (resE vs en1 en2) a := fun a o x n => by
    obtain ⟨q1, q2⟩ := stepTo s1 bx a o x n
    exact ⟨q1, fun z => q2 (z.imp id (ow2 a))⟩
  refine ⟨?_, ?_⟩
  · exact {
      len := by rw [resE_len, ← G2.len, wipe_length]
      all := G2.all
      rep := fun j d e => by
        rcases resE_get e with q | ⟨d', q, z⟩ | ⟨n, q⟩
        · cases q
        · obtain ⟨v, s, r⟩ := G1.rep j d z
          exact ⟨v, s, Rep.to t1 d v r⟩
        · obtain ⟨v, s, r⟩ := G2.rep j d q
          rw [wipe_out n] at s
          exact ⟨v, s, Rep.to t2 d v r⟩
      own := fun j b d e => by
        rcases resE_get e with q | ⟨d', q, z⟩ | ⟨n, q⟩
        · cases q
        · cases q
        · obtain ⟨p, s, n1, c⟩ := G2.own j b d q
          rw [wipe_out n] at s
          exact ⟨p, s, n1, Cont.to t2 (fun _ x => x) c⟩
      inj := fun j k q b c d d' e1 e2 s1 s2 => by
        rcases resE_get e1 with z | ⟨_, z, _⟩ | ⟨n1, q1⟩
        · cases z
        · cases z
        · rcases resE_get e2 with z | ⟨_, z, _⟩ | ⟨n2, q2⟩
          · cases z
          · cases z
          · exact G2.inj j k q b c d d' q1 q2 (by rw [wipe_out n1]; exact s1) (by rw [wipe_out n2]; exact s2) }
  · exact {
      len := by rw [resE_len]; exact s1.len
      fr := s1.fr
      al := s1.al
      ow := fun a h => s1.ow a (ow2 a h)
      of := fun a h => by
        obtain ⟨j, d, e, s⟩ := h
        rcases resE_get e with q | ⟨d', q, _⟩ | ⟨n, q⟩
        · cases q
        · cases q
        · exact s1.of a ⟨j, d, q, by rw [wipe_out n]; exact s⟩
      pin := fun j d e => by
        have nj : j ∉ vs := fun z => hp j z d e
        obtain ⟨_, d', q⟩ := s1.pin j d e
        exact ⟨rfl, d', by rw [resE_out nj]; exact q⟩
      pb := fun j d e => by
        rcases resE_get e with q | ⟨_, q, _⟩ | ⟨_, q⟩
        · cases q
        · cases q
        · exact s1.pb j d q }

/-! targets within a block -/
/-- a target that stores to slots of is alone -/
def TgW (K : PySem.W.Frag) (g : D → M Unit) (tg : TG) (is : List Nat) : Prop :=
  ∀ {B : Addr → Prop} {H : Hp} {σ : L2.St} {en en2 : En} {d : D} {v : V} {vs : List Nat} {Q : L2.St → Hp → Prop}, (∀ i ∈ is, i ∈ vs) → Good K B H σ en → Rep K (Un B σ en) H d v → g d en = .ok () en2 →
    (∀ σ', Good K B H σ' en2 → Stp σ en H σ' en2 H → wipe σ' vs = wipe σ vs → Q σ' H) → tg v σ H Q
theorem tgNm (i : Nat) : TgW K (gNm i) (gName i) [i] := fun {B H σ en en2 d v vs Q} his G r e q => by
  unfold gNm at e
  cases hf : freeAt en i with
  | false => rw [hf] at e; cases e
  | true =>
    rw [hf] at e
    cases e
    exact q _ (G.set_v (fun _ h => h) (freeAt_lt hf).1 r) (Stp.set_v hf) (wipe_set (his i List.mem_cons_self))
theorem gNmsW {Q : L2.St → Hp → Prop} {ws : List Nat} : ∀ {is : List Nat} {ds : List D} {vs : List V} {en : En} {σ : L2.St} {en2 : En}, (∀ i ∈ is, i ∈ ws) → Good K B H σ en → RepL K (Un B σ en) H ds vs → gNms is ds en = .ok () en2 →
    (∀ σ', Good K B H σ' en2 → Stp σ en H σ' en2 H → wipe σ' ws = wipe σ ws → Q σ' H) → gNames is vs σ H Q
  | [], [], vs, en, σ, en2, _, G, r, e, q => by
    unfold RepL at r
    cases e
    exact ⟨r, q σ G (Stp.refl σ _ H) rfl⟩
  | [], d :: ds, vs, en, σ, en2, _, G, r, e, q => by cases e
  | i :: is, [], vs, en, σ, en2, _, G, r, e, q => by cases e
  | i :: is, d :: ds, vs, en, σ, en2, his, G, r, e, q => by
    unfold RepL at r
    obtain ⟨v, us, e1, r1, r2⟩ := r
    unfold gNms at e
    cases hf : freeAt en i with
    | false => rw [hf] at e; cases e
    | true =>
      rw [hf] at e
      have st : Stp σ en H (σ.set i (some v)) (en.set i (.v d)) H := Stp.set_v hf
      refine ⟨v, us, e1, ?_⟩
      exact gNmsW (is := is) (fun i h => his i (List.mem_cons_of_mem _ h)) (G.set_v (fun _ h => h) (freeAt_lt hf).1 r1) (RepL.to (stepTo st (Bx.refl B σ en H)) _ _ r2) e fun σ' g s w => q σ' g (st.trans s) (w.trans (wipe_set (his i List.mem_cons_self)))
theorem tgTp (is : List Nat) : TgW K (gTp is) (gTup K is.length (gNames is)) is := fun {B H σ en en2 d v vs Q} his G r e q => by
  unfold gTp at e
  cases d with
  | tup ds =>
    dsimp only at e
    unfold Rep at r
    obtain ⟨a, xs, e1, nu, ha, r⟩ := r
    exact ⟨a, xs, e1, SqT.of ha, by rw [r.len, gNms_len e], gNmsW his G r e q⟩
  | non => cases e
  | bl _ => cases e
  | int _ => cases e
  | str _ => cases e
  | lst _ => cases e
  | dic _ => cases e
  | obj _ _ => cases e
  | scr _ => cases e
  | exn _ _ => cases e

theorem RepL.snoc {y : D} {w : V} : ∀ {ds : List D} {vs : List V}, RepL K U H ds vs → Rep K U H y w → RepL K U H (ds ++ [y]) (vs ++ [w])
  | [], vs, h, r => by
    unfold RepL at h
    subst h
    show RepL K U H [y] [w]
    unfold RepL
    exact ⟨w, [], rfl, r, by unfold RepL; rfl⟩
  | d :: ds, vs, h, r => by
    unfold RepL at h
    obtain ⟨v, us, e, h1, h2⟩ := h
    subst e
    show RepL K U H (d :: (ds ++ [y])) (v :: (us ++ [w]))
    unfold RepL
    exact ⟨v, us ++ [w], rfl, h1, RepL.snoc h2 r⟩
theorem lcImp {it : M (List D)} {g : D → M Unit} {tg : TG} {is : List Nat} {tt : M Bool} {te : M R} {vs : List Nat} (hg : TgW K g tg is) (his : ∀ i ∈ is, i ∈ vs) (m : RdE K W (lcF it g tt te vs) σ H Q) :
    tLc (RdI K W it) tg (RdT K W0 tt) (RdE K W0 te) vs σ H Q := by
  obtain ⟨B, en, G, m⟩ := m
  refine ⟨B, en, G, ?_⟩
  unfold lcF at m
  cases e1 : it en with
  | bad => rw [e1] at m; exact m
  | exc x en1 => rw [e1] at m; exact m
  | ok ds en1 =>
    rw [e1] at m
    dsimp only at m ⊢
    intro J H1 B1 b1 G1 st1 wk Dl hD
    cases e2 : vs.all (freeAt en1) with
    | false => rw [e2] at m; exact m.elim
    | true =>
      rw [e2] at m
      dsimp only at m
      have hpin : ∀ v ∈ vs, ∀ d, en1[v]? ≠ some (.o true d) := fun v h => (freeAt_lt (List.all_eq_true.mp e2 v h)).2
      cases e3 : lcL g tt te vs ds [] (wipeE vs en1) with
      | bad => rw [e3] at m; exact m.elim
      | exc x en2 => rw [e3] at m; exact m.elim
      | ok acc0 en9 =>
        rw [e3] at m
        dsimp only at m
        have bD : Bx B1 (fun a => B1 a ∨ a = Dl) σ en1 H1 := bxNew hD
        refine ⟨fun i k H2 => k + i = ds.length ∧ ∃ en2 accD accV, Good K (fun a => B1 a ∨ a = Dl) H2 (L2.wipe σ vs) en2 ∧ Stp (L2.wipe σ vs) (wipeE vs en1) H1 (L2.wipe σ vs) en2 H2 ∧ H2 Dl = some (.lst accV) ∧ RepL K (Un (fun a => B1 a ∨ a = Dl) (L2.wipe σ vs) en2) H2 accD accV ∧
            lcL g tt te vs (ds.drop i) accD en2 = .ok acc0 en9, ⟨ds.length, by omega, wipeE vs en1, [], [], newOwn hD G1.wipe, (Stp.refl _ _ H1).updNew hD, upd_same, by unfold RepL; rfl, e3⟩, ?_⟩
        intro i k H2 ⟨ek, en2, accD, accV, G2, st2, hD2, ra, el⟩
        have sw : Stp σ en1 H1 (L2.wipe σ vs) en2 H2 := (Stp.wipe hpin).trans st2
        have kp : Kp (Un B1 σ en1) H1 H2 := sw.kp
        by_cases hi : i < ds.length
        · refine .inr ⟨wk.go i H2 kp hi, fun H' => ∃ m', m' < k ∧ m' + (i + 1) = ds.length ∧ ∃ en2 accD accV, Good K (fun a => B1 a ∨ a = Dl) H' (L2.wipe σ vs) en2 ∧ Stp (L2.wipe σ vs) (wipeE vs en1) H1 (L2.wipe σ vs) en2 H' ∧ H' Dl = some (.lst accV) ∧ RepL K (Un (fun a => B1 a ∨ a = Dl) (L2.wipe σ vs) en2) H' accD accV ∧
            lcL g tt te vs (ds.drop (i + 1)) accD en2 = .ok acc0 en9, fun H' z => z, ?_⟩
          intro x H3 hy
          have ed : ds[i]? = some ds[i] := List.getElem?_eq_getElem hi
          obtain ⟨x3, r3⟩ := wk.yld i H2 x H3 ds[i] kp ed hy
          have G3 := G2.ext0 x3
          have st3 : Stp (L2.wipe σ vs) en2 H2 (L2.wipe σ vs) en2 H3 := Stp.ext x3
          have rr := r3 (Un (fun a => B1 a ∨ a = Dl) (L2.wipe σ vs) en2) (fun a o e1 n z => (stepTo sw bD a o e1 n).2 z) (fun a => G2.unAt)
          rw [List.drop_eq_getElem_cons hi] at el
          unfold lcL at el
          cases e4 : g ds[i] en2 with
          | exc y en3 => rw [e4] at el; cases el
          | bad => rw [e4] at el; cases el
          | ok u en3 =>
            rw [e4] at el
            dsimp only at el
            refine hg his G3 rr e4 fun σ4 G4 st4 w4 => ⟨w4.trans rfl |>.trans (wipe_idem σ vs), ?_⟩
            have wst : L2.wipe σ4 vs = L2.wipe σ vs := w4.trans (wipe_idem σ vs)
            have stA : Stp (L2.wipe σ vs) en2 H2 σ4 en3 H3 := st3.trans st4
            have nD : ∀ {σ : L2.St} {en : En} {H : Hp}, Good K (fun a => B1 a ∨ a = Dl) H σ en → ¬ Own σ en Dl := fun {σ en H} g z => by
              obtain ⟨j, b, d, q1, q2⟩ := z
              obtain ⟨p', s2, n2, _⟩ := g.own j b d q1
              rw [q2] at s2
              cases s2
              exact n2 (.inr rfl)
            -- the next turn, from a state within the block
            have next : ∀ {en6 : En} {H6 : Hp} {accV' : List V} {accD' : List D}, Good K (fun a => B1 a ∨ a = Dl) H6 σ4 en6 → Stp (L2.wipe σ vs) en2 H2 σ4 en6 H6 → RepL K (Un (fun a => B1 a ∨ a = Dl) σ4 en6) H6 accD' accV' → lcL g tt te vs (ds.drop (i + 1)) accD' (wipeE vs en6) = .ok acc0 en9 →
                ∃ m', m' < k ∧ m' + (i + 1) = ds.length ∧ ∃ en2 accD accV, Good K (fun a => B1 a ∨ a = Dl) (upd H6 Dl (.lst accV')) (L2.wipe σ vs) en2 ∧ Stp (L2.wipe σ vs) (wipeE vs en1) H1 (L2.wipe σ vs) en2 (upd H6 Dl (.lst accV')) ∧ (upd H6 Dl (.lst accV')) Dl = some (.lst accV) ∧
                  RepL K (Un (fun a => B1 a ∨ a = Dl) (L2.wipe σ vs) en2) (upd H6 Dl (.lst accV')) accD accV ∧ lcL g tt te vs (ds.drop (i + 1)) accD en2 = .ok acc0 en9 := by
              intro en6 H6 accV' accD' G6 st6 ra6 el6
              have hp6 : ∀ v ∈ vs, ∀ d, en6[v]? ≠ some (.o true d) := fun v hv d z => by
                obtain ⟨d', z'⟩ := (st2.trans st6).pb v d z
                rcases wipeE_get z' with q | ⟨n, _⟩
                · cases q
                · exact n hv
              have gw := ((G6.side (p := Dl) (o := .lst accV') (.inr rfl)).wipe (vs := vs))
              rw [wst] at gw
              have sw6 : Stp σ4 en6 H6 (L2.wipe σ4 vs) (wipeE vs en6) H6 := Stp.wipe hp6
              rw [wst] at sw6
              refine ⟨k - 1, by omega, by omega, wipeE vs en6, accD', accV', gw, (((st2.trans st6).trans sw6)).updNew hD, upd_same, ?_, el6⟩
              refine RepL.to (fun a o x n => ⟨?_, fun z => n ?_⟩) _ _ ra6
              · rw [upd_ne (fun z => n (by rw [z]; exact .inl (.inr rfl)))]
                exact x
              · rcases z with z | z
                · exact .inl z
                · rw [← wst] at z
                  exact .inr (own_wipe z)
            refine RdT.bind (B := fun a => B1 a ∨ a = Dl) G4 ?_
            cases e5 : tt en3 with
            | exc y en5 => rw [e5] at el; cases el
            | bad => rw [e5] at el; cases el
            | ok b en5 =>
              rw [e5] at el
              intro H5 B5 b5 G5 st5
              have G5' := G5.mono b5.up
              cases b with
              | false =>
                rw [if_neg Bool.false_ne_true]
                have hD5 : H5 Dl = some (.lst accV) := (stA.trans st5).fr Dl _ hD2 (nD G2)
                obtain ⟨m', q1, q2, en', aD, aV, q3⟩ := next G5' (stA.trans st5) (RepL.to (stepTo (stA.trans st5) (Bx.refl _ _ en2 H2)) _ _ ra) el
                have eH : upd H5 Dl (.lst accV) = H5 := by
                  funext a
                  unfold upd
                  split
                  · rename_i z; rw [z, hD5]
                  · rfl
                rw [eH] at q3
                exact ⟨m', q1, q2, en', aD, aV, q3⟩
              | true =>
                rw [if_pos rfl]
                dsimp only at el
                refine ⟨fun a => B1 a ∨ a = Dl, en5, G5', ?_⟩
                cases e6 : te en5 with
                | exc y en6 => rw [e6] at el; cases el
                | bad => rw [e6] at el; cases el
                | ok r en6 =>
                  rw [e6] at el
                  dsimp only at el ⊢
                  intro v H6 ⟨B6, b6, G6, r6, n6⟩ st6
                  cases e7 : stoD r with
                  | none => rw [e7] at el; cases el
                  | some y =>
                    rw [e7] at el
                    dsimp only at el
                    cases e8 : decide (accD.length < 1000000) with
                    | false => rw [e8] at el; cases el
                    | true =>
                      rw [e8] at el
                      dsimp only at el
                      have ry := sto_rep b6 G5' G6 r6 n6 (stoD_of e7)
                      have stT := (stA.trans st5).trans st6
                      have hD6 : H6 Dl = some (.lst accV) := stT.fr Dl _ hD2 (nD G2)
                      refine ⟨accV, hD6, by
                        rw [ra.len]
                        exact Nat.lt_of_lt_of_le (of_decide_eq_true e8) (by decide), ?_⟩
                      exact next (G6.mono b6.up) stT (RepL.snoc (RepL.to (stepTo stT (Bx.refl _ _ en2 H2)) _ _ ra) ry) el
        · have e0 : i = ds.length := by omega
          refine .inl ⟨by rw [e0]; exact wk.stop H2 kp, ?_⟩
          rw [List.drop_eq_nil_of_le (by omega)] at el
          unfold lcL at el
          cases el
          obtain ⟨g9, s9⟩ := Good.behind G1 hpin G2 bD st2
          have hD0 : H Dl = none := Classical.byContradiction fun z => st1.al Dl z hD
          refine m (.ref Dl) H2 ⟨_, b1.trans st1 bD, g9, ⟨Dl, rfl, .inr rfl, accV, hD2, RepL.to (fun a o x n => ⟨x, fun z => n (z.imp id own_res)⟩) _ _ ra⟩, ?_⟩ (st1.trans s9)
          intro q eq
          cases eq
          exact .inl hD0
end
section
variable {X : Cx} {W : WX} {elt tg iter c : Expr} {ifs : List Expr} {scope : Scope} {own : List (Str × Nat)} {pos spos : Pos} {it : M (List D)} {g : D → M Unit} {gt : TG} {is : List Nat} {tt : M Bool} {te : M R}
theorem pts_0 : PTs X [] (RdT X.K W yesT) := ⟨fun pins s σ H Q I h => pts_nil.run pins s σ H Q I (by
  obtain ⟨B, en, G, m⟩ := h
  exact m H ⟨B, Bx.refl B σ en H, G⟩ (Stp.refl σ en H))⟩
theorem pts_1 (h : PT X c (RdT X.K W tt)) : PTs X [c] (RdT X.K W tt) := pts_one h
theorem e_lc (hg : TgW X.K g gt is) (hc : X.calm = true) (hN : X.N.Nodup) (hi : PI X tg iter (RdI X.K W it)) (ok : BlkOk X.N X.env.scope scope own)
    (hgt : ∀ (s : Shared) (H : Hp) (C : Addr) (cl : List (Str × Addr)) (fp : List Addr), PG (X.blk s H scope (compEnvC scope cl C X.env) fp) tg gt) (ht : ∀ (s : Shared) (H : Hp) (C : Addr) (cl : List (Str × Addr)) (fp : List Addr), PTs (X.blk s H scope (compEnvC scope cl C X.env) fp) ifs (RdT X.K W0 tt))
    (he : ∀ (s : Shared) (H : Hp) (C : Addr) (cl : List (Str × Addr)) (fp : List Addr), PE (X.blk s H scope (compEnvC scope cl C X.env) fp) elt (RdE X.K W0 te)) (his : ∀ i ∈ is, i ∈ own.map (·.2) := by decide) (hs : ∀ x, foldedSetIterable iter X.env x = pure x := by intro _; rfl) :
    PE X (.ListComp elt [⟨tg, iter, ifs, 0⟩] scope pos) (RdE X.K W (lcF it g tt te (own.map (·.2)))) := pe_imp (pe_lc hc hN hi ok hgt ht he hs) fun σ H Q m => lcImp hg his m
variable {i : Nat} {y : Str} {py : Pos}
theorem s_lcV (hg : TgW X.K g gt is) (hc : X.calm = true) (hN : X.N.Nodup) (hsw : swapsWith (.ListComp elt [⟨tg, iter, ifs, 0⟩] scope pos) (some (.Name y py)) spos.line X.env = pure true) (hi : PI X tg iter (RdI X.K W it)) (ok : BlkOk X.N X.env.scope scope own)
    (hgt : ∀ (s : Shared) (H : Hp) (C : Addr) (cl : List (Str × Addr)) (fp : List Addr), PG (X.blk s H scope (compEnvC scope cl C X.env) fp) tg gt) (ht : ∀ (s : Shared) (H : Hp) (C : Addr) (cl : List (Str × Addr)) (fp : List Addr), PTs (X.blk s H scope (compEnvC scope cl C X.env) fp) ifs (RdT X.K W0 tt))
    (he : ∀ (s : Shared) (H : Hp) (C : Addr) (cl : List (Str × Addr)) (fp : List Addr), PE (X.blk s H scope (compEnvC scope cl C X.env) fp) elt (RdE X.K W0 te)) (hy : X.N[i]? = some y := by rfl) (hyl : X.env.scope.names.lookup y = some .local := by rfl) (his : ∀ i ∈ is, i ∈ own.map (·.2) := by decide) (hs : ∀ x, foldedSetIterable iter X.env x = pure x := by intro _; rfl) :
    PS X (.Assign [.Name y py] (.ListComp elt [⟨tg, iter, ifs, 0⟩] scope pos) spos) (RdS X.K W (asV i (lcF it g tt te (own.map (·.2))))) := by
  refine ps_imp (ps_setLc hc hN hy hyl hsw hi ok hgt ht he hs) fun D σ H m => ?_
  exact lcImp hg his (asVImp m : RdE X.K W (lcF it g tt te (own.map (·.2))) σ H fun x H1 => gName i x σ H1 D.nx)
theorem s_lcO (hg : TgW X.K g gt is) (hc : X.calm = true) (hN : X.N.Nodup) (hsw : swapsWith (.ListComp elt [⟨tg, iter, ifs, 0⟩] scope pos) (some (.Name y py)) spos.line X.env = pure true) (hi : PI X tg iter (RdI X.K W it)) (ok : BlkOk X.N X.env.scope scope own)
    (hgt : ∀ (s : Shared) (H : Hp) (C : Addr) (cl : List (Str × Addr)) (fp : List Addr), PG (X.blk s H scope (compEnvC scope cl C X.env) fp) tg gt) (ht : ∀ (s : Shared) (H : Hp) (C : Addr) (cl : List (Str × Addr)) (fp : List Addr), PTs (X.blk s H scope (compEnvC scope cl C X.env) fp) ifs (RdT X.K W0 tt))
    (he : ∀ (s : Shared) (H : Hp) (C : Addr) (cl : List (Str × Addr)) (fp : List Addr), PE (X.blk s H scope (compEnvC scope cl C X.env) fp) elt (RdE X.K W0 te)) (hy : X.N[i]? = some y := by rfl) (hyl : X.env.scope.names.lookup y = some .local := by rfl) (his : ∀ i ∈ is, i ∈ own.map (·.2) := by decide) (hs : ∀ x, foldedSetIterable iter X.env x = pure x := by intro _; rfl) :
    PS X (.Assign [.Name y py] (.ListComp elt [⟨tg, iter, ifs, 0⟩] scope pos) spos) (RdS X.K W (asO i (lcF it g tt te (own.map (·.2))))) := by
  refine ps_imp (ps_setLc hc hN hy hyl hsw hi ok hgt ht he hs) fun D σ H m => ?_
  exact lcImp hg his (asOImp m : RdE X.K W (lcF it g tt te (own.map (·.2))) σ H fun x H1 => gName i x σ H1 D.nx)
end
end PyD

namespace PyD
open PySem PySem.Spec L2

section
variable {K : PySem.W.Frag} {U : Addr → Prop} {H H' : Hp} {d a b c : D} {ds : List D} {v : V} {vs : List V} {X : Cx}
theorem ar0 (h : ARepL K U H [] vs) : vs = [] := h
theorem ar1 (h : ARepL K U H [a] vs) : ∃ v, vs = [v] ∧ ARep K U H a v := by
  obtain ⟨v, us, e, h1, h2⟩ := h
  rw [ar0 h2] at e
  exact ⟨v, e, h1⟩
theorem ar2 (h : ARepL K U H [a, b] vs) : ∃ v w, vs = [v, w] ∧ ARep K U H a v ∧ ARep K U H b w := by
  obtain ⟨v, us, e, h1, h2⟩ := h
  obtain ⟨w, e2, h3⟩ := ar1 h2
  rw [e2] at e
  exact ⟨v, w, e, h1, h3⟩
theorem ar3 (h : ARepL K U H [a, b, c] vs) : ∃ v w x, vs = [v, w, x] ∧ ARep K U H a v ∧ ARep K U H b w ∧ ARep K U H c x := by
  obtain ⟨v, us, e, h1, h2⟩ := h
  obtain ⟨w, x, e2, h3, h4⟩ := ar2 h2
  rw [e2] at e
  exact ⟨v, w, x, e, h1, h3, h4⟩
theorem arInt {i : Int} (h : ARep K U H (.int i) v) : v = .int i := by unfold ARep Rep at h; exact h
theorem arBl {i : Bool} (h : ARep K U H (.bl i) v) : v = .bl i := by unfold ARep Rep at h; exact h
theorem arStr {i : Str} (h : ARep K U H (.str i) v) : v = .str i := by unfold ARep Rep at h; exact h
theorem arNon (h : ARep K U H .non v) : v = .non := by unfold ARep Rep at h; exact h
theorem arTup (h : ARep K U H (.tup ds) v) : ∃ p vs, v = .ref p ∧ ¬ U p ∧ H p = some (.tup vs) ∧ RepL K U H ds vs := by unfold ARep Rep at h; exact h
theorem arLst (h : ARep K U H (.lst ds) v) : ∃ p vs, v = .ref p ∧ H p = some (.lst vs) ∧ RepL K U H ds vs := h
theorem arDic {kvs : List (Key × D)} (h : ARep K U H (.dic kvs) v) : ∃ p ws, v = .ref p ∧ H p = some (.dK ws) ∧ RepK K U H kvs ws := h
theorem arExn {C : XN} {fs : List (Str × D)} (h : ARep K U H (.exn C fs) v) : ∃ p, v = .ref p := by
  unfold ARep Rep at h
  obtain ⟨a, _, _, _, e, _⟩ := h
  exact ⟨a, e⟩
theorem arScr {ns : List Int} (h : ARep K U H (.scr ns) v) : ∃ p, v = .ref p ∧ SqL K H p (ns.map V.int) := by
  unfold ARep Rep at h
  obtain ⟨p, e, c⟩ := h
  refine ⟨p, e, ?_⟩
  rcases c with ⟨_, o, c⟩ | c
  · exact .inl (.inr ⟨o, c⟩)
  · exact .inr c
theorem repInt {i : Int} : Rep K U H (.int i) (.int i) := by unfold Rep; rfl
theorem repBl {i : Bool} : Rep K U H (.bl i) (.bl i) := by unfold Rep; rfl
theorem repStr {i : Str} : Rep K U H (.str i) (.str i) := by unfold Rep; rfl
theorem repNon : Rep K U H .non .non := by unfold Rep; rfl
theorem Ext.refl (H : Hp) : Ext H H := fun _ _ h => h
theorem repExt (x : Ext H H') (r : Rep K U H d v) : Rep K U H' d v := Rep.to (fun a o e n => ⟨x a o e, n⟩) d v r
theorem repLExt (x : Ext H H') (r : RepL K U H ds vs) : RepL K U H' ds vs := RepL.to (fun a o e n => ⟨x a o e, n⟩) ds vs r
theorem toNew {p : Addr} {o : HO} (hp : H p = none) : ∀ a x, H a = some x → ¬ U a → upd H p o a = some x ∧ ¬ (U a ∨ a = p) := fun a x e n => ⟨ext_new hp a x e, fun z => by
  rcases z with z | z
  · exact n z
  · rw [z, hp] at e; cases e⟩
/-- a new list of what is represented -/
theorem newLst {p : Addr} (hp : H p = none) (r : RepL K U H ds vs) : Fresh K U H (upd H p (.lst vs)) (.lst ds) (.ref p) :=
  ⟨p, rfl, hp, vs, upd_same, RepL.to (toNew hp) _ _ r⟩
theorem newTup {p : Addr} (hU : ∀ a, U a → H a ≠ none) (hp : H p = none) (r : RepL K U H ds vs) : Rep K U (upd H p (.tup vs)) (.tup ds) (.ref p) := by
  unfold Rep
  exact ⟨p, vs, rfl, fun z => hU p z hp, upd_same, repLExt (ext_new hp) r⟩
theorem newDic {p : Addr} {kvs : List (Key × D)} {ws : List (Key × V)} (hp : H p = none) (r : RepK K U H kvs ws) : Fresh K U H (upd H p (.dK ws)) (.dic kvs) (.ref p) :=
  ⟨p, rfl, hp, ws, upd_same, RepK.to (toNew hp) _ _ r⟩
theorem RepL.app {es : List D} : ∀ {ds : List D} {vs us : List V}, RepL K U H ds vs → RepL K U H es us → RepL K U H (ds ++ es) (vs ++ us)
  | [], vs, us, h, r => by
    unfold RepL at h
    subst h
    exact r
  | d :: ds, vs, us, h, r => by
    unfold RepL at h
    obtain ⟨v, ws, e, h1, h2⟩ := h
    subst e
    show RepL K U H (d :: (ds ++ es)) (v :: (ws ++ us))
    unfold RepL
    exact ⟨v, ws ++ us, rfl, h1, RepL.app h2 r⟩
theorem RepL.get : ∀ {ds : List D} {vs : List V} {i : Nat} {d : D}, RepL K U H ds vs → ds[i]? = some d → ∃ v, vs[i]? = some v ∧ Rep K U H d v
  | [], _, i, d, _, e => by cases e
  | d :: ds, vs, 0, _, h, e => by
    unfold RepL at h
    obtain ⟨v, ws, e1, h1, h2⟩ := h
    subst e1
    cases e
    exact ⟨v, rfl, h1⟩
  | d :: ds, vs, i + 1, _, h, e => by
    unfold RepL at h
    obtain ⟨v, ws, e1, h1, h2⟩ := h
    subst e1
    exact RepL.get (i := i) h2 e
theorem RepL.drop : ∀ {ds : List D} {vs : List V} (n : Nat), RepL K U H ds vs → RepL K U H (ds.drop n) (vs.drop n)
  | ds, vs, 0, h => h
  | [], vs, n + 1, h => by
    unfold RepL at h
    subst h
    show RepL K U H [] []
    unfold RepL
    rfl
  | d :: ds, vs, n + 1, h => by
    unfold RepL at h
    obtain ⟨v, ws, e1, h1, h2⟩ := h
    subst e1
    exact RepL.drop n h2
theorem RepL.take : ∀ {ds : List D} {vs : List V} (n : Nat), RepL K U H ds vs → RepL K U H (ds.take n) (vs.take n)
  | ds, vs, 0, h => by
    show RepL K U H [] []
    unfold RepL
    rfl
  | [], vs, n + 1, h => by
    unfold RepL at h
    subst h
    show RepL K U H [] []
    unfold RepL
    rfl
  | d :: ds, vs, n + 1, h => by
    unfold RepL at h
    obtain ⟨v, ws, e1, h1, h2⟩ := h
    subst e1
    show RepL K U H (d :: ds.take n) (v :: ws.take n)
    unfold RepL
    exact ⟨v, ws.take n, rfl, h1, RepL.take n h2⟩
theorem RepL.nil : RepL K U H [] [] := by unfold RepL; rfl
theorem RepL.cons {w : V} (h : Rep K U H d w) (r : RepL K U H ds vs) : RepL K U H (d :: ds) (w :: vs) := by
  unfold RepL
  exact ⟨w, vs, rfl, h, r⟩
theorem RepL.inv (h : RepL K U H (d :: ds) vs) : ∃ v us, vs = v :: us ∧ Rep K U H d v ∧ RepL K U H ds us := by unfold RepL at h; exact h
theorem RepL.nil_inv (h : RepL K U H [] vs) : vs = [] := by unfold RepL at h; exact h
theorem RepL.set {d : D} {w : V} : ∀ {ds : List D} {vs : List V} (i : Nat), RepL K U H ds vs → Rep K U H d w → RepL K U H (ds.set i d) (vs.set i w)
  | [], vs, i, h, _ => by rw [h.nil_inv]; exact RepL.nil
  | e :: ds, vs, 0, h, r => by
    obtain ⟨v, us, rfl, h1, h2⟩ := h.inv
    exact RepL.cons r h2
  | e :: ds, vs, i + 1, h, r => by
    obtain ⟨v, us, rfl, h1, h2⟩ := h.inv
    exact RepL.cons h1 (RepL.set i h2 r)
theorem RepL.eraseIdx : ∀ {ds : List D} {vs : List V} (i : Nat), RepL K U H ds vs → RepL K U H (ds.eraseIdx i) (vs.eraseIdx i)
  | [], vs, i, h => by rw [h.nil_inv]; exact RepL.nil
  | e :: ds, vs, 0, h => by
    obtain ⟨v, us, rfl, h1, h2⟩ := h.inv
    exact h2
  | e :: ds, vs, i + 1, h => by
    obtain ⟨v, us, rfl, h1, h2⟩ := h.inv
    exact RepL.cons h1 (RepL.eraseIdx i h2)
theorem RepL.rev {ds : List D} {vs : List V} (h : RepL K U H ds vs) : RepL K U H ds.reverse vs.reverse := by
  induction ds generalizing vs with
  | nil => rw [h.nil_inv]; exact RepL.nil
  | cons d ds ih =>
    obtain ⟨v, us, rfl, h1, h2⟩ := h.inv
    rw [List.reverse_cons, List.reverse_cons]
    exact RepL.snoc (ih h2) h1
theorem RepL.rep {ds : List D} {vs : List V} (h : RepL K U H ds vs) : ∀ k : Nat, RepL K U H (List.replicate k ds).flatten (List.replicate k vs).flatten
  | 0 => RepL.nil
  | k + 1 => by
    rw [List.replicate_succ, List.replicate_succ, List.flatten_cons, List.flatten_cons]
    exact RepL.app h (RepL.rep h k)
theorem RepL.ints : ∀ {ns : List Int} {vs : List V}, RepL K U H (ns.map D.int) vs → vs = ns.map V.int
  | [], vs, h => h.nil_inv
  | n :: ns, vs, h => by
    obtain ⟨v, us, rfl, h1, h2⟩ := RepL.inv h
    unfold Rep at h1
    rw [h1, RepL.ints h2]
    rfl
theorem RepL.strs : ∀ {ns : List Str} {vs : List V}, RepL K U H (ns.map D.str) vs → vs = ns.map V.str
  | [], vs, h => h.nil_inv
  | n :: ns, vs, h => by
    obtain ⟨v, us, rfl, h1, h2⟩ := RepL.inv h
    unfold Rep at h1
    rw [h1, RepL.strs h2]
    rfl
theorem RepL.bls : ∀ {ns : List Bool} {vs : List V}, RepL K U H (ns.map D.bl) vs → vs = ns.map V.bl
  | [], vs, h => h.nil_inv
  | n :: ns, vs, h => by
    obtain ⟨v, us, rfl, h1, h2⟩ := RepL.inv h
    unfold Rep at h1
    rw [h1, RepL.bls h2]
    rfl
theorem RepL.ofInts : ∀ (ns : List Int), RepL K U H (ns.map D.int) (ns.map V.int)
  | [] => RepL.nil
  | n :: ns => RepL.cons repInt (RepL.ofInts ns)
theorem RepL.ofStrs : ∀ (ns : List Str), RepL K U H (ns.map D.str) (ns.map V.str)
  | [] => RepL.nil
  | n :: ns => RepL.cons repStr (RepL.ofStrs ns)
end

/-! ### data of one kind -/
def asInts : List D → Option (List Int)
  | [] => some []
  | .int i :: ds => (asInts ds).map (i :: ·)
  | _ => none
def asStrs : List D → Option (List Str)
  | [] => some []
  | .str i :: ds => (asStrs ds).map (i :: ·)
  | _ => none
def asBls : List D → Option (List Bool)
  | [] => some []
  | .bl i :: ds => (asBls ds).map (i :: ·)
  | _ => none
theorem asInts_of : ∀ {ds : List D} {ns : List Int}, asInts ds = some ns → ds = ns.map D.int
  | [], ns, h => by cases h; rfl
  | .int i :: ds, ns, h => by
    unfold asInts at h
    cases q : asInts ds with
    | none => rw [q] at h; cases h
    | some l => rw [q] at h; cases h; rw [asInts_of q]; rfl
  | .non :: _, _, h => by cases h
  | .bl _ :: _, _, h => by cases h
  | .str _ :: _, _, h => by cases h
  | .tup _ :: _, _, h => by cases h
  | .lst _ :: _, _, h => by cases h
  | .dic _ :: _, _, h => by cases h
  | .obj _ _ :: _, _, h => by cases h
  | .scr _ :: _, _, h => by cases h
  | .exn _ _ :: _, _, h => by cases h
theorem asStrs_of : ∀ {ds : List D} {ns : List Str}, asStrs ds = some ns → ds = ns.map D.str
  | [], ns, h => by cases h; rfl
  | .str i :: ds, ns, h => by
    unfold asStrs at h
    cases q : asStrs ds with
    | none => rw [q] at h; cases h
    | some l => rw [q] at h; cases h; rw [asStrs_of q]; rfl
  | .non :: _, _, h => by cases h
  | .bl _ :: _, _, h => by cases h
  | .int _ :: _, _, h => by cases h
  | .tup _ :: _, _, h => by cases h
  | .lst _ :: _, _, h => by cases h
  | .dic _ :: _, _, h => by cases h
  | .obj _ _ :: _, _, h => by cases h
  | .scr _ :: _, _, h => by cases h
  | .exn _ _ :: _, _, h => by cases h
theorem asBls_of : ∀ {ds : List D} {ns : List Bool}, asBls ds = some ns → ds = ns.map D.bl
  | [], ns, h => by cases h; rfl
  | .bl i :: ds, ns, h => by
    unfold asBls at h
    cases q : asBls ds with
    | none => rw [q] at h; cases h
    | some l => rw [q] at h; cases h; rw [asBls_of q]; rfl
  | .non :: _, _, h => by cases h
  | .int _ :: _, _, h => by cases h
  | .str _ :: _, _, h => by cases h
  | .tup _ :: _, _, h => by cases h
  | .lst _ :: _, _, h => by cases h
  | .dic _ :: _, _, h => by cases h
  | .obj _ _ :: _, _, h => by cases h
  | .scr _ :: _, _, h => by cases h
  | .exn _ _ :: _, _, h => by cases h
@[simp] theorem asInts_map : ∀ (ns : List Int), asInts (ns.map D.int) = some ns
  | [] => rfl
  | n :: ns => by
    show (asInts (ns.map D.int)).map (n :: ·) = _
    rw [asInts_map ns]
    rfl
@[simp] theorem asStrs_map : ∀ (ns : List Str), asStrs (ns.map D.str) = some ns
  | [] => rfl
  | n :: ns => by
    show (asStrs (ns.map D.str)).map (n :: ·) = _
    rw [asStrs_map ns]
    rfl
@[simp] theorem asBls_map : ∀ (ns : List Bool), asBls (ns.map D.bl) = some ns
  | [] => rfl
  | n :: ns => by
    show (asBls (ns.map D.bl)).map (n :: ·) = _
    rw [asBls_map ns]
    rfl

/-! ### + -/
def addD : List D → Option (Bool × D)
  | [.int a, .int b] => some (false, .int (a + b))
  | [.int a, .bl b] => some (false, .int (a + PyProof.Rows.b2i b))
  | [.str a, .str b] => if a.length + b.length ≤ sizeLine then some (false, .str (a ++ b)) else none
  | [.lst a, .lst b] => if a.length + b.length ≤ sizeLine then some (true, .lst (a ++ b)) else none
  | [.tup a, .tup b] => if a.length + b.length ≤ sizeLine then some (false, .tup (a ++ b)) else none
  | _ => none
def rAddU (K : PySem.W.Frag) : R2 := fun x y H Q => (rI0 (fun i j => .int (i + j)) x y H Q) ∨ (∃ i k, x = .int i ∧ y = .bl k ∧ Q (.int (i + PyProof.Rows.b2i k)) H) ∨ (∃ i j, x = .str i ∧ y = .str j ∧ i.length + j.length ≤ sizeLine ∧ Q (.str (i ++ j)) H) ∨ rCat x y H Q ∨ rCatA K x y H Q
theorem op_addU {X : Cx} : OpR X (binaryOp .Add) (rAddU X.K) := OpR.or op_add (OpR.or op_add_ib (OpR.or op_add_str (OpR.or op_cat op_catA)))
theorem prim_add {K : PySem.W.Frag} : Prim K (r2 (rAddU K)) addD := by
  intro U H ds vs Q b d hU ar e post
  unfold addD at e
  split at e
  · obtain ⟨v, w, rfl, h1, h2⟩ := ar2 ar
    cases e
    rw [arInt h1, arInt h2]
    exact ⟨_, _, rfl, .inl ⟨_, _, rfl, rfl, post _ H (Ext.refl H) (fun _ => repInt) (fun z => by cases z)⟩⟩
  · obtain ⟨v, w, rfl, h1, h2⟩ := ar2 ar
    cases e
    rw [arInt h1, arBl h2]
    exact ⟨_, _, rfl, .inr (.inl ⟨_, _, rfl, rfl, post _ H (Ext.refl H) (fun _ => repInt) (fun z => by cases z)⟩)⟩
  · obtain ⟨v, w, rfl, h1, h2⟩ := ar2 ar
    split at e
    · rename_i q
      cases e
      rw [arStr h1, arStr h2]
      exact ⟨_, _, rfl, .inr (.inr (.inl ⟨_, _, rfl, rfl, q, post _ H (Ext.refl H) (fun _ => repStr) (fun z => by cases z)⟩))⟩
    · cases e
  · obtain ⟨v, w, rfl, h1, h2⟩ := ar2 ar
    split at e
    · rename_i q
      cases e
      obtain ⟨p1, xs, rfl, q1, r1⟩ := arLst h1
      obtain ⟨p2, ys, rfl, q2, r2⟩ := arLst h2
      refine ⟨_, _, rfl, .inr (.inr (.inr (.inl ⟨p1, p2, xs, ys, rfl, rfl, q1, q2, by rw [r1.len, r2.len]; exact q, fun p hp => ?_⟩)))⟩
      exact post _ _ (ext_new hp) (fun z => by cases z) (fun _ => newLst hp (RepL.app r1 r2))
    · cases e
  · obtain ⟨v, w, rfl, h1, h2⟩ := ar2 ar
    split at e
    · rename_i q
      cases e
      obtain ⟨p1, xs, rfl, n1, q1, r1⟩ := arTup h1
      obtain ⟨p2, ys, rfl, n2, q2, r2⟩ := arTup h2
      refine ⟨_, _, rfl, .inr (.inr (.inr (.inr ⟨p1, p2, xs, ys, rfl, rfl, SqT.of q1, SqT.of q2, by rw [r1.len, r2.len]; exact q, fun z => ?_, fun z1 z2 => ?_, fun z1 z2 p hp => ?_⟩)))⟩
      · have e0 := r1.len
        rw [z] at e0
        have e1 := List.eq_nil_of_length_eq_zero e0.symm
        subst e1
        exact post _ H (Ext.refl H) (fun _ => h2) (fun z => by cases z)
      · have e0 := r2.len
        rw [z2] at e0
        have e1 := List.eq_nil_of_length_eq_zero e0.symm
        subst e1
        rw [List.append_nil] at post
        exact post _ H (Ext.refl H) (fun _ => h1) (fun z => by cases z)
      · exact post _ _ (ext_new hp) (fun _ => newTup hU hp (RepL.app r1 r2)) (fun z => by cases z)
    · cases e
  · cases e

/-! ### - * // % ** -/
def int2 (f : Int → Int → Option D) : List D → Option (Bool × D)
  | [.int a, .int b] => (f a b).map fun d => (false, d)
  | _ => none
def subD : List D → Option (Bool × D) := int2 fun a b => some (.int (a - b))
def modD : List D → Option (Bool × D) := int2 fun a b => if 0 < b then some (.int (a % b)) else none
def fdvD : List D → Option (Bool × D) := int2 fun a b => if 0 < b ∧ b.natAbs.log2 ≤ 8000 then some (.int (a / b)) else none
def powD : List D → Option (Bool × D) := int2 fun a b => if 0 ≤ b ∧ b ≤ 1000 ∧ a.natAbs < 2 ^ 64 then some (.int (a ^ b.toNat)) else none
theorem prim_int2 {K : PySem.W.Frag} {C : Int → Int → Prop} {f : Int → Int → Option D} {g : Int → Int → V} (h : ∀ a b d, f a b = some d → C a b ∧ ∀ U H, Rep K U H d (g a b)) : Prim K (r2 (rI C g)) (int2 f) := by
  intro U H ds vs Q b d hU ar e post
  unfold int2 at e
  split at e
  · rename_i x y
    obtain ⟨v, w, rfl, h1, h2⟩ := ar2 ar
    cases q : f x y with
    | none => rw [q] at e; cases e
    | some d' =>
      rw [q] at e
      cases e
      obtain ⟨c, r⟩ := h x y _ q
      rw [arInt h1, arInt h2]
      exact ⟨_, _, rfl, _, _, rfl, rfl, c, post _ H (Ext.refl H) (fun _ => r U H) (fun z => by cases z)⟩
  · cases e
theorem op_subU {X : Cx} : OpR X (binaryOp .Sub) (rI (fun _ _ => True) fun i j => .int (i - j)) := fun pins s σ H x y v u Q I rx ry ⟨i, j, h1, h2, _, q⟩ => op_sub pins s σ H x y v u Q I rx ry ⟨i, j, h1, h2, q⟩
theorem prim_sub {K : PySem.W.Frag} : Prim K (r2 (rI (fun _ _ => True) fun i j => .int (i - j))) subD := prim_int2 fun a b d e => by
  cases e
  exact ⟨trivial, fun _ _ => repInt⟩
theorem prim_mod {K : PySem.W.Frag} : Prim K (r2 (rI (fun _ j => 0 < j) fun i j => .int (i % j))) modD := prim_int2 fun a b d e => by
  split at e
  · rename_i q
    cases e
    exact ⟨q, fun _ _ => repInt⟩
  · cases e
theorem prim_fdv {K : PySem.W.Frag} : Prim K (r2 (rI CDivW fun i j => .int (i / j))) fdvD := prim_int2 fun a b d e => by
  split at e
  · rename_i q
    cases e
    exact ⟨⟨q.1, Nat.lt_of_le_of_lt q.2 (by decide)⟩, fun _ _ => repInt⟩
  · cases e
theorem prim_pow {K : PySem.W.Frag} : Prim K (r2 (rI CPow fun i j => .int (i ^ j.toNat))) powD := prim_int2 fun a b d e => by
  split at e
  · rename_i q
    cases e
    exact ⟨⟨q.1, by omega, q.2.2⟩, fun _ _ => repInt⟩
  · cases e
def mulOk (a b : Int) : Prop := (-(2 ^ 64) < a ∧ a < 2 ^ 64) ∨ (-(2 ^ 64) < b ∧ b < 2 ^ 64)
instance (a b : Int) : Decidable (mulOk a b) := by unfold mulOk; infer_instance
def mulD : List D → Option (Bool × D)
  | [.int a, .int b] => if mulOk a b then some (false, .int (a * b)) else none
  | [.lst a, .int k] => if -(2 ^ 63) ≤ k ∧ k < 2 ^ 63 ∧ a.length * k.toNat ≤ sizeLine then some (true, .lst (List.replicate k.toNat a).flatten) else none
  | [.tup a, .int k] => if a.length ≤ 1000 ∧ 0 < a.length ∧ 2 ≤ k ∧ k ≤ 1000 then some (false, .tup (List.replicate k.toNat a).flatten) else none
  | [.str a, .int k] => if a.length ≤ 1000 ∧ -1000 ≤ k ∧ k ≤ 1000 then some (false, .str ⟨(List.replicate k.toNat a.cps.toList).flatten.toArray⟩) else none
  | _ => none
theorem foldl_cps (l : List Nat) : ∀ (k : Nat) (acc : List Nat), List.foldl (fun x1 x2 => x1 ++ x2) acc.toArray (List.replicate k l.toArray) = (acc ++ (List.replicate k l).flatten).toArray
  | 0, acc => by simp
  | k + 1, acc => by
    rw [List.replicate_succ, List.foldl_cons]
    have : acc.toArray ++ l.toArray = (acc ++ l).toArray := by simp
    rw [this, foldl_cps l k, List.replicate_succ, List.flatten_cons, List.append_assoc]
def rRepS : R2 := fun x y H Q => ∃ a k, x = .str a ∧ y = .int k ∧ a.length ≤ 1000 ∧ -1000 ≤ k ∧ k ≤ 1000 ∧ Q (.str ⟨(List.replicate k.toNat a.cps.toList).flatten.toArray⟩) H
theorem rep_len (l : List Nat) : ∀ k : Nat, (List.replicate k l).flatten.length = k * l.length
  | 0 => by simp
  | k + 1 => by
    rw [List.replicate_succ, List.flatten_cons, List.length_append, rep_len l k, Nat.succ_mul, Nat.add_comm]
theorem op_repS {X : Cx} : OpR X (binaryOp .Mult) rRepS := by
  intro pins s σ H x y v u Q I rx ry h
  obtain ⟨a, k, rfl, rfl, h1, h2, h3, q⟩ := h
  obtain ⟨t, rfl⟩ := rx
  obtain ⟨t2, rfl⟩ := ry
  have szl : sizeLine = 16777216 := rfl
  have hal : a.length = a.cps.toList.length := by
    unfold Str.length
    rw [Array.length_toList]
  have prod : a.length * k.toNat ≤ 1000 * 1000 := Nat.mul_le_mul h1 (by omega)
  refine PySem.P.mul_str (by rw [decide_eq_false (by omega), decide_eq_false (by omega)] <;> rfl) (fun g1 _ g2 => ?_) (fun g1 _ => ?_) ?_
  · have : (1000 : Int) ≤ (2 ^ 63 - 1) / k := by
      rw [Int.le_ediv_iff_mul_le (by omega)]
      have : 1000 * k ≤ 1000 * 1000 := by omega
      omega
    omega
  · unfold Builtin.Str.tooLong
    exact decide_eq_false (by omega)
  · have fin : ∀ z : Str, z = ⟨(List.replicate k.toNat a.cps.toList).flatten.toArray⟩ → ∀ (tk t' : Nat), EP X pins σ Q (.str z tk) { s with toks := t' } := fun z ez tk t' => by
      rw [ez]
      exact ⟨.str _, H, I.tok t', ⟨tk, rfl⟩, q⟩
    split
    · rename_i g
      have k0 : k.toNat = 0 := by omega
      refine ⟨by decide, fin _ ?_ _ _⟩
      rw [k0]
      rfl
    · rename_i g
      split
      · rename_i g2
        have e : a = ⟨(List.replicate k.toNat a.cps.toList).flatten.toArray⟩ := by
          rcases Bool.or_eq_true_iff.mp g2 with g3 | g3
          · have k1 : k = 1 := eq_of_beq g3
            subst k1
            show a = ⟨(List.replicate 1 a.cps.toList).flatten.toArray⟩
            simp
          · have l0 : a.length = 0 := eq_of_beq g3
            have c0 : a.cps.toList = [] := List.eq_nil_of_length_eq_zero (by rw [← hal]; exact l0)
            rw [c0]
            have : (List.replicate k.toNat ([] : List Nat)).flatten = [] := List.eq_nil_of_length_eq_zero (by rw [rep_len]; simp)
            rw [this]
            cases a with
            | mk c =>
              have : c = #[] := by
                have := c0
                cases c
                simp_all
              rw [this]
        exact fin a e t s.toks
      · have eq0 := foldl_cps a.cps.toList k.toNat []
        have e2 : (List.replicate k.toNat a.cps).foldl (fun x1 x2 => x1 ++ x2) #[] = (List.replicate k.toNat a.cps.toList).flatten.toArray := by
          have : a.cps.toList.toArray = a.cps := by simp
          rw [this] at eq0
          simpa using eq0
        refine ⟨?_, fin _ ?_ _ _⟩
        · show ((List.replicate k.toNat a.cps).foldl (fun x1 x2 => x1 ++ x2) #[]).size ≤ sizeLine
          rw [e2, List.size_toArray, rep_len, ← hal, Nat.mul_comm]
          omega
        · exact congrArg Str.mk e2
def rMulU (K : PySem.W.Frag) : R2 := fun x y H Q => rI CMul (fun i j => .int (i * j)) x y H Q ∨ rRep x y H Q ∨ rRepT K x y H Q ∨ rRepS x y H Q
theorem op_mulU {X : Cx} : OpR X (binaryOp .Mult) (rMulU X.K) := OpR.or op_mul (OpR.or op_rep (OpR.or op_repT op_repS))
theorem prim_mul {K : PySem.W.Frag} : Prim K (r2 (rMulU K)) mulD := by
  intro U H ds vs Q b d hU ar e post
  unfold mulD at e
  split at e
  · obtain ⟨v, w, rfl, h1, h2⟩ := ar2 ar
    split at e
    · rename_i q
      cases e
      rw [arInt h1, arInt h2]
      exact ⟨_, _, rfl, .inl ⟨_, _, rfl, rfl, q, post _ H (Ext.refl H) (fun _ => repInt) (fun z => by cases z)⟩⟩
    · cases e
  · obtain ⟨v, w, rfl, h1, h2⟩ := ar2 ar
    split at e
    · rename_i q
      cases e
      obtain ⟨p1, xs, rfl, q1, r1⟩ := arLst h1
      rw [arInt h2]
      refine ⟨_, _, rfl, .inr (.inl ⟨p1, _, xs, rfl, rfl, q1, q.1, q.2.1, by rw [r1.len]; exact q.2.2, fun p hp => ?_⟩)⟩
      exact post _ _ (ext_new hp) (fun z => by cases z) (fun _ => newLst hp (RepL.rep r1 _))
    · cases e
  · obtain ⟨v, w, rfl, h1, h2⟩ := ar2 ar
    split at e
    · rename_i q
      cases e
      obtain ⟨p1, xs, rfl, n1, q1, r1⟩ := arTup h1
      rw [arInt h2]
      refine ⟨_, _, rfl, .inr (.inr (.inl ⟨p1, _, xs, rfl, rfl, SqT.of q1, ?_, q.2.2.1, q.2.2.2, by rw [r1.len]; exact q.1, fun p hp => ?_⟩))⟩
      · intro z
        have := r1.len
        rw [z] at this
        have := q.2.1
        simp at *
        omega
      · exact post _ _ (ext_new hp) (fun _ => newTup hU hp (RepL.rep r1 _)) (fun z => by cases z)
    · cases e
  · obtain ⟨v, w, rfl, h1, h2⟩ := ar2 ar
    split at e
    · rename_i q
      cases e
      rw [arStr h1, arInt h2]
      exact ⟨_, _, rfl, .inr (.inr (.inr ⟨_, _, rfl, rfl, q.1, q.2.1, q.2.2, post _ H (Ext.refl H) (fun _ => repStr) (fun z => by cases z)⟩))⟩
    · cases e
  · cases e
def negD : List D → Option (Bool × D)
  | [.int a] => some (false, .int (-a))
  | _ => none
theorem prim_neg {K : PySem.W.Frag} : Prim K (r1 (rU fun i => .int (-i))) negD := by
  intro U H ds vs Q b d hU ar e post
  unfold negD at e
  split at e
  · obtain ⟨v, rfl, h1⟩ := ar1 ar
    cases e
    rw [arInt h1]
    exact ⟨_, rfl, _, rfl, post _ H (Ext.refl H) (fun _ => repInt) (fun z => by cases z)⟩
  · cases e

/-! ### comparisons -/
mutual
def toPy : D → Option PyData
  | .non => some .none
  | .bl b => some (.bool b)
  | .int i => some (.int i)
  | .str s => some (.str s)
  | .tup ds => (toPyL ds).map .tuple
  | .lst ds => (toPyL ds).map .list
  | .dic _ => none
  | .obj _ _ => none
  | .scr _ => none
  | .exn _ _ => none
def toPyL : List D → Option (List PyData)
  | [] => some []
  | d :: ds => match toPy d with
    | some p => (match toPyL ds with
      | some ps => some (p :: ps)
      | none => none)
    | none => none
end
section
variable {K : PySem.W.Frag} {U : Addr → Prop} {H H' : Hp}
mutual
theorem dp_of : ∀ {d : D} {v : V} {p : PyData}, Rep K U H d v → toPy d = some p → Dp K H v p
  | .non, v, p, r, e => by
    unfold Rep at r
    unfold toPy at e
    cases e
    rw [r]
    exact .non
  | .bl _, v, p, r, e => by
    unfold Rep at r
    unfold toPy at e
    cases e
    rw [r]
    exact .bl _
  | .int _, v, p, r, e => by
    unfold Rep at r
    unfold toPy at e
    cases e
    rw [r]
    exact .int _
  | .str _, v, p, r, e => by
    unfold Rep at r
    unfold toPy at e
    cases e
    rw [r]
    exact .str _
  | .tup ds, v, p, r, e => by
    unfold Rep at r
    unfold toPy at e
    obtain ⟨a, vs, e1, _, ha, rl⟩ := r
    cases q : toPyL ds with
    | none => rw [q] at e; cases e
    | some ps =>
      rw [q] at e
      cases e
      rw [e1]
      exact .tup (SqT.of ha) (dpL_of rl q)
  | .lst ds, v, p, r, e => by
    unfold Rep at r
    unfold toPy at e
    obtain ⟨a, vs, e1, _, ha, rl⟩ := r
    cases q : toPyL ds with
    | none => rw [q] at e; cases e
    | some ps =>
      rw [q] at e
      cases e
      rw [e1]
      exact .lst (SqL.of ha) (dpL_of rl q)
  | .dic _, _, _, _, e => by unfold toPy at e; cases e
  | .obj _ _, _, _, _, e => by unfold toPy at e; cases e
  | .scr _, _, _, _, e => by unfold toPy at e; cases e
  | .exn _ _, _, _, _, e => by unfold toPy at e; cases e
theorem dpL_of : ∀ {ds : List D} {vs : List V} {ps : List PyData}, RepL K U H ds vs → toPyL ds = some ps → DpAll K H vs ps
  | [], vs, ps, r, e => by
    unfold toPyL at e
    cases e
    rw [r.nil_inv]
    exact .nil
  | d :: ds, vs, ps, r, e => by
    unfold RepL at r
    obtain ⟨v, us, e1, h1, h2⟩ := r
    unfold toPyL at e
    cases q : toPy d with
    | none => rw [q] at e; cases e
    | some p =>
      rw [q] at e
      dsimp only at e
      cases q2 : toPyL ds with
      | none => rw [q2] at e; cases e
      | some ps' =>
        rw [q2] at e
        cases e
        rw [e1]
        exact .cons (dp_of h1 q) (dpL_of h2 q2)
end
theorem adp_of {d : D} {v : V} {p : PyData} (r : ARep K U H d v) (e : toPy d = some p) : Dp K H v p := by
  cases d with
  | lst ds =>
    obtain ⟨a, vs, e1, ha, rl⟩ := r
    unfold toPy at e
    cases q : toPyL ds with
    | none => rw [q] at e; cases e
    | some ps =>
      rw [q] at e
      cases e
      rw [e1]
      exact .lst (SqL.of ha) (dpL_of rl q)
  | dic _ => unfold toPy at e; cases e
  | obj _ _ => unfold toPy at e; cases e
  | scr _ => unfold toPy at e; cases e
  | exn _ _ => unfold toPy at e; cases e
  | non => exact dp_of (U := U) (d := .non) r e
  | bl _ => exact dp_of (U := U) (d := .bl _) r e
  | int _ => exact dp_of (U := U) (d := .int _) r e
  | str _ => exact dp_of (U := U) (d := .str _) r e
  | tup _ => exact dp_of (U := U) (d := .tup _) r e
end
/-- == of data -/
def eqD (a b : D) : Option Bool := match toPy a, toPy b with
  | some p, some q => if SeqAt.shaped p = true ∧ SeqAt.shaped q = true then some (PyData.eqv p q) else none
  | _, _ => none
def eqOp (n : Bool) : List D → Option (Bool × D)
  | [a, b] => (eqD a b).map fun k => (false, .bl (k != n))
  | _ => none
def rEqU (K : PySem.W.Frag) (n : Bool) : R2 := fun x y H Q => ∃ d e, Dp K H x d ∧ Dp K H y e ∧ SeqAt.shaped d = true ∧ SeqAt.shaped e = true ∧ Q (.bl (PyData.eqv d e != n)) H
theorem op_eqU {X : Cx} (hu : X.A.units + 64 < cLine) : OpR X (compareOp .Eq) (rEqU X.K false) := fun pins s σ H x y v u Q I rx ry ⟨d, e, h1, h2, h3, h4, q⟩ => op_eqD hu pins s σ H x y v u Q I rx ry ⟨d, e, h1, h2, h3, h4, by simpa using q⟩
theorem op_neU {X : Cx} (hu : X.A.units + 64 < cLine) : OpR X (compareOp .NotEq) (rEqU X.K true) := fun pins s σ H x y v u Q I rx ry ⟨d, e, h1, h2, h3, h4, q⟩ => op_neD hu pins s σ H x y v u Q I rx ry ⟨d, e, h1, h2, h3, h4, by simpa using q⟩
theorem prim_eq {K : PySem.W.Frag} {n : Bool} : Prim K (r2 (rEqU K n)) (eqOp n) := by
  intro U H ds vs Q b d hU ar e post
  unfold eqOp at e
  split at e
  · rename_i x y
    obtain ⟨v, w, rfl, h1, h2⟩ := ar2 ar
    unfold eqD at e
    split at e
    · rename_i p q hp hq
      split at e
      · rename_i c
        cases e
        exact ⟨_, _, rfl, p, q, adp_of h1 hp, adp_of h2 hq, c.1, c.2, post _ H (Ext.refl H) (fun _ => repBl) (fun z => by cases z)⟩
      · cases e
    · cases e
  · cases e
/-- <, <=, >, >= of ints and of texts -/
def ordD (f : Int → Int → Bool) (g : List Nat → List Nat → Bool) : List D → Option (Bool × D)
  | [.int a, .int b] => some (false, .bl (f a b))
  | [.str a, .str b] => some (false, .bl (g a.cps.toList b.cps.toList))
  | _ => none
def rOrdU (f : Int → Int → Bool) (g : List Nat → List Nat → Bool) : R2 := fun x y H Q => rI0 (fun i j => .bl (f i j)) x y H Q ∨ ∃ i j, x = .str i ∧ y = .str j ∧ Q (.bl (g i.cps.toList j.cps.toList)) H
theorem op_ltU {X : Cx} : OpR X (compareOp .Lt) (rOrdU (fun i j => decide (i < j)) fun i j => decide (i < j)) := OpR.or op_lt op_lt_str
theorem op_leU {X : Cx} : OpR X (compareOp .LtE) (rOrdU (fun i j => decide (i ≤ j)) fun i j => !decide (j < i)) := OpR.or op_le op_le_str
theorem op_gtU {X : Cx} : OpR X (compareOp .Gt) (rOrdU (fun i j => decide (j < i)) fun i j => decide (j < i)) := OpR.or op_gt op_gt_str
theorem op_geU {X : Cx} : OpR X (compareOp .GtE) (rOrdU (fun i j => decide (j ≤ i)) fun i j => !decide (i < j)) := OpR.or op_ge op_ge_str
theorem prim_ord {K : PySem.W.Frag} {f : Int → Int → Bool} {g : List Nat → List Nat → Bool} : Prim K (r2 (rOrdU f g)) (ordD f g) := by
  intro U H ds vs Q b d hU ar e post
  unfold ordD at e
  split at e
  · obtain ⟨v, w, rfl, h1, h2⟩ := ar2 ar
    cases e
    rw [arInt h1, arInt h2]
    exact ⟨_, _, rfl, .inl ⟨_, _, rfl, rfl, post _ H (Ext.refl H) (fun _ => repBl) (fun z => by cases z)⟩⟩
  · obtain ⟨v, w, rfl, h1, h2⟩ := ar2 ar
    cases e
    rw [arStr h1, arStr h2]
    exact ⟨_, _, rfl, .inr ⟨_, _, rfl, rfl, post _ H (Ext.refl H) (fun _ => repBl) (fun z => by cases z)⟩⟩
  · cases e
abbrev ltD := ordD (fun i j => decide (i < j)) fun i j => decide (i < j)
abbrev leD := ordD (fun i j => decide (i ≤ j)) fun i j => !decide (j < i)
abbrev gtD := ordD (fun i j => decide (j < i)) fun i j => decide (j < i)
abbrev geD := ordD (fun i j => decide (j ≤ i)) fun i j => !decide (i < j)
/-- is, is not of None and truths (the right one written) -/
def isB : D → D → Option Bool
  | .non, .non => some true
  | _, .non => some false
  | .bl a, .bl b => some (a == b)
  | .non, .bl _ => none
  | _, _ => none
def isOp (n : Bool) : List D → Option (Bool × D)
  | [a, b] => (isB a b).map fun k => (false, .bl (k != n))
  | _ => none
def rIsU (n : Bool) : R2 := fun x y H Q => (y = .non ∧ Q (.bl (decide (x = .non) != n)) H) ∨ ∃ a b : Bool, x = .bl a ∧ y = .bl b ∧ Q (.bl (decide (a = b) != n)) H
theorem op_isU {X : Cx} : OpR X (compareOp .Is) (rIsU false) := fun pins s σ H x y v u Q I rx ry h => by
  rcases h with ⟨h, q⟩ | ⟨a, b, h1, h2, q⟩
  · exact op_isN pins s σ H x y v u Q I rx ry ⟨h, by simpa using q⟩
  · exact op_isBl pins s σ H x y v u Q I rx ry ⟨a, b, h1, h2, by simpa using q⟩
theorem op_isnU {X : Cx} : OpR X (compareOp .IsNot) (rIsU true) := fun pins s σ H x y v u Q I rx ry h => by
  rcases h with ⟨h, q⟩ | ⟨a, b, h1, h2, q⟩
  · exact op_notN pins s σ H x y v u Q I rx ry ⟨h, by simpa using q⟩
  · exact op_notBl pins s σ H x y v u Q I rx ry ⟨a, b, h1, h2, by simpa using q⟩
theorem prim_is {K : PySem.W.Frag} {n : Bool} : Prim K (r2 (rIsU n)) (isOp n) := by
  intro U H ds vs Q b d hU ar e post
  unfold isOp at e
  split at e
  · rename_i x y
    obtain ⟨v, w, rfl, h1, h2⟩ := ar2 ar
    cases q : isB x y with
    | none => rw [q] at e; cases e
    | some k =>
      rw [q] at e
      cases e
      have pk := post (.bl (k != n)) H (Ext.refl H) (fun _ => repBl) (fun z => by cases z)
      refine ⟨v, w, rfl, ?_⟩
      unfold isB at q
      split at q
      · cases q
        refine .inl ⟨arNon h2, ?_⟩
        rw [arNon h1, decide_eq_true rfl]
        exact pk
      · rename_i hne
        cases q
        refine .inl ⟨arNon h2, ?_⟩
        rw [decide_eq_false]
        · exact pk
        · intro z
          subst z
          apply hne
          cases x with
          | non => rfl
          | bl _ => exact absurd (arBl h1) (by intro z; cases z)
          | int _ => exact absurd (arInt h1) (by intro z; cases z)
          | str _ => exact absurd (arStr h1) (by intro z; cases z)
          | tup _ => obtain ⟨_, _, z, _⟩ := arTup h1; cases z
          | lst _ => obtain ⟨_, _, z, _⟩ := arLst h1; cases z
          | dic _ => obtain ⟨_, _, z, _⟩ := arDic h1; cases z
          | scr _ => obtain ⟨_, z, _⟩ := arScr h1; cases z
          | exn _ _ => obtain ⟨_, z⟩ := arExn h1; cases z
          | obj _ _ => obtain ⟨_, _, _, z, _⟩ := h1; cases z
      · rename_i a' b'
        cases q
        refine .inr ⟨a', b', arBl h1, arBl h2, ?_⟩
        have : decide (a' = b') = (a' == b') := by cases a' <;> cases b' <;> rfl
        rw [this]
        exact pk
      · cases q
      · cases q
  · cases e
end PyD

namespace PyD
open PySem PySem.Spec L2

/-! ### len, subscripts -/
def lenD : List D → Option (Bool × D)
  | [.str s] => if s.length ≤ sizeLine then some (false, .int s.length) else none
  | [.lst ds] => some (false, .int ds.length)
  | [.tup ds] => some (false, .int ds.length)
  | [.scr ns] => some (false, .int ns.length)
  | [.dic ds] => some (false, .int ds.length)
  | _ => none
def rLenU (K : PySem.W.Frag) : List V → Hp → VK → Prop := fun xs H Q => (∃ x n, xs = [x] ∧ LenV K x H n ∧ Q (.int n) H) ∨ ∃ a kvs, xs = [V.ref a] ∧ H a = some (.dK kvs) ∧ Q (.int kvs.length) H
theorem cr_lenU {X : Cx} : CallR X (.builtin "len") (rLenU X.K) := CallR_or call_len call_lenD
theorem RepK.len {K : PySem.W.Frag} {U : Addr → Prop} {H : Hp} : ∀ {ds : List (Key × D)} {vs : List (Key × V)}, RepK K U H ds vs → vs.length = ds.length
  | [], vs, h => by
    unfold RepK at h
    rw [h] <;> rfl
  | (k, d) :: ds, vs, h => by
    unfold RepK at h
    obtain ⟨v, us, e, _, r⟩ := h
    rw [e, List.length_cons, List.length_cons, RepK.len r]
theorem prim_len {K : PySem.W.Frag} : Prim K (rLenU K) lenD := by
  intro U H ds vs Q b d hU ar e post
  unfold lenD at e
  split at e
  · obtain ⟨v, rfl, h1⟩ := ar1 ar
    split at e
    · rename_i q
      cases e
      rw [arStr h1]
      exact .inl ⟨_, _, rfl, ⟨q, rfl⟩, post _ H (Ext.refl H) (fun _ => repInt) (fun z => by cases z)⟩
    · cases e
  · obtain ⟨v, rfl, h1⟩ := ar1 ar
    cases e
    obtain ⟨p, xs, rfl, hp, r⟩ := arLst h1
    exact .inl ⟨_, xs.length, rfl, .inl ⟨xs, SqL.of hp, rfl⟩, by rw [r.len]; exact post _ H (Ext.refl H) (fun _ => repInt) (fun z => by cases z)⟩
  · obtain ⟨v, rfl, h1⟩ := ar1 ar
    cases e
    obtain ⟨p, xs, rfl, _, hp, r⟩ := arTup h1
    exact .inl ⟨_, xs.length, rfl, .inr ⟨xs, SqT.of hp, rfl⟩, by rw [r.len]; exact post _ H (Ext.refl H) (fun _ => repInt) (fun z => by cases z)⟩
  · rename_i ns
    obtain ⟨v, rfl, h1⟩ := ar1 ar
    cases e
    obtain ⟨p, rfl, hp⟩ := arScr h1
    exact .inl ⟨_, _, rfl, .inl ⟨_, hp, rfl⟩, by rw [List.length_map]; exact post _ H (Ext.refl H) (fun _ => repInt) (fun z => by cases z)⟩
  · obtain ⟨v, rfl, h1⟩ := ar1 ar
    cases e
    obtain ⟨p, xs, rfl, hp, r⟩ := arDic h1
    exact .inr ⟨p, xs, rfl, hp, by rw [r.len]; exact post _ H (Ext.refl H) (fun _ => repInt) (fun z => by cases z)⟩
  · cases e
/-- x[i] of a list, a tuple, a text, the script -/
def ixD : List D → Option (Bool × D)
  | [.lst ds, .int i] => (atI ds i).map fun d => (false, d)
  | [.tup ds, .int i] => (atI ds i).map fun d => (false, d)
  | [.str s, .int i] => if s.length ≤ sizeLine then (atI s.cps.toList i).map fun c => (false, .str ⟨#[c]⟩) else none
  | [.scr ns, .int i] => (atI ns i).map fun n => (false, .int n)
  | _ => none
theorem atI_rep {K : PySem.W.Frag} {U : Addr → Prop} {H : Hp} {ds : List D} {vs : List V} {i : Int} {d : D} (r : RepL K U H ds vs) (h : atI ds i = some d) : ∃ v, atI vs i = some v ∧ Rep K U H d v := by
  unfold atI at h ⊢
  rw [r.len]
  cases q : ixN ds.length i with
  | none => rw [q] at h; cases h
  | some j =>
    rw [q] at h
    exact RepL.get r h
theorem atI_map {α β : Type} {f : α → β} {l : List α} {i : Int} : atI (l.map f) i = (atI l i).map f := by
  unfold atI
  rw [List.length_map]
  cases ixN l.length i with
  | none => rfl
  | some j =>
    show (l.map f)[j]? = (l[j]?).map f
    rw [List.getElem?_map]
theorem prim_ix {K : PySem.W.Frag} : Prim K (r2 (rIx K)) ixD := by
  intro U H ds vs Q b d hU ar e post
  unfold ixD at e
  split at e
  · rename_i xs i
    obtain ⟨v, w, rfl, h1, h2⟩ := ar2 ar
    obtain ⟨p, ys, rfl, hp, r⟩ := arLst h1
    rw [arInt h2]
    cases q : atI xs i with
    | none => rw [q] at e; cases e
    | some d' =>
      rw [q] at e
      cases e
      obtain ⟨v, hv, rv⟩ := atI_rep r q
      exact ⟨_, _, rfl, .inl ⟨p, ys, i, v, rfl, rfl, SqL.of hp, hv, post v H (Ext.refl H) (fun _ => rv) (fun z => by cases z)⟩⟩
  · rename_i xs i
    obtain ⟨v, w, rfl, h1, h2⟩ := ar2 ar
    obtain ⟨p, ys, rfl, _, hp, r⟩ := arTup h1
    rw [arInt h2]
    cases q : atI xs i with
    | none => rw [q] at e; cases e
    | some d' =>
      rw [q] at e
      cases e
      obtain ⟨v, hv, rv⟩ := atI_rep r q
      exact ⟨_, _, rfl, .inr (.inl ⟨p, ys, i, v, rfl, rfl, SqT.of hp, hv, post v H (Ext.refl H) (fun _ => rv) (fun z => by cases z)⟩)⟩
  · rename_i s i
    obtain ⟨v, w, rfl, h1, h2⟩ := ar2 ar
    rw [arStr h1, arInt h2]
    split at e
    · rename_i hl
      cases q : atI s.cps.toList i with
      | none => rw [q] at e; cases e
      | some c =>
        rw [q] at e
        cases e
        exact ⟨_, _, rfl, .inr (.inr ⟨s, i, c, rfl, rfl, hl, q, post _ H (Ext.refl H) (fun _ => repStr) (fun z => by cases z)⟩)⟩
    · cases e
  · rename_i ns i
    obtain ⟨v, w, rfl, h1, h2⟩ := ar2 ar
    obtain ⟨p, rfl, hp⟩ := arScr h1
    rw [arInt h2]
    cases q : atI ns i with
    | none => rw [q] at e; cases e
    | some c =>
      rw [q] at e
      cases e
      exact ⟨_, _, rfl, .inl ⟨p, _, i, .int c, rfl, rfl, hp, by rw [atI_map, q] <;> rfl, post _ H (Ext.refl H) (fun _ => repInt) (fun z => by cases z)⟩⟩
  · cases e
/-! slices -/
def cutL {α : Type} (xs : List α) (lo hi : Option Int) : List α := (xs.drop (HT.sIx xs.length 0 lo)).take (HT.sIx xs.length xs.length hi - HT.sIx xs.length 0 lo)
def slD : D → Option Int → Option Int → Option (Bool × D)
  | .lst ds, lo, hi => some (true, .lst (cutL ds lo hi))
  | .tup ds, lo, hi => some (false, .tup (cutL ds lo hi))
  | .str s, lo, hi => if s.length ≤ sizeLine then some (false, .str ⟨(cutL s.cps.toList lo hi).toArray⟩) else none
  | .scr ns, lo, hi => some (true, .lst ((cutL ns lo hi).map .int))
  | _, _, _ => none
def rSlU (K : PySem.W.Frag) : V → Option Int → Option Int → Hp → VK → Prop := fun x lo hi H Q => rSlL K x lo hi H Q ∨ rSlA K x lo hi H Q ∨ rSlS x lo hi H Q
theorem sl_U {X : Cx} : SlR X (rSlU X.K) := SlR.or sl_list (SlR.or sl_tupA sl_str)
theorem RepL.cut {K : PySem.W.Frag} {U : Addr → Prop} {H : Hp} {ds : List D} {vs : List V} (r : RepL K U H ds vs) (lo hi : Option Int) : RepL K U H (cutL ds lo hi) (cutV vs lo hi) := by
  unfold cutL cutV
  rw [r.len]
  exact RepL.take _ (RepL.drop _ r)
theorem cutS_eq (s : Str) (lo hi : Option Int) : cutS s lo hi = ⟨(cutL s.cps.toList lo hi).toArray⟩ := by
  unfold cutS cutL Str.length
  simp [clipS_eq]
theorem cutV_ints (ns : List Int) (lo hi : Option Int) : cutV (ns.map V.int) lo hi = (cutL ns lo hi).map V.int := by
  unfold cutV cutL
  rw [List.length_map, List.map_take, List.map_drop]
theorem prim_sl {K : PySem.W.Frag} : PrimSl K (rSlU K) slD := by
  intro U H d v lo hi Q b d' hU ar e post
  unfold slD at e
  split at e
  · cases e
    obtain ⟨p, ys, rfl, hp, r⟩ := arLst ar
    exact .inl ⟨p, ys, rfl, SqL.of hp, fun q hq => post _ _ (ext_new hq) (fun z => by cases z) (fun _ => newLst hq (r.cut lo hi))⟩
  · cases e
    obtain ⟨p, ys, rfl, _, hp, r⟩ := arTup ar
    refine .inr (.inl ⟨p, ys, rfl, SqT.of hp, fun z => ?_, fun z q hq => post _ _ (ext_new hq) (fun _ => newTup hU hq (r.cut lo hi)) (fun z => by cases z)⟩)
    have : ∀ {α : Type} (l : List α), HT.sIx l.length 0 lo = 0 ∧ HT.sIx l.length l.length hi = l.length → cutL l lo hi = l := fun l z => by
      unfold cutL
      rw [z.1, z.2]
      simp
    rw [r.len] at z
    rw [this _ z] at post
    exact post _ H (Ext.refl H) (fun _ => ar) (fun z => by cases z)
  · split at e
    · rename_i q
      cases e
      rw [arStr ar]
      exact .inr (.inr ⟨_, rfl, q, by rw [cutS_eq]; exact post _ H (Ext.refl H) (fun _ => repStr) (fun z => by cases z)⟩)
    · cases e
  · cases e
    obtain ⟨p, rfl, hp⟩ := arScr ar
    refine .inl ⟨p, _, rfl, hp, fun q hq => post _ _ (ext_new hq) (fun z => by cases z) (fun _ => newLst hq ?_)⟩
    rw [cutV_ints]
    exact RepL.ofInts _
  · cases e

/-! ### in -/
def flatS : D → Bool
  | .non => true
  | .bl _ => true
  | .int _ => true
  | .str _ => true
  | _ => false
def eqS : D → D → Bool
  | .non, .non => true
  | .bl a, .bl b => a == b
  | .bl a, .int b => (if a then 1 else 0) == b
  | .int a, .bl b => a == (if b then 1 else 0)
  | .int a, .int b => a == b
  | .str a, .str b => a == b
  | _, _ => false
def inS (a b : Str) : Bool := !(Builtin.Str.occurrences b a 0 b.length 1).isEmpty
def inOp (n : Bool) : List D → Option (Bool × D)
  | [x, .lst ds] => if flatS x = true ∧ ds.all flatS = true then some (false, .bl ((ds.any fun y => eqS y x) != n)) else none
  | [x, .tup ds] => if flatS x = true ∧ ds.all flatS = true then some (false, .bl ((ds.any fun y => eqS y x) != n)) else none
  | [.str a, .str b] => some (false, .bl (inS a b != n))
  | _ => none
def rInU (K : PySem.W.Frag) (n : Bool) : R2 := fun x y H Q => rIn K n x y H Q ∨ ∃ i j, x = .str i ∧ y = .str j ∧ Q (.bl (inS i j != n)) H
theorem op_inU {X : Cx} : OpR X (compareOp .In) (rInU X.K false) := OpR.or op_in_seq (fun pins s σ H x y v u Q I rx ry ⟨i, j, h1, h2, q⟩ => op_in_str pins s σ H x y v u Q I rx ry ⟨i, j, h1, h2, by unfold inS at q; simpa using q⟩)
theorem op_niU {X : Cx} : OpR X (compareOp .NotIn) (rInU X.K true) := OpR.or op_notIn_seq (fun pins s σ H x y v u Q I rx ry ⟨i, j, h1, h2, q⟩ => op_notin_str pins s σ H x y v u Q I rx ry ⟨i, j, h1, h2, by unfold inS at q; simpa using q⟩)
section
variable {K : PySem.W.Frag} {U : Addr → Prop} {H H' : Hp}
theorem flatS_v : ∀ {d : D} {v : V}, flatS d = true → ARep K U H d v → flatV v = true
  | .non, v, _, r => by rw [arNon r] <;> rfl
  | .bl _, v, _, r => by rw [arBl r] <;> rfl
  | .int _, v, _, r => by rw [arInt r] <;> rfl
  | .str _, v, _, r => by rw [arStr r] <;> rfl
  | .tup _, _, h, _ => by cases h
  | .lst _, _, h, _ => by cases h
  | .dic _, _, h, _ => by cases h
  | .obj _ _, _, h, _ => by cases h
  | .scr _, _, h, _ => by cases h
  | .exn _ _, _, h, _ => by cases h
theorem eqS_v {d e : D} {v w : V} (h1 : flatS d = true) (h2 : flatS e = true) (r1 : ARep K U H d v) (r2 : ARep K U H e w) : eqV v w = eqS d e := by
  cases d <;> cases e <;> first
    | (cases h1; done)
    | (cases h2; done)
    | skip
  all_goals (first | rw [arNon r1] | rw [arBl r1] | rw [arInt r1] | rw [arStr r1])
  all_goals (first | rw [arNon r2] | rw [arBl r2] | rw [arInt r2] | rw [arStr r2])
  all_goals rfl
theorem inV_of {x : D} {w : V} (hx : flatS x = true) (rx : ARep K U H x w) : ∀ {ds : List D} {vs : List V}, ds.all flatS = true → RepL K U H ds vs → vs.all flatV = true ∧ inV w vs = ds.any fun y => eqS y x
  | [], vs, _, r => by
    rw [r.nil_inv]
    exact ⟨rfl, rfl⟩
  | d :: ds, vs, h, r => by
    obtain ⟨v, us, rfl, h1, h2⟩ := r.inv
    rw [List.all_cons, Bool.and_eq_true] at h
    obtain ⟨q1, q2⟩ := inV_of hx rx h.2 h2
    refine ⟨by rw [List.all_cons, flatS_v h.1 h1.arep, q1] <;> rfl, ?_⟩
    unfold inV at q2 ⊢
    rw [List.any_cons, List.any_cons, q2, eqS_v h.1 hx h1.arep rx]
end
theorem prim_in {K : PySem.W.Frag} {n : Bool} : Prim K (r2 (rInU K n)) (inOp n) := by
  intro U H ds vs Q b d hU ar e post
  have nb : ∀ k : Bool, (if n then !k else k) = (k != n) := fun k => by cases n <;> cases k <;> rfl
  unfold inOp at e
  split at e
  · obtain ⟨v, w, rfl, h1, h2⟩ := ar2 ar
    split at e
    · rename_i q
      cases e
      obtain ⟨p, ys, rfl, hp, r⟩ := arLst h2
      obtain ⟨q1, q2⟩ := inV_of q.1 h1 q.2 r
      exact ⟨_, _, rfl, .inl ⟨p, ys, rfl, .inl (SqL.of hp), flatS_v q.1 h1, q1, by rw [q2, nb]; exact post _ H (Ext.refl H) (fun _ => repBl) (fun z => by cases z)⟩⟩
    · cases e
  · obtain ⟨v, w, rfl, h1, h2⟩ := ar2 ar
    split at e
    · rename_i q
      cases e
      obtain ⟨p, ys, rfl, _, hp, r⟩ := arTup h2
      obtain ⟨q1, q2⟩ := inV_of q.1 h1 q.2 r
      exact ⟨_, _, rfl, .inl ⟨p, ys, rfl, .inr (SqT.of hp), flatS_v q.1 h1, q1, by rw [q2, nb]; exact post _ H (Ext.refl H) (fun _ => repBl) (fun z => by cases z)⟩⟩
    · cases e
  · obtain ⟨v, w, rfl, h1, h2⟩ := ar2 ar
    cases e
    rw [arStr h1, arStr h2]
    exact ⟨_, _, rfl, .inr ⟨_, _, rfl, rfl, post _ H (Ext.refl H) (fun _ => repBl) (fun z => by cases z)⟩⟩
  · cases e

/-! ### isinstance with a built-in class -/
def tyD : D → Option String
  | .non => some "NoneType"
  | .bl _ => some "bool"
  | .int _ => some "int"
  | .str _ => some "str"
  | .tup _ => some "tuple"
  | .lst _ => some "list"
  | .dic _ => some "dict"
  | .scr _ => none
  | .exn _ _ => none
  | .obj _ _ => none
def isTy (t T : String) : Bool := t == T || (t == "bool" && T == "int")
theorem kit_all : ∀ t ∈ ["NoneType", "bool", "int", "str", "tuple", "list", "dict"], ∀ T ∈ ["int", "bool", "str", "tuple", "list"], kitB t T = some (isTy t T) := by decide +kernel
def okTy (T : String) : Bool := ["int", "bool", "str", "tuple", "list"].contains T
def isiD (T : String) : List D → Option (Bool × D)
  | [d] => match tyD d with
    | some t => some (false, .bl (isTy t T))
    | none => none
  | _ => none
theorem tyD_of {K : PySem.W.Frag} {U : Addr → Prop} {H : Hp} : ∀ {d : D} {v : V} {t : String}, ARep K U H d v → tyD d = some t → TyX K H v (.type t)
  | .non, v, t, r, e => by cases e; rw [arNon r]; exact .base .non
  | .bl _, v, t, r, e => by cases e; rw [arBl r]; exact .base (.bl _)
  | .int _, v, t, r, e => by cases e; rw [arInt r]; exact .base (.int _)
  | .str _, v, t, r, e => by cases e; rw [arStr r]; exact .base (.str _)
  | .tup _, v, t, r, e => by cases e; obtain ⟨p, xs, rfl, _, hp, _⟩ := arTup r; exact .base (.tup hp)
  | .lst _, v, t, r, e => by cases e; obtain ⟨p, xs, rfl, hp, _⟩ := arLst r; exact .base (.lst hp)
  | .dic _, v, t, r, e => by cases e; obtain ⟨p, xs, rfl, hp, _⟩ := arDic r; exact .base (.dK hp)
  | .obj _ _, _, _, _, e => by cases e
  | .scr _, _, _, _, e => by cases e
  | .exn _ _, _, _, _, e => by cases e
theorem tyD_mem : ∀ {d : D} {t : String}, tyD d = some t → t ∈ ["NoneType", "bool", "int", "str", "tuple", "list", "dict"] := fun {d t} e => by
  cases d <;> cases e <;> decide
theorem isiImp {K : PySem.W.Frag} {W : WX} {T : String} {fa : M R} {σ : L2.St} {H : Hp} {Q : VK} (hT : okTy T = true) (m : RdE K W (opF (isiD T) (one fa)) σ H Q) : tCB (rIsi K) (tCons (RdE K W fa) (tCons (tC (.ty T)) tNil)) σ H Q := by
  have hp : Prim K (fun vs H Q => ∃ x, vs = [x] ∧ rIsi K [x, .ty T] H Q) (isiD T) := by
    intro U H ds vs Q b d hU ar e post
    unfold isiD at e
    split at e
    · rename_i d0
      obtain ⟨v, rfl, h1⟩ := ar1 ar
      cases q : tyD d0 with
      | none => rw [q] at e; cases e
      | some t =>
        rw [q] at e
        cases e
        have hT' : T ∈ ["int", "bool", "str", "tuple", "list"] := by
          unfold okTy at hT
          exact List.contains_iff_mem.mp hT
        exact ⟨v, rfl, v, .ty T, .type t, .type T, _, rfl, .ty T, tyD_of h1 q, kit_ty (kit_all t (tyD_mem q) T hT'), post _ H (Ext.refl H) (fun _ => repBl) (fun z => by cases z)⟩
    · cases e
  refine RdE.mono (fun x H1 q => ?_) (imp1 (opImp hp m))
  obtain ⟨x', e, z⟩ := q
  cases e
  exact z
theorem e_isi {X : Cx} {W : WX} {p p2 pos : Pos} {a : Expr} {fa : M R} {x : Str} {T : String} (hg : Gl X "isinstance") (hm : X.mg "isinstance" = none) (hg2 : Gl X x) (hm2 : X.mg x = none) (hv2 : bootBuiltins x = some (.type T)) (hT : okTy T = true) (ha : PE X a (RdE X.K W fa))
    (hn : x ≠ "__name__" := by decide) (hd : (x == ("__debug__" : Str)) = false := by decide)
    (he : starEach [a, .Name x p2] X.env = (false, eval a X.env) :: starEach [.Name x p2] X.env := by rfl) (he2 : starEach [.Name x p2] X.env = (false, eval (.Name x p2) X.env) :: starEach [] X.env := by rfl) (hpl : (backTo pos (starEach [.Name x p2] X.env)).any (·.1) = false := by rfl) :
    PE X (.Call (.Name "isinstance" p) [a, .Name x p2] [] pos) (RdE X.K W (opF (isiD T) (one fa))) :=
  pe_imp (pe_callB call_isi hg hm PyProof.Rows.boot_isinstance (pa_cons ha (pa_cons (pe_bltn (v := .ty T) hg2 hm2 hv2 rfl hn hd) pa_nil he2) he) (by decide) (by decide) he hpl) fun σ H Q m => isiImp hT m

/-! ### methods that change nothing -/
def bmF (isT : D → Bool) (g : List D → Option (Bool × D)) (fo : M R) (fs : M (List R)) : M R := fun en => match fo en with
  | .ok r en1 => (match rsl en1 r with
    | some d0 => (match isT d0 with
      | true => (match fs en1 with
        | .ok rs en2 => (match rsls en2 (r :: rs) with
          | some ds => (match g ds with
            | some (b, d) => .ok (mkR b d) en2
            | none => .bad)
          | none => .bad)
        | .exc x en2 => .exc x en2
        | .bad => .bad)
      | false => .bad)
    | none => .bad)
  | .exc x en1 => .exc x en1
  | .bad => .bad
def isStr : D → Bool
  | .str _ => true
  | _ => false
def TyA (K : PySem.W.Frag) (T : String) (isT : D → Bool) : Prop := ∀ (U : Addr → Prop) (H : Hp) (d : D) (v : V), isT d = true → ARep K U H d v → tyV K T v H
theorem ta_str {K : PySem.W.Frag} : TyA K "str" isStr := fun U H d v h r => by
  cases d with
  | str s => rw [arStr r] <;> rfl
  | _ => cases h
theorem ta_lst {K : PySem.W.Frag} : TyA K "list" isLst := fun U H d v h r => by
  cases d with
  | lst s => obtain ⟨p, xs, rfl, hp, _⟩ := arLst r; exact .inl ⟨rfl, xs, SqL.of hp⟩
  | _ => cases h
def rM (r : V → List V → Hp → VK → Prop) : List V → Hp → VK → Prop := fun vs H Q => ∃ x xs, vs = x :: xs ∧ r x xs H Q
theorem bmImp {K : PySem.W.Frag} {W : WX} {T : String} {isT : D → Bool} {g : List D → Option (Bool × D)} {fo : M R} {fs : M (List R)} {r : V → List V → Hp → VK → Prop} {σ : L2.St} {H : Hp} {Q : VK} (hT : TyA K T isT) (hp : Prim K (rM r) g) (m : RdE K W (bmF isT g fo fs) σ H Q) :
    tBM K T r (RdE K W fo) (RdA K W fs) σ H Q := by
  obtain ⟨B, en, G, m⟩ := m
  refine ⟨B, en, G, ?_⟩
  unfold bmF at m
  cases e1 : fo en with
  | bad => rw [e1] at m; exact m
  | exc x en1 => rw [e1] at m; exact m
  | ok r0 en1 =>
    rw [e1] at m
    dsimp only at m ⊢
    intro v H1 ⟨B1, b1, G1, ra, fn⟩ st1
    cases e2 : rsl en1 r0 with
    | none => rw [e2] at m; exact m.elim
    | some d0 =>
      rw [e2] at m
      dsimp only at m
      cases e3 : isT d0 with
      | false => rw [e3] at m; exact m.elim
      | true =>
        rw [e3] at m
        dsimp only at m
        refine ⟨hT _ _ _ _ e3 (ArgR.arep G1 ra e2), B1, en1, G1, ?_⟩
        cases e4 : fs en1 with
        | bad => rw [e4] at m; exact m
        | exc x en2 => rw [e4] at m; exact fun c od H' ex g st => m c od H' (ex.mono fun a z => Un.mono b1.up z) (g.mono b1.up) (st1.trans st)
        | ok rs en2 =>
          rw [e4] at m
          dsimp only at m ⊢
          intro vs H2 ⟨B2, b2, G2, ra2, fn2⟩ st2
          cases e5 : rsls en2 (r0 :: rs) with
          | none => rw [e5] at m; exact m.elim
          | some ds =>
            rw [e5] at m
            dsimp only at m
            cases e6 : g ds with
            | none => rw [e6] at m; exact m.elim
            | some bd =>
              obtain ⟨b, d⟩ := bd
              rw [e6] at m
              dsimp only at m
              have ra' : ArgRs K B2 σ en2 H2 (r0 :: rs) (v :: vs) := ⟨v, vs, rfl, ArgR.step G1 st2 b2 ra, ra2⟩
              have fin : rM r (v :: vs) H2 Q := hp (Un B2 σ en2) H2 ds (v :: vs) Q b d (fun a => G2.unAt) (ArgRs.arep G2 ra' e5) e6 fun v' H4 x4 h1 h2 => by
                have st4 := ((st1.trans st2).trans (Stp.ext x4))
                have bb := b1.trans st1 b2
                cases b with
                | false => exact m v' H4 ⟨B2, bb, G2.ext0 x4, h1 rfl, trivial⟩ st4
                | true =>
                  obtain ⟨p, ep, np, c⟩ := h2 rfl
                  obtain ⟨o, ho⟩ := c.at
                  have hp0 : H p = none := Classical.byContradiction fun z => (st1.trans st2).al p z np
                  refine m v' H4 ⟨fun x => B2 x ∨ x = p, bb.trans (st1.trans st2) (bxNew np), G2.ext x4 (fun a h => ?_), ⟨p, ep, .inr rfl, Cont.to (fun a o x n => ⟨x, fun q => n (un_or q)⟩) (fun _ x => x) c⟩, ?_⟩ st4
                  · rcases h with h | h
                    · exact .inl h
                    · rw [h, ho]; exact .inr ⟨np, by simp⟩
                  · intro q e
                    rw [ep] at e
                    cases e
                    exact .inl hp0
              obtain ⟨x, xs, ex, q⟩ := fin
              cases ex
              exact q
theorem e_bm {X : Cx} {W : WX} {o e : Expr} {es : List Expr} {fo : M R} {fs : M (List R)} {name : Str} {apos cpos : Pos} {T id : String} {r : V → List V → Hp → VK → Prop} {isT : D → Bool} {g : List D → Option (Bool × D)} (hT : TyA X.K T isT) (hp : Prim X.K (rM r) g) (pa : PlainAttrs T) (slot : Slot T name id) (hty : typeOf (.builtin id) = pure (.type "method_descriptor")) (hm : MtR X id r) (ho : PE X o (RdE X.K W fo)) (ha : PA X (e :: es) (RdA X.K W fs))
    (hbase : attributeBase o name X.env (eval o X.env) = eval o X.env := by rfl)
    (hfew : ((backTo cpos (starEach (e :: es) X.env)).all (fun x => !x.1) && (backToKw cpos (keywordEach [] X.env)).all (fun x => x.1.isSome)
      && decide ((e :: es).length + ([] : List Keyword).length + (if ([] : List Keyword).isEmpty then 0 else 1) < 30)) = true := by rfl)
    (hline : (apos.endLine == cpos.line) = true := by rfl) (hs : starEach (e :: es) X.env = (false, eval e X.env) :: starEach es X.env := by rfl) (hplain : (backTo cpos (starEach es X.env)).any (·.1) = false := by rfl) :
    PE X (.Call (.Attribute o name apos) (e :: es) [] cpos) (RdE X.K W (bmF isT g fo fs)) :=
  pe_imp (pe_bm pa slot hty hm ho ha hbase hfew hline hs hplain) fun σ H Q m => bmImp hT hp m

/-! texts -/
def joinD : List D → Option (Bool × D)
  | [.str a, .lst ds] => match asStrs ds with
    | some ys => if (ys.map (·.length)).sum + ys.length * a.length ≤ 16777216 then some (false, .str (Txt.join a ys)) else none
    | none => none
  | [.str a, .tup ds] => match asStrs ds with
    | some ys => if (ys.map (·.length)).sum + ys.length * a.length ≤ 16777216 then some (false, .str (Txt.join a ys)) else none
    | none => none
  | _ => none
def rJoin (K : PySem.W.Frag) : V → List V → Hp → VK → Prop := fun x xs H Q => ∃ a p, ∃ ys : List Str, x = .str a ∧ xs = [.ref p] ∧ (SqL K H p (ys.map V.str) ∨ SqT K H p (ys.map V.str)) ∧
    (ys.map (·.length)).sum + ys.length * a.length ≤ 16777216 ∧ Q (.str (Txt.join a ys)) H
theorem prim_join {K : PySem.W.Frag} : Prim K (rM (rJoin K)) joinD := by
  intro U H ds vs Q b d hU ar e post
  unfold joinD at e
  split at e
  · rename_i a xs
    obtain ⟨v, w, rfl, h1, h2⟩ := ar2 ar
    cases q : asStrs xs with
    | none => rw [q] at e; cases e
    | some ys =>
      rw [q] at e
      dsimp only at e
      split at e
      · rename_i hl
        cases e
        obtain ⟨p, us, rfl, hp, r⟩ := arLst h2
        rw [asStrs_of q] at r
        rw [arStr h1]
        exact ⟨_, _, rfl, a, p, ys, rfl, rfl, .inl (by rw [← r.strs]; exact SqL.of hp), hl, post _ H (Ext.refl H) (fun _ => repStr) (fun z => by cases z)⟩
      · cases e
  · rename_i a xs
    obtain ⟨v, w, rfl, h1, h2⟩ := ar2 ar
    cases q : asStrs xs with
    | none => rw [q] at e; cases e
    | some ys =>
      rw [q] at e
      dsimp only at e
      split at e
      · rename_i hl
        cases e
        obtain ⟨p, us, rfl, _, hp, r⟩ := arTup h2
        rw [asStrs_of q] at r
        rw [arStr h1]
        exact ⟨_, _, rfl, a, p, ys, rfl, rfl, .inr (by rw [← r.strs]; exact SqT.of hp), hl, post _ H (Ext.refl H) (fun _ => repStr) (fun z => by cases z)⟩
      · cases e
  · cases e
def findD : List D → Option (Bool × D)
  | [.str a, .str b] => some (false, .int (Txt.find a b))
  | [.str a, .str b, .int i] => some (false, .int (Txt.find3 a b i))
  | [.str a, .str b, .int i, .int j] => some (false, .int (Txt.findIn a b i j))
  | _ => none
def rFind : V → List V → Hp → VK → Prop := fun x xs H Q => (∃ a b, x = .str a ∧ xs = [.str b] ∧ Q (.int (Txt.find a b)) H) ∨ (∃ (a b : Str) (i : Int), x = .str a ∧ xs = [.str b, .int i] ∧ Q (.int (Txt.find3 a b i)) H) ∨
  (∃ (a b : Str) (i j : Int), x = .str a ∧ xs = [.str b, .int i, .int j] ∧ Q (.int (Txt.findIn a b i j)) H)
theorem mt_findU {X : Cx} : MtR X "str.find" rFind := MtR.or mt_find (MtR.or mt_find3 mt_find4)
theorem prim_find {K : PySem.W.Frag} : Prim K (rM rFind) findD := by
  intro U H ds vs Q b d hU ar e post
  unfold findD at e
  split at e
  · obtain ⟨v, w, rfl, h1, h2⟩ := ar2 ar
    cases e
    rw [arStr h1, arStr h2]
    exact ⟨_, _, rfl, .inl ⟨_, _, rfl, rfl, post _ H (Ext.refl H) (fun _ => repInt) (fun z => by cases z)⟩⟩
  · obtain ⟨v, w, x, rfl, h1, h2, h3⟩ := ar3 ar
    cases e
    rw [arStr h1, arStr h2, arInt h3]
    exact ⟨_, _, rfl, .inr (.inl ⟨_, _, _, rfl, rfl, post _ H (Ext.refl H) (fun _ => repInt) (fun z => by cases z)⟩)⟩
  · obtain ⟨v, us, rfl, h1, h2⟩ := ar
    obtain ⟨w, x, y, rfl, h2, h3, h4⟩ := ar3 h2
    cases e
    rw [arStr h1, arStr h2, arInt h3, arInt h4]
    exact ⟨_, _, rfl, .inr (.inr ⟨_, _, _, _, rfl, rfl, post _ H (Ext.refl H) (fun _ => repInt) (fun z => by cases z)⟩)⟩
  · cases e
def countD : List D → Option (Bool × D)
  | [.str a, .str b] => some (false, .int (Txt.count a b))
  | _ => none
def rCount : V → List V → Hp → VK → Prop := fun x xs H Q => ∃ a b, x = .str a ∧ xs = [.str b] ∧ Q (.int (Txt.count a b)) H
theorem prim_count {K : PySem.W.Frag} : Prim K (rM rCount) countD := by
  intro U H ds vs Q b d hU ar e post
  unfold countD at e
  split at e
  · obtain ⟨v, w, rfl, h1, h2⟩ := ar2 ar
    cases e
    rw [arStr h1, arStr h2]
    exact ⟨_, _, rfl, _, _, rfl, rfl, post _ H (Ext.refl H) (fun _ => repInt) (fun z => by cases z)⟩
  · cases e
def splitD : List D → Option (Bool × D)
  | [.str a, .str b] => if (b.length == 0) = false ∧ a.length + 2 ≤ sizeLine then some (true, .lst ((Txt.split a b).map .str)) else none
  | _ => none
def rSplit : V → List V → Hp → VK → Prop := fun x xs H Q => ∃ a b, x = .str a ∧ xs = [.str b] ∧ (b.length == 0) = false ∧ a.length + 2 ≤ sizeLine ∧ rNewStrs (Txt.split a b) H Q
theorem prim_split {K : PySem.W.Frag} : Prim K (rM rSplit) splitD := by
  intro U H ds vs Q b d hU ar e post
  unfold splitD at e
  split at e
  · obtain ⟨v, w, rfl, h1, h2⟩ := ar2 ar
    split at e
    · rename_i q
      cases e
      rw [arStr h1, arStr h2]
      exact ⟨_, _, rfl, _, _, rfl, rfl, q.1, q.2, fun p hp => post _ _ (ext_new hp) (fun z => by cases z) (fun _ => newLst hp (RepL.ofStrs _))⟩
    · cases e
  · cases e

/-! ### calls of built-in functions and classes -/
def listD : List D → Option (Bool × D)
  | [.lst ds] => some (true, .lst ds)
  | [.tup ds] => some (true, .lst ds)
  | [.scr ns] => some (true, .lst (ns.map .int))
  | [.dic kvs] => some (true, .lst (kvs.map fun kv => match kv.1 with | .inl i => .int i | .inr s => .str s))
  | _ => none
def keyData : Key → D
  | .inl i => .int i
  | .inr s => .str s
def rListU (K : PySem.W.Frag) : List V → Hp → VK → Prop := fun xs H Q => (∃ p ys, xs = [.ref p] ∧ (SqL K H p ys ∨ SqT K H p ys) ∧ ∀ l, H l = none → Q (.ref l) (upd H l (.lst ys))) ∨ rListD xs H Q
theorem cr_listU {X : Cx} (hc : X.calm = true) : CallR X (.type "list") (rListU X.K) := CallR_or call_list_of (call_list_dK hc)
theorem RepK.keys {K : PySem.W.Frag} {U : Addr → Prop} {H : Hp} : ∀ {ds : List (Key × D)} {vs : List (Key × V)}, RepK K U H ds vs → RepL K U H (ds.map fun kv => match kv.1 with | .inl i => .int i | .inr s => .str s) (vs.map fun kv => kV kv.1)
  | [], vs, h => by
    unfold RepK at h
    rw [h]
    exact RepL.nil
  | (k, d) :: ds, vs, h => by
    unfold RepK at h
    obtain ⟨v, us, rfl, _, r⟩ := h
    refine RepL.cons ?_ (RepK.keys r)
    cases k with
    | inl i => exact repInt
    | inr s => exact repStr
theorem prim_list {K : PySem.W.Frag} : Prim K (rListU K) listD := by
  intro U H ds vs Q b d hU ar e post
  unfold listD at e
  split at e
  · obtain ⟨v, rfl, h1⟩ := ar1 ar
    cases e
    obtain ⟨p, ys, rfl, hp, r⟩ := arLst h1
    exact .inl ⟨p, ys, rfl, .inl (SqL.of hp), fun q hq => post _ _ (ext_new hq) (fun z => by cases z) (fun _ => newLst hq r)⟩
  · obtain ⟨v, rfl, h1⟩ := ar1 ar
    cases e
    obtain ⟨p, ys, rfl, _, hp, r⟩ := arTup h1
    exact .inl ⟨p, ys, rfl, .inr (SqT.of hp), fun q hq => post _ _ (ext_new hq) (fun z => by cases z) (fun _ => newLst hq r)⟩
  · obtain ⟨v, rfl, h1⟩ := ar1 ar
    cases e
    obtain ⟨p, rfl, hp⟩ := arScr h1
    exact .inl ⟨p, _, rfl, .inl hp, fun q hq => post _ _ (ext_new hq) (fun z => by cases z) (fun _ => newLst hq (RepL.ofInts _))⟩
  · obtain ⟨v, rfl, h1⟩ := ar1 ar
    cases e
    obtain ⟨p, ws, rfl, hp, r⟩ := arDic h1
    exact .inr ⟨p, ws, rfl, hp, fun q hq => post _ _ (ext_new hq) (fun z => by cases z) (fun _ => newLst hq r.keys)⟩
  · cases e
def tupleD : List D → Option (Bool × D)
  | [.lst ds] => some (false, .tup ds)
  | [.tup ds] => some (false, .tup ds)
  | _ => none
def rTupleU (K : PySem.W.Frag) : List V → Hp → VK → Prop := fun xs H Q => ∃ p ys, xs = [.ref p] ∧ ((SqL K H p ys ∧ ∀ l, H l = none → Q (.ref l) (upd H l (.tup ys))) ∨ (SqT K H p ys ∧ Q (.ref p) H))
theorem prim_tuple {K : PySem.W.Frag} : Prim K (rTupleU K) tupleD := by
  intro U H ds vs Q b d hU ar e post
  unfold tupleD at e
  split at e
  · obtain ⟨v, rfl, h1⟩ := ar1 ar
    cases e
    obtain ⟨p, ys, rfl, hp, r⟩ := arLst h1
    exact ⟨p, ys, rfl, .inl ⟨SqL.of hp, fun q hq => post _ _ (ext_new hq) (fun _ => newTup hU hq r) (fun z => by cases z)⟩⟩
  · obtain ⟨v, rfl, h1⟩ := ar1 ar
    cases e
    obtain ⟨p, ys, rfl, _, hp, r⟩ := arTup h1
    exact ⟨p, ys, rfl, .inr ⟨SqT.of hp, post _ H (Ext.refl H) (fun _ => h1) (fun z => by cases z)⟩⟩
  · cases e
def intD : List D → Option (Bool × D)
  | [.int i] => some (false, .int i)
  | [.bl k] => some (false, .int (if k then 1 else 0))
  | [.str a] => match PySem.intText? a with
    | some n => if a.length ≤ 640 then some (false, .int n) else none
    | none => none
  | _ => none
def rIntU : List V → Hp → VK → Prop := fun xs H Q => ((∃ i, xs = [.int i] ∧ Q (.int i) H) ∨ ∃ k, xs = [.bl k] ∧ Q (.int (if k then 1 else 0)) H) ∨ ∃ a n, xs = [.str a] ∧ PySem.intText? a = some n ∧ a.length ≤ 640 ∧ Q (.int n) H
theorem cr_intU {X : Cx} : CallR X (.type "int") rIntU := CallR_or call_int1 call_int_str
theorem prim_int {K : PySem.W.Frag} : Prim K rIntU intD := by
  intro U H ds vs Q b d hU ar e post
  unfold intD at e
  split at e
  · obtain ⟨v, rfl, h1⟩ := ar1 ar
    cases e
    rw [arInt h1]
    exact .inl (.inl ⟨_, rfl, post _ H (Ext.refl H) (fun _ => repInt) (fun z => by cases z)⟩)
  · obtain ⟨v, rfl, h1⟩ := ar1 ar
    cases e
    rw [arBl h1]
    exact .inl (.inr ⟨_, rfl, post _ H (Ext.refl H) (fun _ => repInt) (fun z => by cases z)⟩)
  · rename_i a
    obtain ⟨v, rfl, h1⟩ := ar1 ar
    rw [arStr h1]
    cases q : PySem.intText? a with
    | none => rw [q] at e; cases e
    | some n =>
      rw [q] at e
      dsimp only at e
      split at e
      · rename_i hl
        cases e
        exact .inr ⟨a, n, rfl, q, hl, post _ H (Ext.refl H) (fun _ => repInt) (fun z => by cases z)⟩
      · cases e
  · cases e
def strD : List D → Option (Bool × D)
  | [.int i] => if i.natAbs.log2 < 1920 then some (false, .str (toString i)) else none
  | _ => none
def rStrI : List V → Hp → VK → Prop := fun xs H Q => ∃ i, xs = [.int i] ∧ i.natAbs.log2 < 1920 ∧ Q (.str (toString i)) H
theorem prim_str {K : PySem.W.Frag} : Prim K rStrI strD := by
  intro U H ds vs Q b d hU ar e post
  unfold strD at e
  split at e
  · obtain ⟨v, rfl, h1⟩ := ar1 ar
    split at e
    · rename_i q
      cases e
      rw [arInt h1]
      exact ⟨_, rfl, q, post _ H (Ext.refl H) (fun _ => repStr) (fun z => by cases z)⟩
    · cases e
  · cases e
def maxI (i j : Int) : Int := if j > i then j else i
def minI (i j : Int) : Int := if j < i then j else i
def max2D : List D → Option (Bool × D)
  | [.int i, .int j] => some (false, .int (maxI i j))
  | _ => none
def min2D : List D → Option (Bool × D)
  | [.int i, .int j] => some (false, .int (minI i j))
  | _ => none
def rMx2 : List V → Hp → VK → Prop := fun xs H Q => ∃ i j, xs = [.int i, .int j] ∧ Q (.int (if j > i then j else i)) H
def rMn2 : List V → Hp → VK → Prop := fun xs H Q => ∃ i j, xs = [.int i, .int j] ∧ Q (.int (if j < i then j else i)) H
theorem prim_max2 {K : PySem.W.Frag} : Prim K rMx2 max2D := by
  intro U H ds vs Q b d hU ar e post
  unfold max2D at e
  split at e
  · obtain ⟨v, w, rfl, h1, h2⟩ := ar2 ar
    cases e
    rw [arInt h1, arInt h2]
    exact ⟨_, _, rfl, post _ H (Ext.refl H) (fun _ => repInt) (fun z => by cases z)⟩
  · cases e
theorem prim_min2 {K : PySem.W.Frag} : Prim K rMn2 min2D := by
  intro U H ds vs Q b d hU ar e post
  unfold min2D at e
  split at e
  · obtain ⟨v, w, rfl, h1, h2⟩ := ar2 ar
    cases e
    rw [arInt h1, arInt h2]
    exact ⟨_, _, rfl, post _ H (Ext.refl H) (fun _ => repInt) (fun z => by cases z)⟩
  · cases e
def sumD : List D → Option (Bool × D)
  | [.lst ds] => (asInts ds).map fun ns => (false, .int ns.sum)
  | [.scr ns] => some (false, .int ns.sum)
  | _ => none
theorem prim_sum {K : PySem.W.Frag} : Prim K (rSum K) sumD := by
  intro U H ds vs Q b d hU ar e post
  unfold sumD at e
  split at e
  · rename_i xs
    obtain ⟨v, rfl, h1⟩ := ar1 ar
    obtain ⟨p, ys, rfl, hp, r⟩ := arLst h1
    cases q : asInts xs with
    | none => rw [q] at e; cases e
    | some ns =>
      rw [q] at e
      cases e
      rw [asInts_of q] at r
      exact ⟨p, ns, rfl, by rw [← r.ints]; exact SqL.of hp, post _ H (Ext.refl H) (fun _ => repInt) (fun z => by cases z)⟩
  · obtain ⟨v, rfl, h1⟩ := ar1 ar
    cases e
    obtain ⟨p, rfl, hp⟩ := arScr h1
    exact ⟨p, _, rfl, hp, post _ H (Ext.refl H) (fun _ => repInt) (fun z => by cases z)⟩
  · cases e
def allD : List D → Option (Bool × D)
  | [.lst ds] => (asBls ds).map fun ns => (false, .bl (ns.all id))
  | _ => none
def anyD : List D → Option (Bool × D)
  | [.lst ds] => (asBls ds).map fun ns => (false, .bl (ns.any id))
  | _ => none
theorem prim_all {K : PySem.W.Frag} : Prim K (rAll K) allD := by
  intro U H ds vs Q b d hU ar e post
  unfold allD at e
  split at e
  · rename_i xs
    obtain ⟨v, rfl, h1⟩ := ar1 ar
    obtain ⟨p, ys, rfl, hp, r⟩ := arLst h1
    cases q : asBls xs with
    | none => rw [q] at e; cases e
    | some ns =>
      rw [q] at e
      cases e
      rw [asBls_of q] at r
      exact ⟨p, ns, rfl, by rw [← r.bls]; exact SqL.of hp, post _ H (Ext.refl H) (fun _ => repBl) (fun z => by cases z)⟩
  · cases e
theorem prim_any {K : PySem.W.Frag} : Prim K (rAny K) anyD := by
  intro U H ds vs Q b d hU ar e post
  unfold anyD at e
  split at e
  · rename_i xs
    obtain ⟨v, rfl, h1⟩ := ar1 ar
    obtain ⟨p, ys, rfl, hp, r⟩ := arLst h1
    cases q : asBls xs with
    | none => rw [q] at e; cases e
    | some ns =>
      rw [q] at e
      cases e
      rw [asBls_of q] at r
      exact ⟨p, ns, rfl, by rw [← r.bls]; exact SqL.of hp, post _ H (Ext.refl H) (fun _ => repBl) (fun z => by cases z)⟩
  · cases e
end PyD

namespace PyD
open PySem PySem.Spec L2

/-! ### what is walked -/
/-- the items of what the arguments tell -/
def itA (h : List D → Option (List D)) (fs : M (List R)) : M (List D) := fun en => match fs en with
  | .ok rs en1 => (match stos rs with
    | some ds => (match h ds with
      | some out => .ok out en1
      | none => .bad)
    | none => .bad)
  | .exc x en1 => .exc x en1
  | .bad => .bad
def PrimI (K : PySem.W.Frag) (r : List V → Hp → (It → Hp → Prop) → Prop) (h : List D → Option (List D)) : Prop :=
  ∀ (U : Addr → Prop) (H : Hp) (ds : List D) (vs : List V) (out : List D) (Rr : It → Hp → Prop), (∀ a, U a → H a ≠ none) → RepL K U H ds vs → h ds = some out → (∀ J, WalkD K U H J out → Rr J H) → r vs H Rr
section
variable {K : PySem.W.Frag} {W : WX} {B B' B1 : Addr → Prop} {U U' : Addr → Prop} {H H' H1 : Hp} {σ σ' σ1 : L2.St} {en en' en1 : En} {d : D} {v : V} {i : Nat} {p : Addr} {ds : List D} {fs : M (List R)}
theorem itAImp {r : List V → Hp → (It → Hp → Prop) → Prop} {h : List D → Option (List D)} {Rr : It → Hp → Prop} (hp : PrimI K r h) (m : RdI K W (itA h fs) σ H Rr) : RdA K W fs σ H fun vs H1 => r vs H1 Rr := by
  obtain ⟨B, en, G, m⟩ := m
  refine ⟨B, en, G, ?_⟩
  unfold itA at m
  cases e1 : fs en with
  | bad => rw [e1] at m; exact m
  | exc x en1 => rw [e1] at m; exact m
  | ok rs en1 =>
    rw [e1] at m
    dsimp only at m ⊢
    intro vs H1 ⟨B1, b1, G1, a1, n1⟩ st1
    cases e2 : stos rs with
    | none => rw [e2] at m; exact m.elim
    | some ds =>
      rw [e2] at m
      dsimp only at m
      cases e3 : h ds with
      | none => rw [e3] at m; exact m.elim
      | some out =>
        rw [e3] at m
        dsimp only at m
        have rl := stos_rep b1 G G1 a1 n1 e2
        have G2 : Good K B H1 σ en1 := G1.mono b1.up
        exact hp _ H1 ds vs out Rr (fun a q => G2.unAt q) rl e3 fun J w => m J H1 B (Bx.refl B σ en H) G2 st1 w
/-- a list's items -/
theorem kp_at (k : Kp U H H1) {a : Addr} {o : HO} (e : H a = some o) (n : ¬ U a) : H1 a = some o := k a o e n
theorem wd_rep (k : Kp U H H1) {d : D} {v : V} (r : Rep K U H d v) {U1 : Addr → Prop} (h1 : ∀ a o, H a = some o → ¬ U a → ¬ U1 a) : Rep K U1 H1 d v :=
  Rep.to (fun a o e n => ⟨k a o e n, h1 a o e n⟩) d v r
theorem wd_list {a : Addr} {vs : List V} (q : ∀ H1, Kp U H H1 → SqL K H1 a vs) (r : RepL K U H ds vs) : WalkD K U H (Itl K a) ds where
  go := fun i H1 k hi => by
    have hl := r.len
    exact ⟨vs, vs[i], q H1 k, by simp [hl, hi]⟩
  stop := fun H1 k => ⟨vs, q H1 k, by rw [r.len]; exact Nat.le_refl _⟩
  yld := fun i H1 x H2 d k e y => by
    obtain ⟨z, y⟩ := y
    subst z
    obtain ⟨v, ev, rv⟩ := r.get e
    have := y vs (q _ k)
    rw [ev] at this
    cases this
    exact ⟨Ext.refl _, fun U1 h1 h2 => wd_rep k rv h1⟩
theorem wd_tup {a : Addr} {vs : List V} (q : ∀ H1, Kp U H H1 → SqT K H1 a vs) (r : RepL K U H ds vs) : WalkD K U H (Itt K a) ds where
  go := fun i H1 k hi => by
    have hl := r.len
    exact ⟨vs, vs[i], q H1 k, by simp [hl, hi]⟩
  stop := fun H1 k => ⟨vs, q H1 k, by rw [r.len]; exact Nat.le_refl _⟩
  yld := fun i H1 x H2 d k e y => by
    obtain ⟨z, y⟩ := y
    subst z
    obtain ⟨v, ev, rv⟩ := r.get e
    have := y vs (q _ k)
    rw [ev] at this
    cases this
    exact ⟨Ext.refl _, fun U1 h1 h2 => wd_rep k rv h1⟩
theorem wd_rev {a : Addr} {vs : List V} (q : ∀ H1, Kp U H H1 → SqL K H1 a vs) (r : RepL K U H ds vs) : WalkD K U H (Itv K a vs.length) ds.reverse where
  go := fun i H1 k hi => by
    have hl := r.len
    have hi' : i < vs.length := by rw [hl]; simpa using hi
    exact ⟨hi', vs, vs[vs.length - 1 - i], q H1 k, by rw [List.getElem?_eq_getElem]⟩
  stop := fun H1 k => by
    show vs.length ≤ _
    rw [r.len]; simp
  yld := fun i H1 x H2 d k e y => by
    obtain ⟨z, y⟩ := y
    subst z
    have hl := r.len
    have hi : i < ds.length := by
      have := get_lt e
      simpa using this
    have e' : ds[vs.length - 1 - i]? = some d := by
      rw [List.getElem?_reverse hi] at e
      rw [hl]; exact e
    obtain ⟨v, ev, rv⟩ := r.get e'
    have := y vs (q _ k)
    rw [ev] at this
    cases this
    exact ⟨Ext.refl _, fun U1 h1 h2 => wd_rep k rv h1⟩
theorem wd_revT {a : Addr} {vs : List V} (q : ∀ H1, Kp U H H1 → SqT K H1 a vs) (r : RepL K U H ds vs) : WalkD K U H (RT.ItvT K a vs.length) ds.reverse where
  go := fun i H1 k hi => by
    have hl := r.len
    have hi' : i < vs.length := by rw [hl]; simpa using hi
    exact ⟨hi', vs, vs[vs.length - 1 - i], q H1 k, by rw [List.getElem?_eq_getElem]⟩
  stop := fun H1 k => by
    show vs.length ≤ _
    rw [r.len]; simp
  yld := fun i H1 x H2 d k e y => by
    obtain ⟨z, y⟩ := y
    subst z
    have hl := r.len
    have hi : i < ds.length := by
      have := get_lt e
      simpa using this
    have e' : ds[vs.length - 1 - i]? = some d := by
      rw [List.getElem?_reverse hi] at e
      rw [hl]; exact e
    obtain ⟨v, ev, rv⟩ := r.get e'
    have := y vs (q _ k)
    rw [ev] at this
    cases this
    exact ⟨Ext.refl _, fun U1 h1 h2 => wd_rep k rv h1⟩
/-- c, c + k, .. -/
def stepL (lo c : Int) (n : Nat) : List D := (List.range n).map fun i : Nat => D.int (lo + (i : Int) * c)
def upL (lo : Int) (n : Nat) : List D := (List.range n).map fun i : Nat => D.int (lo + (i : Int))
theorem wd_up {lo : Int} {n : Nat} : WalkD K U H (Itr lo n) (upL lo n) where
  go := fun i H1 k hi => by
    show i < n
    simpa [upL] using hi
  stop := fun H1 k => by show n ≤ _; simp [upL]
  yld := fun i H1 x H2 d k e y => by
    obtain ⟨z, y⟩ := y
    subst z y
    obtain ⟨j, hj, e⟩ : ∃ j, (List.range n)[i]? = some j ∧ D.int (lo + (j : Int)) = d := by simpa [upL] using e
    obtain ⟨_, rfl⟩ := List.getElem?_eq_some_iff.mp hj
    subst e
    exact ⟨Ext.refl _, fun U1 h1 h2 => by simp [Rep]⟩
theorem wd_step {lo c : Int} {n : Nat} : WalkD K U H (Itc lo c n) (stepL lo c n) where
  go := fun i H1 k hi => by
    show i < n
    simpa [stepL] using hi
  stop := fun H1 k => by show n ≤ _; simp [stepL]
  yld := fun i H1 x H2 d k e y => by
    obtain ⟨z, y⟩ := y
    subst z y
    obtain ⟨j, hj, e⟩ : ∃ j, (List.range n)[i]? = some j ∧ D.int (lo + (j : Int) * c) = d := by simpa [stepL] using e
    obtain ⟨_, rfl⟩ := List.getElem?_eq_some_iff.mp hj
    subst e
    exact ⟨Ext.refl _, fun U1 h1 h2 => by simp [Rep]⟩
def sgnL (z : Str) : List D := z.cps.toList.map fun c => D.str ⟨#[c]⟩
theorem wd_str {z : Str} : WalkD K U H (Its z) (sgnL z) where
  go := fun i H1 k hi => by
    show i < z.cps.size
    simpa [sgnL] using hi
  stop := fun H1 k => by show z.cps.size ≤ _; simp [sgnL]
  yld := fun i H1 x H2 d k e y => by
    obtain ⟨q, c, y, z⟩ := y
    subst q z
    rw [sgnL, List.getElem?_map, Array.getElem?_toList, y] at e
    cases e
    exact ⟨Ext.refl _, fun U1 h1 h2 => by simp [Rep]⟩
theorem pair_rep {T : Addr} {x y : V} {a b : D} (hT : H1 T = none) {U1 : Addr → Prop} (h2 : ∀ a, U1 a → H1 a ≠ none) (ra : Rep K U1 H1 a x) (rb : Rep K U1 H1 b y) : Rep K U1 (upd H1 T (.tup [x, y])) (.tup [a, b]) (.ref T) :=
  newTup h2 hT (RepL.cons ra (RepL.cons rb RepL.nil))
def enumL (ds : List D) : List D := (List.range ds.length).map fun i => D.tup [.int (i : Nat), ds.getD i .non]
theorem enumL_get {i : Nat} (e : (enumL ds)[i]? = some d) : ∃ x, ds[i]? = some x ∧ d = .tup [.int (i : Nat), x] := by
  obtain ⟨j, hj, e⟩ : ∃ j, (List.range ds.length)[i]? = some j ∧ D.tup [.int (j : Int), ds.getD j .non] = d := by simpa [enumL] using e
  obtain ⟨hl, rfl⟩ := List.getElem?_eq_some_iff.mp hj
  have hi : i < ds.length := by simpa using hl
  refine ⟨ds[i], by simp [hi], ?_⟩
  subst e
  simp [hi]
theorem wd_enum {a : Addr} {vs : List V} (q : ∀ H1, Kp U H H1 → SqL K H1 a vs) (r : RepL K U H ds vs) : WalkD K U H (Ite K a) (enumL ds) where
  go := fun i H1 k hi => by
    have hl := r.len
    have hi' : i < ds.length := by simpa [enumL] using hi
    exact ⟨vs, vs[i], q H1 k, by simp [hl, hi']⟩
  stop := fun H1 k => ⟨vs, q H1 k, by rw [r.len]; simp [enumL]⟩
  yld := fun i H1 x H2 d k e y => by
    obtain ⟨T, x0, rfl, hT, rfl, y⟩ := y
    obtain ⟨d0, e0, rfl⟩ := enumL_get e
    obtain ⟨v, ev, rv⟩ := r.get e0
    have := y vs (q _ k)
    rw [ev] at this
    cases this
    exact ⟨ext_new hT, fun U1 h1 h2 => pair_rep hT h2 repInt (wd_rep k rv h1)⟩
def zipL (as bs : List D) : List D := (as.zip bs).map fun p => D.tup [p.1, p.2]
theorem zipL_get {as bs : List D} {i : Nat} (e : (zipL as bs)[i]? = some d) : ∃ x y, as[i]? = some x ∧ bs[i]? = some y ∧ d = .tup [x, y] := by
  rw [zipL, List.getElem?_map] at e
  cases h : (as.zip bs)[i]? with
  | none => rw [h] at e; cases e
  | some p =>
    rw [h] at e
    cases e
    obtain ⟨h1, h2⟩ := List.getElem?_zip_eq_some.mp h
    exact ⟨_, _, h1, h2, rfl⟩
theorem wd_zip {a b : Addr} {as bs : List D} {vs us : List V} (q : ∀ H1, Kp U H H1 → SqL K H1 a vs) (q' : ∀ H1, Kp U H H1 → SqL K H1 b us) (r : RepL K U H as vs) (r' : RepL K U H bs us) : WalkD K U H (Itz K a b) (zipL as bs) where
  go := fun i H1 k hi => by
    have hl := r.len
    have hl' := r'.len
    have hi' : i < as.length ∧ i < bs.length := by simp [zipL] at hi; omega
    exact ⟨vs, us, vs[i], us[i], q H1 k, q' H1 k, by simp [hl, hi'.1], by simp [hl', hi'.2]⟩
  stop := fun H1 k => ⟨vs, us, q H1 k, q' H1 k, by rw [r.len, r'.len]; simp [zipL]; omega⟩
  yld := fun i H1 x H2 d k e y => by
    obtain ⟨T, x0, y0, rfl, hT, rfl, y, y'⟩ := y
    obtain ⟨d0, d1, e0, e1, rfl⟩ := zipL_get e
    obtain ⟨v, ev, rv⟩ := r.get e0
    obtain ⟨v', ev', rv'⟩ := r'.get e1
    have h := y vs (q _ k)
    rw [ev] at h
    cases h
    have h := y' us (q' _ k)
    rw [ev'] at h
    cases h
    exact ⟨ext_new hT, fun U1 h1 h2 => pair_rep hT h2 (wd_rep k rv h1) (wd_rep k rv' h1)⟩
theorem wd_zipT {a b : Addr} {as bs : List D} {vs us : List V} (q : ∀ H1, Kp U H H1 → SqT K H1 a vs) (q' : ∀ H1, Kp U H H1 → SqT K H1 b us) (r : RepL K U H as vs) (r' : RepL K U H bs us) : WalkD K U H (RZ.ItzT K a b) (zipL as bs) where
  go := fun i H1 k hi => by
    have hl := r.len
    have hl' := r'.len
    have hi' : i < as.length ∧ i < bs.length := by simp [zipL] at hi; omega
    exact ⟨vs, us, vs[i], us[i], q H1 k, q' H1 k, by simp [hl, hi'.1], by simp [hl', hi'.2]⟩
  stop := fun H1 k => ⟨vs, us, q H1 k, q' H1 k, by rw [r.len, r'.len]; simp [zipL]; omega⟩
  yld := fun i H1 x H2 d k e y => by
    obtain ⟨T, x0, y0, rfl, hT, rfl, y, y'⟩ := y
    obtain ⟨d0, d1, e0, e1, rfl⟩ := zipL_get e
    obtain ⟨v, ev, rv⟩ := r.get e0
    obtain ⟨v', ev', rv'⟩ := r'.get e1
    have h := y vs (q _ k)
    rw [ev] at h
    cases h
    have h := y' us (q' _ k)
    rw [ev'] at h
    cases h
    exact ⟨ext_new hT, fun U1 h1 h2 => pair_rep hT h2 (wd_rep k rv h1) (wd_rep k rv' h1)⟩
end

/-! ### rules -/
def itemsD : D → Option (List D)
  | .lst ds => some ds
  | .tup ds => some ds
  | .scr ns => some (ns.map .int)
  | .str s => some (sgnL s)
  | _ => none
def itD : List D → Option (List D)
  | [d] => itemsD d
  | _ => none
def rItU (K : PySem.W.Frag) : List V → Hp → (It → Hp → Prop) → Prop := fun vs H Rr => (∃ a, vs = [.ref a] ∧ (∃ xs, SqL K H a xs) ∧ Rr (Itl K a) H) ∨ (∃ a, vs = [.ref a] ∧ (∃ xs, SqT K H a xs) ∧ Rr (Itt K a) H) ∨ ∃ x, vs = [.str x] ∧ Rr (Its x) H
theorem rl1 {K : PySem.W.Frag} {U : Addr → Prop} {H : Hp} {a : D} {vs : List V} (h : RepL K U H [a] vs) : ∃ v, vs = [v] ∧ Rep K U H a v := by
  obtain ⟨v, us, e, r, s⟩ := h.inv
  rw [s.nil_inv] at e
  exact ⟨v, e, r⟩
theorem rl2 {K : PySem.W.Frag} {U : Addr → Prop} {H : Hp} {a b : D} {vs : List V} (h : RepL K U H [a, b] vs) : ∃ v w, vs = [v, w] ∧ Rep K U H a v ∧ Rep K U H b w := by
  obtain ⟨v, us, e, r, s⟩ := h.inv
  obtain ⟨w, rfl, r2⟩ := rl1 s
  exact ⟨v, w, e, r, r2⟩
theorem rl3 {K : PySem.W.Frag} {U : Addr → Prop} {H : Hp} {a b c : D} {vs : List V} (h : RepL K U H [a, b, c] vs) : ∃ v w x, vs = [v, w, x] ∧ Rep K U H a v ∧ Rep K U H b w ∧ Rep K U H c x := by
  obtain ⟨v, us, e, r, s⟩ := h.inv
  obtain ⟨w, x, rfl, r2, r3⟩ := rl2 s
  exact ⟨v, w, x, e, r, r2, r3⟩
theorem scr_sq {K : PySem.W.Frag} {U : Addr → Prop} {H : Hp} {ns : List Int} {v : V} (h : Rep K U H (.scr ns) v) : ∃ p, v = .ref p ∧ ∀ H1, Kp U H H1 → SqL K H1 p (ns.map V.int) := by
  unfold Rep at h
  obtain ⟨p, e, c⟩ := h
  refine ⟨p, e, fun H1 k => ?_⟩
  rcases c with ⟨n, o, c⟩ | c
  · exact .inl (.inr ⟨o, k p _ c n⟩)
  · exact .inr c
theorem Kp.refl (U : Addr → Prop) (H : Hp) : Kp U H H := fun _ _ h _ => h
theorem prim_itU {K : PySem.W.Frag} : PrimI K (rItU K) itD := by
  intro U H ds vs out Rr hU rl e q
  unfold itD at e
  split at e
  · unfold itemsD at e
    split at e
    · obtain ⟨v, rfl, r⟩ := rl1 rl
      unfold Rep at r
      obtain ⟨a, us, rfl, nu, ha, r⟩ := r
      cases e
      exact .inl ⟨a, rfl, ⟨us, SqL.of ha⟩, q _ (wd_list (fun H1 k => SqL.of (k a _ ha nu)) r)⟩
    · obtain ⟨v, rfl, r⟩ := rl1 rl
      unfold Rep at r
      obtain ⟨a, us, rfl, nu, ha, r⟩ := r
      cases e
      exact .inr (.inl ⟨a, rfl, ⟨us, SqT.of ha⟩, q _ (wd_tup (fun H1 k => SqT.of (k a _ ha nu)) r)⟩)
    · obtain ⟨v, rfl, r⟩ := rl1 rl
      obtain ⟨p, rfl, s⟩ := scr_sq r
      cases e
      exact .inl ⟨p, rfl, ⟨_, s H (Kp.refl U H)⟩, q _ (wd_list s (RepL.ofInts _))⟩
    · obtain ⟨v, rfl, r⟩ := rl1 rl
      unfold Rep at r
      subst r
      cases e
      exact .inr (.inr ⟨_, rfl, q _ wd_str⟩)
    · cases e
  · cases e
section
variable {X : Cx} {W : WX} {tg e a b c : Expr} {pos p : Pos} {f : M R} {fs : M (List R)}
theorem pi_U {te : TE} (he : PE X e te) : PI X tg e (fun σ H Rr => te σ H fun x H1 => rItU X.K [x] H1 Rr) := by
  refine ⟨fun pins s σ H R I h => ?_⟩
  refine thn (he.run pins s σ H _ I h) fun v s1 ⟨x, H1, I1, r1, q1⟩ => ?_
  rcases q1 with ⟨a, ex, ⟨xs, hq⟩, q⟩ | ⟨a, ex, ⟨xs, hq⟩, q⟩ | ⟨z, ex, q⟩
  · obtain rfl : x = .ref a := by simpa using ex
    cases r1
    obtain ⟨its, rv, p, hz⟩ := I1.list hq
    refine wpAny_pyIter_list p.isList ?_
    exact pi_one (tk := s1.toks) I1 _ (turn_list a _) ⟨_, Heap.get?_push_size _ rfl, rfl, rfl⟩ q
  · obtain rfl : x = .ref a := by simpa using ex
    cases r1
    obtain ⟨its, rv, p, hz⟩ := I1.tuple hq
    refine wpAny_pyIter_tuple (show s1.heap.IsTuple a its.toArray from p) ?_
    exact pi_one (tk := s1.toks) I1 _ (turn_tuple a _) ⟨_, Heap.get?_push_size _ rfl, rfl, rfl⟩ q
  · obtain rfl : x = .str z := by simpa using ex
    obtain ⟨t, rfl⟩ := r1
    cases ha : z.cps.all (· < 128)
    · exact wpAny_pyIter_wide ha (pi_one (tk := s1.toks) I1 _ (turn_str _ z t "str_iterator" (.inr rfl)) ⟨_, Heap.get?_push_size _ rfl, rfl, rfl⟩ q)
    · exact wpAny_pyIter_ascii ha (pi_one (tk := s1.toks) I1 _ (turn_str _ z t "str_ascii_iterator" (.inl rfl)) ⟨_, Heap.get?_push_size _ rfl, rfl, rfl⟩ q)
/-- for .. in e, e a list, a tuple, a text, the script -/
theorem i_seq (he : PE X e (RdE X.K W f)) : PI X tg e (RdI X.K W (itA itD (one f))) := pi_imp (pi_U he) fun σ H Rr m => imp1 (itAImp prim_itU m)
def rg1D : List D → Option (List D)
  | [.int j] => if -(2 ^ 62) ≤ j ∧ j < 2 ^ 62 then some (upL 0 j.toNat) else none
  | _ => none
def rg2D : List D → Option (List D)
  | [.int i, .int j] => if -(2 ^ 62) ≤ i ∧ i < 2 ^ 62 ∧ -(2 ^ 62) ≤ j ∧ j < 2 ^ 62 then some (upL i (j - i).toNat) else none
  | _ => none
def rRg1 : List V → Hp → (It → Hp → Prop) → Prop := fun vs H1 R => ∃ j : Int, vs = [.int j] ∧ -(2 ^ 62) ≤ j ∧ j < 2 ^ 62 ∧ R (Itr 0 j.toNat) H1
def rRg2 : List V → Hp → (It → Hp → Prop) → Prop := fun vs H1 R => ∃ i j : Int, vs = [.int i, .int j] ∧ (-(2 ^ 62) ≤ i ∧ i < 2 ^ 62 ∧ -(2 ^ 62) ≤ j ∧ j < 2 ^ 62) ∧ R (Itr i (j - i).toNat) H1
theorem prim_rg1 {K : PySem.W.Frag} : PrimI K rRg1 rg1D := by
  intro U H ds vs out Rr hU rl e q
  unfold rg1D at e
  split at e
  · obtain ⟨v, rfl, r⟩ := rl1 rl
    unfold Rep at r
    subst r
    split at e
    · rename_i h
      cases e
      exact ⟨_, rfl, h.1, h.2, q _ wd_up⟩
    · cases e
  · cases e
theorem prim_rg2 {K : PySem.W.Frag} : PrimI K rRg2 rg2D := by
  intro U H ds vs out Rr hU rl e q
  unfold rg2D at e
  split at e
  · obtain ⟨v, w, rfl, r, r'⟩ := rl2 rl
    unfold Rep at r r'
    subst r r'
    split at e
    · rename_i h
      cases e
      exact ⟨_, _, rfl, h, q _ wd_up⟩
    · cases e
  · cases e
theorem i_rg1 (hg : Gl X "range") (hm : X.mg "range" = none) (ha : PA X [a] (RdA X.K W fs)) (hs : starEach [a] X.env = [(false, eval a X.env)] := by rfl) : PI X tg (.Call (.Name "range" p) [a] [] pos) (RdI X.K W (itA rg1D fs)) :=
  pi_imp (pi_range1 hg hm ha hs) fun σ H Rr m => itAImp prim_rg1 m
theorem i_rg2 (hg : Gl X "range") (hm : X.mg "range" = none) (ha : PA X [a, b] (RdA X.K W fs)) (hs : starEach [a, b] X.env = [(false, eval a X.env), (false, eval b X.env)] := by rfl) (hs2 : starEach [b] X.env = [(false, eval b X.env)] := by rfl) :
    PI X tg (.Call (.Name "range" p) [a, b] [] pos) (RdI X.K W (itA rg2D fs)) :=
  pi_imp (pi_range2 hg hm ha hs hs2) fun σ H Rr m => itAImp prim_rg2 m
/-- range(i, j, -1) -/
def rg3D : List D → Option (List D)
  | [.int i, .int j, .int k] => if -(2 ^ 62) ≤ i ∧ i < 2 ^ 62 ∧ -(2 ^ 62) ≤ j ∧ j < 2 ^ 62 ∧ k = -1 then some (stepL i (-1) (i - j).toNat) else none
  | _ => none
def rRg3 : List V → Hp → (It → Hp → Prop) → Prop := fun vs H1 R => ∃ (i j c : Int) (n : Nat), vs = [.int i, .int j, .int c] ∧ RgC i j c n ∧ R (Itc i c n) H1
theorem prim_rg3 {K : PySem.W.Frag} : PrimI K rRg3 rg3D := by
  intro U H ds vs out Rr hU rl e q
  unfold rg3D at e
  split at e
  · obtain ⟨v, w, x, rfl, r, r', r''⟩ := rl3 rl
    unfold Rep at r r' r''
    subst r r' r''
    split at e
    · rename_i h
      cases e
      obtain ⟨h1, h2, h3, h4, rfl⟩ := h
      exact ⟨_, _, -1, _, rfl, RgC.neg h1 h2 h3 h4, q _ wd_step⟩
    · cases e
  · cases e
theorem i_rg3 (hg : Gl X "range") (hm : X.mg "range" = none) (ha : PA X [a, b, c] (RdA X.K W fs)) (hs : starEach [a, b, c] X.env = (false, eval a X.env) :: starEach [b, c] X.env := by rfl) (hpl : (backTo pos (starEach [b, c] X.env)).any (·.1) = false := by rfl) :
    PI X tg (.Call (.Name "range" p) [a, b, c] [] pos) (RdI X.K W (itA rg3D fs)) :=
  pi_imp (pi_range3 hg hm ha hs hpl) fun σ H Rr m => itAImp prim_rg3 m
def enumD : List D → Option (List D)
  | [.lst ds] => some (enumL ds)
  | [.scr ns] => some (enumL (ns.map .int))
  | _ => none
def rEnum (K : PySem.W.Frag) : List V → Hp → (It → Hp → Prop) → Prop := fun vs H1 R => ∃ a xs, vs = [.ref a] ∧ SqL K H1 a xs ∧ R (Ite K a) H1
theorem prim_enum {K : PySem.W.Frag} : PrimI K (rEnum K) enumD := by
  intro U H ds vs out Rr hU rl e q
  unfold enumD at e
  split at e
  · obtain ⟨v, rfl, r⟩ := rl1 rl
    unfold Rep at r
    obtain ⟨a, us, rfl, nu, ha, r⟩ := r
    cases e
    exact ⟨a, us, rfl, SqL.of ha, q _ (wd_enum (fun H1 k => SqL.of (k a _ ha nu)) r)⟩
  · obtain ⟨v, rfl, r⟩ := rl1 rl
    obtain ⟨p, rfl, s⟩ := scr_sq r
    cases e
    exact ⟨p, _, rfl, s H (Kp.refl U H), q _ (wd_enum s (RepL.ofInts _))⟩
  · cases e
variable {elts : List Expr} {kk : Nat} {tpos : Pos}
theorem i_enum (hg : Gl X "enumerate") (hm : X.mg "enumerate" = none) (ha : PA X [e] (RdA X.K W fs)) (hs : starEach [e] X.env = [(false, eval e X.env)] := by rfl) :
    PI X (.Tuple elts kk tpos) (.Call (.Name "enumerate" p) [e] [] pos) (RdI X.K W (itA enumD fs)) :=
  pi_imp (pi_enum hg hm ha hs) fun σ H Rr m => itAImp prim_enum m
def zipD : List D → Option (List D)
  | [.lst as, .lst bs] => some (zipL as bs)
  | [.tup as, .tup bs] => some (zipL as bs)
  | _ => none
def rZip (K : PySem.W.Frag) : List V → Hp → (It → Hp → Prop) → Prop := fun vs H1 R => ∃ a b xs ys, vs = [.ref a, .ref b] ∧ ((SqL K H1 a xs ∧ SqL K H1 b ys ∧ R (Itz K a b) H1) ∨ (SqT K H1 a xs ∧ SqT K H1 b ys ∧ R (RZ.ItzT K a b) H1))
theorem prim_zip {K : PySem.W.Frag} : PrimI K (rZip K) zipD := by
  intro U H ds vs out Rr hU rl e q
  unfold zipD at e
  split at e
  · obtain ⟨v, w, rfl, r, r'⟩ := rl2 rl
    unfold Rep at r r'
    obtain ⟨a, us, rfl, nu, ha, r⟩ := r
    obtain ⟨b, us', rfl, nu', hb, r'⟩ := r'
    cases e
    exact ⟨a, b, us, us', rfl, .inl ⟨SqL.of ha, SqL.of hb, q _ (wd_zip (fun H1 k => SqL.of (k a _ ha nu)) (fun H1 k => SqL.of (k b _ hb nu')) r r')⟩⟩
  · obtain ⟨v, w, rfl, r, r'⟩ := rl2 rl
    unfold Rep at r r'
    obtain ⟨a, us, rfl, nu, ha, r⟩ := r
    obtain ⟨b, us', rfl, nu', hb, r'⟩ := r'
    cases e
    exact ⟨a, b, us, us', rfl, .inr ⟨SqT.of ha, SqT.of hb, q _ (wd_zipT (fun H1 k => SqT.of (k a _ ha nu)) (fun H1 k => SqT.of (k b _ hb nu')) r r')⟩⟩
  · cases e
theorem i_zip {e2 : Expr} (hg : Gl X "zip") (hm : X.mg "zip" = none) (ha : PA X [e, e2] (RdA X.K W fs)) (hs : starEach [e, e2] X.env = (false, eval e X.env) :: starEach [e2] X.env := by rfl) (hpl : (backTo pos (starEach [e2] X.env)).any (·.1) = false := by rfl) :
    PI X (.Tuple elts kk tpos) (.Call (.Name "zip" p) [e, e2] [] pos) (RdI X.K W (itA zipD fs)) :=
  pi_imp (RZ.pi_zipA hg hm ha hs hpl) fun σ H Rr m => itAImp prim_zip m
def revItD : List D → Option (List D)
  | [.lst ds] => some ds.reverse
  | [.tup ds] => some ds.reverse
  | _ => none
def rRevA (K : PySem.W.Frag) : List V → Hp → (It → Hp → Prop) → Prop := fun vs H1 R => ∃ (a : Addr) (xs : List V), vs = [.ref a] ∧ ((SqL K H1 a xs ∧ R (Itv K a xs.length) H1) ∨ (SqT K H1 a xs ∧ R (RT.ItvT K a xs.length) H1))
theorem prim_revA {K : PySem.W.Frag} : PrimI K (rRevA K) revItD := by
  intro U H ds vs out Rr hU rl e q
  unfold revItD at e
  split at e
  · obtain ⟨v, rfl, r⟩ := rl1 rl
    unfold Rep at r
    obtain ⟨a, us, rfl, nu, ha, r⟩ := r
    cases e
    exact ⟨a, us, rfl, .inl ⟨SqL.of ha, q _ (wd_rev (fun H1 k => SqL.of (k a _ ha nu)) r)⟩⟩
  · obtain ⟨v, rfl, r⟩ := rl1 rl
    unfold Rep at r
    obtain ⟨a, us, rfl, nu, ha, r⟩ := r
    cases e
    exact ⟨a, us, rfl, .inr ⟨SqT.of ha, q _ (wd_revT (fun H1 k => SqT.of (k a _ ha nu)) r)⟩⟩
  · cases e
theorem i_rev (hg : Gl X "reversed") (hm : X.mg "reversed" = none) (he : PE X e (RdE X.K W f)) (hs : starEach [e] X.env = (false, eval e X.env) :: starEach [] X.env := by rfl) : PI X tg (.Call (.Name "reversed" p) [e] [] pos) (RdI X.K W (itA revItD (one f))) := by
  refine pi_imp (RT.pi_revA hg hm he hs) fun σ H Rr m => ?_
  refine RdE.mono ?_ (imp1 (itAImp prim_revA m))
  rintro v H1 ⟨a, xs, ev, q⟩
  exact ⟨a, xs, by simpa using ev, q⟩
end
end PyD

namespace PyD
open PySem PySem.Spec L2

/-! ### methods that change a list -/
section
variable {K : PySem.W.Frag} {U : Addr → Prop} {H H' : Hp} {p : Addr} {o : HO} {d : D} {v : V} {ds : List D} {vs : List V} {kvs : List (Key × D)} {ws : List (Key × V)}
theorem sideTo (hp : U p) : ∀ a x, H a = some x → ¬ U a → upd H p o a = some x ∧ ¬ U a := fun a x e n =>
  ⟨by rw [upd_ne (fun z => n (by rw [z]; exact hp))]; exact e, n⟩
theorem repSide (hp : U p) (r : Rep K U H d v) : Rep K U (upd H p o) d v := Rep.to (sideTo hp) d v r
theorem repLSide (hp : U p) (r : RepL K U H ds vs) : RepL K U (upd H p o) ds vs := RepL.to (sideTo hp) ds vs r
theorem repKSide (hp : U p) (r : RepK K U H kvs ws) : RepK K U (upd H p o) kvs ws := RepK.to (sideTo hp) kvs ws r
theorem updKeep : ∀ a x, a ≠ p → H a = some x → upd H p o a = some x := fun a x n e => by rw [upd_ne n]; exact e
theorem updAt : upd H p o p = some o := by simp [upd]
end
theorem line_ok {n : Nat} (h : n < 1000000) : n < sizeLine := Nat.lt_trans h (by decide)
def appM : D → List D → Option (D × D)
  | .lst xs, [d] => if xs.length < 1000000 then some (.lst (xs ++ [d]), .non) else none
  | _, _ => none
theorem prim_append {K : PySem.W.Frag} : PrimM K true rAppend appM := by
  intro U H d0 ds p vs Q d1 d hU hp c ar rl e post
  have rl := rl rfl
  unfold appM at e
  split at e
  · obtain ⟨v, rfl, r⟩ := rl1 rl
    split at e
    · rename_i h
      cases e
      obtain ⟨us, hH, r0⟩ := c
      refine ⟨p, us, v, rfl, rfl, hH, by rw [r0.len]; exact line_ok h, post _ _ updKeep (by rw [updAt]; simp) ⟨_, updAt, ?_⟩ repNon⟩
      exact repLSide hp (RepL.app r0 (RepL.cons r RepL.nil))
    · cases e
  · cases e
def extM : D → List D → Option (D × D)
  | .lst xs, [.lst ys] => if xs.length + ys.length ≤ 1000000 then some (.lst (xs ++ ys), .non) else none
  | _, _ => none
theorem prim_extend {K : PySem.W.Frag} : PrimM K true rExtend extM := by
  intro U H d0 ds p vs Q d1 d hU hp c ar rl e post
  have rl := rl rfl
  unfold extM at e
  split at e
  · obtain ⟨v, rfl, r⟩ := rl1 rl
    split at e
    · rename_i h
      cases e
      obtain ⟨us, hH, r0⟩ := c
      unfold Rep at r
      obtain ⟨b, zs, rfl, nb, hb, r⟩ := r
      refine ⟨p, b, us, zs, rfl, rfl, hH, hb, ?_, post _ _ updKeep (by rw [updAt]; simp) ⟨_, updAt, ?_⟩ repNon⟩
      · rw [r0.len, r.len]
        exact Nat.le_trans h (by decide)
      · exact repLSide hp (RepL.app r0 r)
    · cases e
  · cases e
def popM : D → List D → Option (D × D)
  | .lst xs, [] => match xs[xs.length - 1]? with
    | some d => some (.lst xs.dropLast, d)
    | none => none
  | _, _ => none
theorem RepL.dropLast {K : PySem.W.Frag} {U : Addr → Prop} {H : Hp} {ds : List D} {vs : List V} (r : RepL K U H ds vs) : RepL K U H ds.dropLast vs.dropLast := by
  rw [List.dropLast_eq_take, List.dropLast_eq_take, r.len]
  exact RepL.take _ r
theorem prim_pop {K : PySem.W.Frag} : PrimM K true rPop popM := by
  intro U H d0 ds p vs Q d1 d hU hp c ar rl e post
  have rl := rl rfl
  unfold popM at e
  split at e
  · obtain rfl := rl.nil_inv
    split at e
    · rename_i h
      cases e
      obtain ⟨us, hH, r0⟩ := c
      obtain ⟨y, ey, ry⟩ := r0.get h
      refine ⟨p, us, y, rfl, rfl, hH, by rw [r0.len]; exact ey, post _ _ updKeep (by rw [updAt]; simp) ⟨_, updAt, ?_⟩ (repSide hp ry)⟩
      exact repLSide hp r0.dropLast
    · cases e
  · cases e
def popAtM : D → List D → Option (D × D)
  | .lst xs, [.int i] => if -(2 ^ 63) ≤ i ∧ i < 2 ^ 63 then (match seqIndex? i xs.length with
    | some k => (match xs[k]? with
      | some d => some (.lst (xs.eraseIdx k), d)
      | none => none)
    | none => none) else none
  | _, _ => none
theorem prim_popAt {K : PySem.W.Frag} : PrimM K true rPopAt popAtM := by
  intro U H d0 ds p vs Q d1 d hU hp c ar rl e post
  have rl := rl rfl
  unfold popAtM at e
  split at e
  · obtain ⟨v, rfl, r⟩ := rl1 rl
    unfold Rep at r
    subst r
    split at e
    · rename_i hb
      split at e
      · rename_i k hk
        split at e
        · rename_i h
          cases e
          obtain ⟨us, hH, r0⟩ := c
          obtain ⟨y, ey, ry⟩ := r0.get h
          refine ⟨p, us, _, k, y, rfl, rfl, hH, hb.1, hb.2, by rw [r0.len]; exact hk, ey, post _ _ updKeep (by rw [updAt]; simp) ⟨_, updAt, ?_⟩ (repSide hp ry)⟩
          exact repLSide hp (r0.eraseIdx k)
        · cases e
      · cases e
    · cases e
  · cases e
def clrM : D → List D → Option (D × D)
  | .lst _, [] => some (.lst [], .non)
  | _, _ => none
theorem prim_clear {K : PySem.W.Frag} : PrimM K true rClear clrM := by
  intro U H d0 ds p vs Q d1 d hU hp c ar rl e post
  have rl := rl rfl
  unfold clrM at e
  split at e
  · obtain rfl := rl.nil_inv
    cases e
    obtain ⟨us, hH, r0⟩ := c
    exact ⟨p, us, rfl, rfl, hH, post _ _ updKeep (by rw [updAt]; simp) ⟨_, updAt, RepL.nil⟩ repNon⟩
  · cases e
def insM : D → List D → Option (D × D)
  | .lst xs, [.int i, d] => if xs.length < 1000000 ∧ 0 ≤ i ∧ i < 2 ^ 63 then some (.lst (xs.take i.toNat ++ [d] ++ xs.drop i.toNat), .non) else none
  | _, _ => none
def rInsert : V → List V → Hp → VK → Prop := fun x vs H Q => ∃ (l : Addr) (xs : List V) (i : Int) (y : V), x = .ref l ∧ vs = [.int i, y] ∧ H l = some (.lst xs) ∧ xs.length < sizeLine ∧ 0 ≤ i ∧ i < 2 ^ 63 ∧
    Q .non (upd H l (.lst (xs.take i.toNat ++ [y] ++ xs.drop i.toNat)))
theorem mt_ins {X : Cx} : MtR X "list.insert" rInsert := mt_insert
theorem prim_insert {K : PySem.W.Frag} : PrimM K true rInsert insM := by
  intro U H d0 ds p vs Q d1 d hU hp c ar rl e post
  have rl := rl rfl
  unfold insM at e
  split at e
  · obtain ⟨v, w, rfl, r, r'⟩ := rl2 rl
    unfold Rep at r
    subst r
    split at e
    · rename_i h
      cases e
      obtain ⟨us, hH, r0⟩ := c
      refine ⟨p, us, _, w, rfl, rfl, hH, by rw [r0.len]; exact line_ok h.1, h.2.1, h.2.2, post _ _ updKeep (by rw [updAt]; simp) ⟨_, updAt, ?_⟩ repNon⟩
      exact repLSide hp (RepL.app (RepL.app (RepL.take _ r0) (RepL.cons r' RepL.nil)) (RepL.drop _ r0))
    · cases e
  · cases e

/-! ### dicts -/
def valD (kvs : List (Key × D)) (k : Key) : Option D := (kvs.find? fun kv => decide (kv.1 = k)).map (·.2)
def putD (kvs : List (Key × D)) (k : Key) (v : D) : List (Key × D) :=
  if (kvs.any fun kv => decide (kv.1 = k)) = true then kvs.map (fun kv => if kv.1 = k then (kv.1, v) else kv) else kvs ++ [(k, v)]
def mergeD (kvs more : List (Key × D)) : List (Key × D) := more.foldl (fun acc kv => putD acc kv.1 kv.2) kvs
def keyOf : D → Option Key
  | .int i => some (.inl i)
  | .str s => some (.inr s)
  | _ => none
section
variable {K : PySem.W.Frag} {U : Addr → Prop} {H H' : Hp} {p : Addr} {o : HO} {d : D} {v : V} {ds : List D} {vs : List V} {k : Key}
theorem RepK.cons {kvs : List (Key × D)} {ws : List (Key × V)} (h : Rep K U H d v) (r : RepK K U H kvs ws) : RepK K U H ((k, d) :: kvs) ((k, v) :: ws) := by
  unfold RepK
  exact ⟨v, ws, rfl, h, r⟩
theorem RepK.nil : RepK K U H [] [] := by unfold RepK; rfl
theorem RepK.inv {kvs : List (Key × D)} {ws : List (Key × V)} (r : RepK K U H ((k, d) :: kvs) ws) : ∃ v s, ws = (k, v) :: s ∧ Rep K U H d v ∧ RepK K U H kvs s := by
  unfold RepK at r
  exact r
theorem RepK.nil_inv {ws : List (Key × V)} (r : RepK K U H [] ws) : ws = [] := by
  unfold RepK at r
  exact r
theorem RepK.fst : ∀ {kvs : List (Key × D)} {ws : List (Key × V)}, RepK K U H kvs ws → ws.map (·.1) = kvs.map (·.1)
  | [], ws, r => by rw [r.nil_inv] <;> rfl
  | (k, d) :: kvs, ws, r => by
    obtain ⟨v, s, rfl, _, r'⟩ := r.inv
    simp [r'.fst]
theorem RepK.app {k2 : List (Key × D)} {w2 : List (Key × V)} : ∀ {kvs : List (Key × D)} {ws : List (Key × V)}, RepK K U H kvs ws → RepK K U H k2 w2 → RepK K U H (kvs ++ k2) (ws ++ w2)
  | [], ws, r, q => by rw [r.nil_inv]; exact q
  | (k, d) :: kvs, ws, r, q => by
    obtain ⟨v, s, rfl, h, r'⟩ := r.inv
    exact RepK.cons h (r'.app q)
theorem RepK.val : ∀ {kvs : List (Key × D)} {ws : List (Key × V)}, RepK K U H kvs ws → match valD kvs k with
    | some d => ∃ v, valV ws k = some v ∧ Rep K U H d v
    | none => valV ws k = none
  | [], ws, r => by rw [r.nil_inv]; exact rfl
  | (k', d) :: kvs, ws, r => by
    obtain ⟨v, s, rfl, h, r'⟩ := r.inv
    by_cases e : k' = k
    · have e1 : valD ((k', d) :: kvs) k = some d := by simp [valD, e]
      rw [e1]
      exact ⟨v, valV_pos e, h⟩
    · have e1 : valD ((k', d) :: kvs) k = valD kvs k := by simp [valD, e]
      rw [e1, valV_neg e]
      exact r'.val
theorem RepK.any_eq {f : Key → Bool} {kvs : List (Key × D)} {ws : List (Key × V)} (r : RepK K U H kvs ws) : (ws.any fun kv => f kv.1) = kvs.any fun kv => f kv.1 := by
  have := r.fst
  have h1 : (ws.any fun kv => f kv.1) = (ws.map (·.1)).any f := by simp [List.any_map, Function.comp_def]
  have h2 : (kvs.any fun kv => f kv.1) = (kvs.map (·.1)).any f := by simp [List.any_map, Function.comp_def]
  rw [h1, h2, this]
theorem RepK.mapPut (rd : Rep K U H d v) : ∀ {kvs : List (Key × D)} {ws : List (Key × V)}, RepK K U H kvs ws → RepK K U H (kvs.map fun kv => if kv.1 = k then (kv.1, d) else kv) (ws.map fun kv => if kv.1 = k then (kv.1, v) else kv)
  | [], ws, r => by rw [r.nil_inv]; exact RepK.nil
  | (k', d') :: kvs, ws, r => by
    obtain ⟨v', s, rfl, h, r'⟩ := r.inv
    by_cases e : k' = k
    · simp only [List.map_cons, e, if_true]
      exact RepK.cons rd (r'.mapPut rd)
    · simp only [List.map_cons, e, if_false]
      exact RepK.cons h (r'.mapPut rd)
theorem RepK.put {kvs : List (Key × D)} {ws : List (Key × V)} (r : RepK K U H kvs ws) (rd : Rep K U H d v) : RepK K U H (putD kvs k d) (putK ws k v) := by
  unfold putD putK
  rw [r.any_eq (f := fun x => decide (x = k))]
  split
  · exact r.mapPut rd
  · exact r.app (RepK.cons rd RepK.nil)
theorem RepK.merge : ∀ {more : List (Key × D)} {mw : List (Key × V)} {kvs : List (Key × D)} {ws : List (Key × V)}, RepK K U H more mw → RepK K U H kvs ws → RepK K U H (mergeD kvs more) (mergeK ws mw)
  | [], mw, kvs, ws, q, r => by rw [q.nil_inv]; exact r
  | (k, d) :: more, mw, kvs, ws, q, r => by
    obtain ⟨v, s, rfl, h, q'⟩ := q.inv
    show RepK K U H (mergeD (putD kvs k d) more) (mergeK (putK ws k v) s)
    exact RepK.merge q' (r.put h)
theorem keyOf_rep {k : Key} (h : keyOf d = some k) (r : ARep K U H d v) : v = kV k := by
  cases d <;> first | (cases h; done) | skip
  · cases h; exact arInt r
  · cases h; exact arStr r
theorem keyOf_rep' {k : Key} (h : keyOf d = some k) (r : Rep K U H d v) : v = kV k := keyOf_rep h r.arep
end
theorem val_some {K : PySem.W.Frag} {U : Addr → Prop} {H : Hp} {kvs : List (Key × D)} {ws : List (Key × V)} (r : RepK K U H kvs ws) (k : Key) : (valV ws k).isSome = (valD kvs k).isSome := by
  have := r.val (k := k)
  cases ev : valD kvs k with
  | none => rw [ev] at this; rw [this] <;> rfl
  | some d0 =>
    rw [ev] at this
    obtain ⟨v0, e0, _⟩ := this
    rw [e0] <;> rfl
/-- x[i] = v, of a list, of a dict -/
def setD : D → D → D → Option D
  | .lst xs, .int k, d => (ixN xs.length k).map fun j => .lst (xs.set j d)
  | .dic kvs, y, d => match keyOf y with
    | some k => if kvs.length < 1000000 then some (.dic (putD kvs k d)) else none
    | none => none
  | _, _, _ => none
def rSetU : V → V → V → Hp → (Hp → Prop) → Prop := fun o i v H Q => rSetL o i v H Q ∨ ∃ a H', o = .ref a ∧ DPut H a i v H' ∧ Q H'
theorem set_U {X : Cx} (hu : X.A.units + 1 < cLine) : PSet X rSetU := by
  intro pins s σ H o i v ov iv u Q I ro ri rv h
  rcases h with h | ⟨a, H', rfl, g, q⟩
  · exact set_list pins s σ H o i v ov iv u Q I ro ri rv h
  · obtain rfl : ov = Value.ref a := ro
    exact d_setItem hu I g ri rv fun s4 I4 => ⟨H', I4, q⟩
theorem prim_set {K : PySem.W.Frag} : PrimS K rSetU setD := by
  intro U H d0 di d p vi v Q d1 hU hp c ai rv e post
  unfold setD at e
  split at e
  · obtain ⟨us, hH, r0⟩ := c
    rw [arInt ai]
    obtain ⟨j, ej, rfl⟩ := Option.map_eq_some_iff.mp e
    refine .inl ⟨p, us, _, j, rfl, rfl, hH, by rw [r0.len]; exact ej, post _ updKeep (by rw [updAt]; simp) ⟨_, updAt, ?_⟩⟩
    exact repLSide hp (RepL.set j r0 rv)
  · split at e
    · rename_i k hk
      split at e
      · rename_i hl
        cases e
        obtain ⟨us, hH, r0⟩ := c
        rw [keyOf_rep hk ai]
        refine .inr ⟨p, _, rfl, DPut.k hH (by rw [r0.len]; exact line_ok hl), post _ updKeep (by rw [updAt]; simp) ⟨_, updAt, ?_⟩⟩
        exact repKSide hp (r0.put rv)
      · cases e
    · cases e
  · cases e
/-- x[i] of a list, a tuple, a text, the script, a dict -/
def ixUD : List D → Option (Bool × D)
  | [.dic kvs, y] => match keyOf y with
    | some k => (valD kvs k).map fun d => (false, d)
    | none => none
  | ds => ixD ds
def rIxU (K : PySem.W.Frag) : R2 := fun x y H Q => rIx K x y H Q ∨ ∃ a v, x = .ref a ∧ DGet H a y (some v) ∧ Q v H
theorem ix_U {X : Cx} (hu : X.A.units + 1 < cLine) : IxR X (rIxU X.K) := by
  refine ix_seq.or ?_
  intro value slice pins s σ H x y v u Q I rx ry h hs
  obtain ⟨a, z, rfl, g, q⟩ := h
  obtain rfl : v = Value.ref a := rx
  exact PyProof.Rows.tail_any (dict_typeIs I g) PySem.F.slot_dict_getitem.lookup (d_getItem hu I g ry fun w' s3 I3 rw' => ⟨z, H, I3, rw', q⟩) hs
theorem prim_ixU {K : PySem.W.Frag} : Prim K (r2 (rIxU K)) ixUD := by
  intro U H ds vs Q b d hU ar e post
  unfold ixUD at e
  split at e
  · obtain ⟨v, w, rfl, h1, h2⟩ := ar2 ar
    split at e
    · rename_i k hk
      obtain ⟨p, ws, rfl, hp, r⟩ := arDic h1
      have := r.val (k := k)
      obtain ⟨d0, ev, e⟩ := Option.map_eq_some_iff.mp e
      · rw [ev] at this
        cases e
        obtain ⟨v0, e0, r0⟩ := this
        refine ⟨_, _, rfl, .inr ⟨p, v0, rfl, ?_, post _ H (Ext.refl H) (fun _ => r0) (fun z => by cases z)⟩⟩
        rw [keyOf_rep hk h2, ← e0]
        exact DGet.k hp
    · cases e
  · obtain ⟨x, y, e1, q⟩ := prim_ix (K := K) U H _ vs Q b d hU ar e post
    exact ⟨x, y, e1, .inl q⟩
/-- in, not in: .. or a dict -/
def inUD (n : Bool) : List D → Option (Bool × D)
  | [x, .dic kvs] => match keyOf x with
    | some k => some (false, .bl ((valD kvs k).isSome != n))
    | none => none
  | ds => inOp n ds
def rInV (K : PySem.W.Frag) (n : Bool) : R2 := fun x y H Q => rInU K n x y H Q ∨ ∃ a ov, y = .ref a ∧ DGet H a x ov ∧ Q (.bl (ov.isSome != n)) H
theorem op_inV {X : Cx} (hu : X.A.units + 1 < cLine) : OpR X (compareOp .In) (rInV X.K false) := by
  refine OpR.or op_inU ?_
  intro pins s σ H x y v u Q I rx ry h
  obtain ⟨a, ov, rfl, g, q⟩ := h
  obtain rfl : u = Value.ref a := ry
  exact d_in hu I g rx fun s3 I3 => ⟨.bl ov.isSome, H, I3, rfl, by simpa using q⟩
theorem prim_inU {K : PySem.W.Frag} {n : Bool} : Prim K (r2 (rInV K n)) (inUD n) := by
  intro U H ds vs Q b d hU ar e post
  unfold inUD at e
  split at e
  · obtain ⟨v, w, rfl, h1, h2⟩ := ar2 ar
    split at e
    · rename_i k hk
      cases e
      obtain ⟨p, ws, rfl, hp, r⟩ := arDic h2
      have := r.val (k := k)
      refine ⟨_, _, rfl, .inr ⟨p, valV ws k, rfl, ?_, ?_⟩⟩
      · rw [keyOf_rep hk h1]
        exact DGet.k hp
      · rw [val_some r k]
        exact post _ H (Ext.refl H) (fun _ => repBl) (fun z => by cases z)
    · cases e
  · obtain ⟨x, y, e1, q⟩ := prim_in (K := K) (n := n) U H _ vs Q b d hU ar e post
    exact ⟨x, y, e1, .inl q⟩
/-- dict of a list of pairs -/
def pairsOf : List D → Option (List (Key × D))
  | [] => some []
  | .tup [k, d] :: ds => match keyOf k, pairsOf ds with
    | some k, some r => some ((k, d) :: r)
    | _, _ => none
  | _ => none
def dictD : List D → Option (Bool × D)
  | [.lst ds] => (pairsOf ds).map fun kvs => (true, .dic (mergeD [] kvs))
  | _ => none
def rDictP (K : PySem.W.Frag) : List V → Hp → VK → Prop := fun xs H Q => ∃ (a : Addr) (ps : List Addr) (kvs : List (Key × V)), xs = [.ref a] ∧ SqL K H a (ps.map V.ref) ∧ Paired (fun p kv => SqT K H p [kV kv.1, kv.2]) ps kvs ∧
    ∀ p, H p = none → Q (.ref p) (upd H p (.dK (mergeK [] kvs)))
theorem cr_dict {X : Cx} (hc : X.calm = true) : CallR X (.type "dict") (rDictP X.K) := call_dictP hc
theorem pairs_rep {K : PySem.W.Frag} {U : Addr → Prop} {H : Hp} : ∀ {ds : List D} {vs : List V} {kvs : List (Key × D)}, RepL K U H ds vs → pairsOf ds = some kvs → ∃ ps ws, vs = ps.map V.ref ∧ Paired (fun p kv => SqT K H p [kV kv.1, kv.2]) ps ws ∧ RepK K U H kvs ws
  | [], vs, kvs, r, e => by
    cases e
    exact ⟨[], [], r.nil_inv, .nil, RepK.nil⟩
  | d :: ds, vs, kvs, r, e => by
    unfold pairsOf at e
    split at e
    · cases ‹_ :: _ = []›
    · rename_i heq
      cases heq
      split at e
      · rename_i k r0 hk hr
        cases e
        obtain ⟨v, us, rfl, h, r'⟩ := r.inv
        obtain ⟨ps, ws, rfl, hp, hw⟩ := pairs_rep r' hr
        unfold Rep at h
        obtain ⟨a, xs, rfl, na, ha, hx⟩ := h
        obtain ⟨x, y, rfl, h1, h2⟩ := rl2 hx
        rw [keyOf_rep' hk h1] at ha
        exact ⟨a :: ps, (k, y) :: ws, rfl, .cons (SqT.of ha) hp, RepK.cons h2 hw⟩
      · cases e
    · cases e
theorem prim_dict {K : PySem.W.Frag} : Prim K (rDictP K) dictD := by
  intro U H ds vs Q b d hU ar e post
  unfold dictD at e
  split at e
  · rename_i ds
    obtain ⟨v, rfl, h1⟩ := ar1 ar
    obtain ⟨p, xs, rfl, hp, r⟩ := arLst h1
    cases ek : pairsOf ds with
    | none => rw [ek] at e; cases e
    | some kvs =>
      rw [ek] at e
      cases e
      obtain ⟨ps, ws, rfl, hps, hw⟩ := pairs_rep r ek
      refine ⟨p, ps, ws, rfl, SqL.of hp, hps, fun q hq => post _ _ (ext_new hq) (fun z => by cases z) fun _ => newDic hq (RepK.merge hw RepK.nil)⟩
  · cases e
end PyD

namespace PyD
open PySem PySem.Spec L2

/-! ### a op b op c, of ints and of texts -/
def ordB (f : Int → Int → Bool) (g : List Nat → List Nat → Bool) : D → D → Option Bool
  | .int a, .int b => some (f a b)
  | .str a, .str b => some (g a.cps.toList b.cps.toList)
  | _, _ => none
def chF (f : Int → Int → Bool) (g : List Nat → List Nat → Bool) (f' : Int → Int → Bool) (g' : List Nat → List Nat → Bool) (fa fb fc : M R) : M R := fun en => match two fa fb en with
  | .ok [.sh a, .sh b] en2 => (match ordB f g a b with
    | some true => (match fc en2 with
      | .ok (.sh c) en3 => (match ordB f' g' b c with
        | some k => .ok (.sh (.bl k)) en3
        | none => .bad)
      | .ok _ _ => .bad
      | .exc x en3 => .exc x en3
      | .bad => .bad)
    | some false => .ok (.sh (.bl false)) en2
    | none => .bad)
  | .ok _ _ => .bad
  | .exc x en2 => .exc x en2
  | .bad => .bad
section
variable {K : PySem.W.Frag} {W : WX} {B B' B1 : Addr → Prop} {U U' : Addr → Prop} {H H' H1 : Hp} {σ σ' σ1 : L2.St} {en en' en1 : En} {a b d : D} {v x y : V} {i : Nat} {p : Addr} {ds : List D} {Q : VK} {f f' : Int → Int → Bool} {g g' : List Nat → List Nat → Bool}
theorem ordB_run {k : Bool} (e : ordB f g a b = some k) (rx : Rep K U H a x) (ry : Rep K U' H' b y) (q : Q (.bl k) H1) : rOrdU f g x y H1 Q := by
  unfold ordB at e
  split at e
  · cases e
    unfold Rep at rx ry
    subst rx ry
    exact .inl ⟨_, _, rfl, rfl, q⟩
  · cases e
    unfold Rep at rx ry
    subst rx ry
    exact .inr ⟨_, _, rfl, rfl, q⟩
  · cases e
theorem chImp {fa fb fc : M R} (m : RdE K W (chF f g f' g' fa fb fc) σ H Q) : tChain (rOrdU f g) (rOrdU f' g') (RdE K W fa) (RdE K W fb) (RdE K W fc) σ H Q := by
  have key : RdA K W (two fa fb) σ H fun vs H2 => ∃ x y, vs = [x, y] ∧ rOrdU f g x y H2 fun z H3 => ∃ k, z = .bl k ∧ (if k = true then RdE K W fc σ H3 (fun w' H4 => rOrdU f' g' y w' H4 Q) else Q (.bl false) H3) := by
    obtain ⟨B, en, G, m⟩ := m
    refine ⟨B, en, G, ?_⟩
    unfold chF at m
    cases e1 : two fa fb en with
    | bad => rw [e1] at m; exact m
    | exc x en1 => rw [e1] at m; exact m
    | ok rs en1 =>
      rw [e1] at m
      dsimp only at m ⊢
      intro vs H1 ⟨B1, b1, G1, a1, n1⟩ st1
      match rs, a1, m with
      | [.sh a, .sh b], a1, m =>
        obtain ⟨x, us, rfl, rx, y, us2, rfl, ry, rfl⟩ := a1
        have rx : Rep K (Un B1 σ en1) H1 a x := rx
        have ry : Rep K (Un B1 σ en1) H1 b y := ry
        refine ⟨x, y, rfl, ?_⟩
        dsimp only at m
        cases e2 : ordB f g a b with
        | none => rw [e2] at m; exact m.elim
        | some k =>
          rw [e2] at m
          refine ordB_run e2 rx ry ⟨k, rfl, ?_⟩
          cases k with
          | false =>
            rw [if_neg (by decide)]
            exact m _ H1 ⟨B1, b1, G1, (by unfold ArgR; exact repBl), trivial⟩ st1
          | true =>
            rw [if_pos rfl]
            refine RdE.of b1 G1 st1 ?_
            dsimp only at m
            cases e3 : fc en1 with
            | bad => rw [e3] at m; exact m
            | exc x en3 => rw [e3] at m; exact m
            | ok rc en3 =>
              rw [e3] at m
              match rc, m with
              | .fr _, m => exact m.elim
              | .sl _, m => exact m.elim
              | .sh c, m =>
                dsimp only at m ⊢
                intro w' H4 ⟨B4, b4, G4, r4, n4⟩ st4
                have r4 : Rep K (Un B4 σ en3) H4 c w' := r4
                cases e4 : ordB f' g' b c with
                | none => rw [e4] at m; exact m.elim
                | some k' =>
                  rw [e4] at m
                  exact ordB_run e4 ry r4 (m _ H4 ⟨B4, b4, G4, (by unfold ArgR; exact repBl), trivial⟩ st4)
      | [], a1, m => exact m.elim
      | [.fr _], a1, m => exact m.elim
      | [.sl _], a1, m => exact m.elim
      | [.sh _], a1, m => exact m.elim
      | .fr _ :: _ :: _, a1, m => exact m.elim
      | .sl _ :: _ :: _, a1, m => exact m.elim
      | .sh _ :: .fr _ :: _, a1, m => exact m.elim
      | .sh _ :: .sl _ :: _, a1, m => exact m.elim
      | .sh _ :: .sh _ :: _ :: _, a1, m => exact m.elim
  exact RdE.mono (fun x H1 h => RdE.mono (fun y H2 ⟨x', y', e, q⟩ => by cases e; exact q) h) (imp2 key)
variable {X : Cx} {pos : Pos} {ea eb ec : Expr} {fa fb fc : M R} {op op' : CmpOp}
theorem e_chain (ho : OpR X (compareOp op) (rOrdU f g)) (ho' : OpR X (compareOp op') (rOrdU f' g')) (ha : PE X ea (RdE X.K W fa)) (hb : PE X eb (RdE X.K W fb)) (hc : PE X ec (RdE X.K W fc))
    (hm : lastMarks [op, op'] [eb, ec] = false := by with_unfolding_all rfl) : PE X (.Compare ea [op, op'] [eb, ec] pos) (RdE X.K W (chF f g f' g' fa fb fc)) := pe_imp (pe_chain ho ho' ha hb hc hm) fun σ H Q m => chImp m
theorem t_chain (ho : OpR X (compareOp op) (rOrdU f g)) (ho' : OpR X (compareOp op') (rOrdU f' g')) (ha : PE X ea (RdE X.K W fa)) (hb : PE X eb (RdE X.K W fb)) (hc : PE X ec (RdE X.K W fc))
    (hm : lastMarks [op, op'] [eb, ec] = false := by with_unfolding_all rfl) : PT X (.Compare ea [op, op'] [eb, ec] pos) (RdT X.K W (tstB (chF f g f' g' fa fb fc))) :=
  pt_imp (pt_chain ho ho' ha hb hc hm) fun σ H Q m => chImp (tstBImp m)
end
end PyD

namespace PyD
open PySem PySem.Spec L2

/-! ### a def of the text -/
def DefAt (P : Program) (w : World) (K : PySem.W.Frag) (mg : Str → Option Value) (base : Heap) (x : Str) (lev : Nat) (ps : List Str) (io : List Bool) (φ : List D → Out) : Prop :=
  ∃ (f : Addr) (fd : FuncData), FnOk P w K mg base (L2.CX P w) lev f fd ps (spD K io φ) ∧ mg x = some (.ref f) ∧ PySem.W.keepIn K (.ref f) = true ∧ Binds K fd ps []
theorem e_callD {X : Cx} {W : WX} {k : Nat} {io : List Bool} {φ : List D → Out} {fs : M (List R)} {ps : List Str} {x : Str} {p pos : Pos} {e : Expr} {es : List Expr} (h : DefAt X.prog X.w X.K X.mg X.base x k ps io φ) (hr : Room k X.A) (tk : Takes X W)
    (ha : PA X (e :: es) (RdA X.K W fs)) (hg : Gl X x := by rfl) (hdb : (x == ("__debug__" : Str)) = false := by decide) (he : starEach (e :: es) X.env = (false, eval e X.env) :: starEach es X.env := by rfl) (hpl : (backTo pos (starEach es X.env)).any (·.1) = false := by rfl) :
    PE X (.Call (.Name x p) (e :: es) [] pos) (RdE X.K W (callF io φ fs)) := by
  obtain ⟨f, fd, F, hm, hk, hb⟩ := h
  exact e_call F hr hg hm hk hb tk ha hdb he hpl
section
variable {P : Program} {w : World} {K : PySem.W.Frag} {mg : Str → Option Value} {base : Heap}
theorem DefAt.mk {x : Str} {st : Stmt} {f : Addr} {fd : FuncData} {N ps : List Str} {lev k : Nat} {io : List Bool} {b : En → Fl} {φ : List D → Out} (F : Fun K x x st f fd) (hm : mg x = some (.ref f)) (bd : Binds K fd ps []) (S : FnScope N ps (defScope st)) (hps : io.length = ps.length) (hN : N.length = ps.length + k)
    (hb : ∀ (cdv : Value) (A : Around) (outer : List Env) (s : Shared) (H : Hp) (E : XK), Room lev (A.deeper (PyProof.Rows.envOfC x (defScope st) s.heap.objs.size f cdv)) → PSs (cxOf (L2.CX P w) P w K mg base N x (defScope st) f cdv A outer s H E) (defBody st) (RdS K (fun cls d _ H => E cls d H) b)) (e : φ = runF io k b) :
    DefAt P w K mg base x (lev + 1) ps io φ := by
  subst e
  exact ⟨f, fd, ok_def F S hps hN hb, hm, F.kp, bd⟩
theorem DefAt.mono {x : Str} {j k : Nat} {ps : List Str} {io : List Bool} {φ : List D → Out} (h : DefAt P w K mg base x j ps io φ) (hk : j ≤ k) : DefAt P w K mg base x k ps io φ := by
  obtain ⟨f, fd, F, r⟩ := h
  exact ⟨f, fd, F.mono hk, r⟩
theorem DefAt.bad {x : Str} {st : Stmt} {f : Addr} {fd : FuncData} {ps : List Str} {io : List Bool} {k : Nat} (F : Fun K x x st f fd) (hm : mg x = some (.ref f)) (bd : Binds K fd ps []) : DefAt P w K mg base x k ps io fun _ => .bad := by
  have no : ∀ vs H Q E, spD K io (fun _ => Out.bad) vs H Q E → False := fun vs H Q E h => by
    obtain ⟨_, _, _, _, _, h⟩ := h
    exact h
  exact ⟨f, fd, ⟨fun vs H Q E h => (no vs H Q E h).elim, fun A outer s H args us vs Q E hr he hb hv h => (no vs H Q E h).elim⟩, hm, F.kp, bd⟩
end
/-! ### the law's end -/
theorem only_scr {K : PySem.W.Frag} {H : Hp} {a : Addr} {ns : List Int} {U : Addr → Prop} (hU : ¬ U a) (hO : Only H) (hS : SqL K H a (ns.map V.int)) : Rep K U H (.scr ns) (.ref a) := by
  unfold Rep
  refine ⟨a, rfl, ?_⟩
  rcases hS with h | h
  · rcases h with h | ⟨o, h⟩
    · rcases hO a with q | ⟨o, xs, q⟩
      · rw [h] at q; cases q
      · rw [h] at q; cases q
    · exact .inl ⟨hU, o, h⟩
  · exact .inr h
theorem law_end {K : PySem.W.Frag} {φ : List D → Out} {H : Hp} {a : Addr} {ns : List Int} (h : ∃ outs, φ [.scr ns] = .ret false (.bl true) outs) (hO : Only H) (hS : SqL K H a (ns.map V.int)) :
    spD K [false] φ [.ref a] H (fun v _ => v = .bl true) fun _ _ _ => False := by
  obtain ⟨outs, h⟩ := h
  refine ⟨fun _ => False, [.scr ns], rfl, rfl, ?_, ?_⟩
  · have no : ∀ (i : Nat) (b : Bool) (d : D), (mkE [false] [D.scr ns])[i]? ≠ some (.o b d) := fun i b d e => by
      obtain ⟨b', d', e1, e2, e3⟩ := mkE_get e
      match i, e1 with
      | 0, e1 => cases e1; cases e3
    refine ⟨rfl, fun _ z => z.elim, fun i d e => ?_, fun i b d e => (no i b d e).elim, fun i j p b c d d' e => (no i b d e).elim⟩
    obtain ⟨b', d', e1, e2, e3⟩ := mkE_get e
    match i, e1, e2 with
    | 0, e1, e2 =>
      cases e1
      cases e2
      cases e3
      refine ⟨.ref a, rfl, only_scr (fun q => ?_) hO hS⟩
      rcases q with q | ⟨i, b, d, e, _⟩
      · exact q
      · exact no i b d e
  · rw [h]
    dsimp only
    intro v H' ⟨B', _, _, r, _⟩ _
    have := r rfl
    unfold Rep at this
    exact this
theorem law_cx {l : Program} (w : World) (H : Hp) (s : Shared) (e : Value) (s' : Shared) (h : L2.CX l w [] H s (fun _ _ _ => False) e s') : False := by
  obtain ⟨_, _, _, _, _, _, _, _, _, _, _, _, h⟩ := h
  exact h
end PyD

namespace PyD
open PySem PySem.Spec L2

/-! ### what a meaning does, forwards -/
/-- what follows is not looked into by simp -/
structure Tg {β : Type} (k : β) : Type
def okE {α : Type} (f : M α) (en : En) (k : α → En → Prop) (x : Ex → En → Prop) (_ : Tg (k, x) := ⟨⟩) : Prop := match f en with
  | .ok a en1 => k a en1
  | .exc e en1 => x e en1
  | .bad => False
def okS (f : En → Fl) (en : En) (k : Fl → Prop) (_ : Tg k := ⟨⟩) : Prop := match f en with
  | .bad => False
  | o => k o
def okO (o : Out) (k : Out → Prop) (_ : Tg k := ⟨⟩) : Prop := match o with
  | .bad => False
  | o => k o
def okL {α : Type} (o : Option α) (k : α → Prop) (_ : Tg k := ⟨⟩) : Prop := match o with
  | some a => k a
  | none => False
section
variable {α β : Type} {en en' : En} {x : Ex → En → Prop}
theorem okL_some {a : α} {k : α → Prop} : okL (some a) k = k a := rfl
theorem okL_none {k : α → Prop} : okL none k = False := rfl
theorem okL_map {f : α → β} {o : Option α} {k : β → Prop} : okL (o.map f) k = okL o fun a => k (f a) := by cases o <;> rfl
theorem okL_if {c : Prop} [Decidable c] {a : α} {k : α → Prop} : okL (if c then some a else none) k = (c ∧ k a) := by
  by_cases h : c
  · simp [h, okL]
  · simp [h, okL]
theorem okL_ifo {c : Prop} [Decidable c] {o : Option α} {k : α → Prop} : okL (if c then o else none) k = (c ∧ okL o k) := by
  by_cases h : c
  · simp [h, okL]
  · simp [h, okL]
def nmK (i : Nat) (k : R → Prop) (o : Option Sl) (_ : Tg k := ⟨⟩) : Prop := match o with
  | some (.v d) => k (.sh d)
  | some (.o _ _) => k (.sl i)
  | _ => False
theorem nmK_v {i : Nat} {k : R → Prop} {d : D} : nmK i k (some (.v d)) = k (.sh d) := rfl
theorem nmK_o {i : Nat} {k : R → Prop} {b : Bool} {d : D} : nmK i k (some (.o b d)) = k (.sl i) := rfl
theorem ok_c {d : D} {k : R → En → Prop} : okE (cF d) en k x = k (.sh d) en := rfl
theorem ok_nm {i : Nat} {k : R → En → Prop} : okE (nmF i) en k x = nmK i (fun r => k r en) en[i]? := by
  unfold okE nmF
  cases h : en[i]? with
  | none => rfl
  | some s => cases s <;> rfl
def mvK (i : Nat) (en : En) (k : R → En → Prop) (o : Option Sl) (_ : Tg k := ⟨⟩) : Prop := match o with
  | some (.v d) => k (.sh d) en
  | some (.o false d) => k (.fr d) (en.set i .e)
  | _ => False
theorem mvK_v {i : Nat} {k : R → En → Prop} {d : D} : mvK i en k (some (.v d)) = k (.sh d) en := rfl
theorem mvK_o {i : Nat} {k : R → En → Prop} {d : D} : mvK i en k (some (.o false d)) = k (.fr d) (en.set i .e) := rfl
theorem ok_mv {i : Nat} {k : R → En → Prop} : okE (mvF i) en k x = mvK i en k en[i]? := by
  unfold okE mvF
  cases h : en[i]? with
  | none => rfl
  | some s =>
    cases s with
    | e => rfl
    | v d => rfl
    | o b d => cases b <;> rfl
def dmK (i : Nat) (en : En) (k : R → En → Prop) (o : Option Sl) (_ : Tg k := ⟨⟩) : Prop := match o with
  | some (.v d) => k (.sh d) en
  | some (.o false d) => k (.sh d) (en.set i (.v d))
  | _ => False
theorem dmK_v {i : Nat} {k : R → En → Prop} {d : D} : dmK i en k (some (.v d)) = k (.sh d) en := rfl
theorem dmK_o {i : Nat} {k : R → En → Prop} {d : D} : dmK i en k (some (.o false d)) = k (.sh d) (en.set i (.v d)) := rfl
theorem ok_dm {i : Nat} {k : R → En → Prop} : okE (dmF i) en k x = dmK i en k en[i]? := by
  unfold okE dmF
  cases h : en[i]? with
  | none => rfl
  | some s =>
    cases s with
    | e => rfl
    | v d => rfl
    | o b d => cases b <;> rfl
theorem ok_nil {k : List R → En → Prop} : okE nilF en k x = k [] en := rfl
theorem ok_cons {f : M R} {fs : M (List R)} {k : List R → En → Prop} : okE (consF f fs) en k x = okE f en (fun r en1 => okE fs en1 (fun rs en2 => k (r :: rs) en2) x) x := by
  unfold okE consF
  cases f en with
  | bad => rfl
  | exc e en1 => rfl
  | ok r en1 =>
    dsimp only
    cases fs en1 <;> rfl
theorem ok_one {f : M R} {k : List R → En → Prop} : okE (one f) en k x = okE f en (fun r en1 => k [r] en1) x := by
  unfold one
  rw [ok_cons]
  rfl
theorem ok_two {f g : M R} {k : List R → En → Prop} : okE (two f g) en k x = okE f en (fun r en1 => okE g en1 (fun s en2 => k [r, s] en2) x) x := by
  unfold two
  rw [ok_cons]
  unfold okE
  cases f en with
  | bad => rfl
  | exc e en1 => rfl
  | ok r en1 =>
    have h := ok_cons (en := en1) (x := x) (f := g) (fs := nilF) (k := fun rs en2 => k (r :: rs) en2)
    unfold okE at h
    dsimp only
    rw [h]
    rfl
theorem ok_op {g : List D → Option (Bool × D)} {fs : M (List R)} {k : R → En → Prop} : okE (opF g fs) en k x = okE fs en (fun rs en1 => okL (rsls en1 rs) fun ds => okL (g ds) fun bd => k (mkR bd.1 bd.2) en1) x := by
  unfold okE opF
  cases fs en with
  | bad => rfl
  | exc e en1 => rfl
  | ok rs en1 =>
    dsimp only
    cases rsls en1 rs with
    | none => rfl
    | some ds =>
      dsimp only [okL]
      cases g ds with
      | none => rfl
      | some bd => rfl
theorem ok_tstB {f : M R} {k : Bool → En → Prop} : okE (tstB f) en k x = okE f en (fun r en1 => okL (rsl en1 r) fun d => okL (blD d) fun b => k b en1) x := by
  unfold okE tstB
  cases f en with
  | bad => rfl
  | exc e en1 => rfl
  | ok r en1 =>
    dsimp only
    cases rsl en1 r with
    | none => rfl
    | some d =>
      dsimp only [okL]
      cases blD d <;> rfl
theorem ok_tstF {f : M R} {k : Bool → En → Prop} : okE (tstF f) en k x = okE f en (fun r en1 => okL (rsl en1 r) fun d => okL (truD d) fun b => k b en1) x := by
  unfold okE tstF
  cases f en with
  | bad => rfl
  | exc e en1 => rfl
  | ok r en1 =>
    dsimp only
    cases rsl en1 r with
    | none => rfl
    | some d =>
      dsimp only [okL]
      cases truD d <;> rfl
theorem ok_not {f : M Bool} {k : Bool → En → Prop} : okE (notT f) en k x = okE f en (fun b en1 => k (!b) en1) x := by
  unfold okE notT
  cases f en <;> rfl
/-- both ways of a truth -/
def bi (b : Bool) (p q : Prop) (_ : Tg (p, q) := ⟨⟩) : Prop := (b = true → p) ∧ (b = false → q)
theorem bi_true {p q : Prop} : bi true p q = p := by simp [bi]
theorem bi_false {p q : Prop} : bi false p q = q := by simp [bi]
theorem bi_eq {b : Bool} {p q : Prop} (h : bi b p q) : match b with | true => p | false => q := by
  cases b
  · exact h.2 rfl
  · exact h.1 rfl
theorem ok_and {f g : M Bool} {k : Bool → En → Prop} : okE (andT f g) en k x = okE f en (fun b en1 => bi b (okE g en1 k x) (k false en1)) x := by
  unfold okE andT
  cases f en with
  | bad => rfl
  | exc e en1 => rfl
  | ok b en1 => cases b <;> simp [bi]
theorem ok_or {f g : M Bool} {k : Bool → En → Prop} : okE (orT f g) en k x = okE f en (fun b en1 => bi b (k true en1) (okE g en1 k x)) x := by
  unfold okE orT
  cases f en with
  | bad => rfl
  | exc e en1 => rfl
  | ok b en1 => cases b <;> simp [bi]
theorem ok_ifF {t : M Bool} {f g : M R} {k : R → En → Prop} : okE (ifF t f g) en k x = okE t en (fun b en1 => bi b (okE f en1 k x) (okE g en1 k x)) x := by
  unfold okE ifF
  cases t en with
  | bad => rfl
  | exc e en1 => rfl
  | ok b en1 => cases b <;> simp [bi]
theorem ok_andF {f g : M R} {k : R → En → Prop} : okE (andF f g) en k x = okE (tstB f) en (fun b en1 => bi b (okE g en1 k x) (k (.sh (.bl false)) en1)) x := by
  unfold okE andF
  cases tstB f en with
  | bad => rfl
  | exc e en1 => rfl
  | ok b en1 => cases b <;> simp [bi]
theorem ok_orF {f g : M R} {k : R → En → Prop} : okE (orF f g) en k x = okE (tstB f) en (fun b en1 => bi b (k (.sh (.bl true)) en1) (okE g en1 k x)) x := by
  unfold okE orF
  cases tstB f en with
  | bad => rfl
  | exc e en1 => rfl
  | ok b en1 => cases b <;> simp [bi]
theorem ok_notF {f : M R} {k : R → En → Prop} : okE (notF f) en k x = okE (tstB f) en (fun b en1 => k (.sh (.bl (!b))) en1) x := by
  unfold okE notF
  cases tstB f en <;> rfl
theorem ok_tup {fs : M (List R)} {k : R → En → Prop} : okE (tupF fs) en k x = okE fs en (fun rs en1 => okL (stos rs) fun ds => ds.length ≤ 1000 ∧ k (.sh (.tup ds)) en1) x := by
  unfold okE tupF
  cases fs en with
  | bad => rfl
  | exc e en1 => rfl
  | ok rs en1 =>
    dsimp only
    cases stos rs with
    | none => rfl
    | some ds =>
      dsimp only [okL]
      by_cases h : ds.length ≤ 1000
      · simp [h]
      · simp [h]
theorem ok_lst {fs : M (List R)} {k : R → En → Prop} : okE (lstF fs) en k x = okE fs en (fun rs en1 => okL (stos rs) fun ds => ds.length ≤ 1000 ∧ k (.fr (.lst ds)) en1) x := by
  unfold okE lstF
  cases fs en with
  | bad => rfl
  | exc e en1 => rfl
  | ok rs en1 =>
    dsimp only
    cases stos rs with
    | none => rfl
    | some ds =>
      dsimp only [okL]
      by_cases h : ds.length ≤ 1000
      · simp [h]
      · simp [h]
theorem ok_dic {k : R → En → Prop} : okE dicF en k x = k (.fr (.dic [])) en := rfl
theorem ok_bm {isT : D → Bool} {g : List D → Option (Bool × D)} {fo : M R} {fs : M (List R)} {k : R → En → Prop} : okE (bmF isT g fo fs) en k x = okE fo en (fun r en1 => okL (rsl en1 r) fun d0 => isT d0 = true ∧
    okE fs en1 (fun rs en2 => okL (rsls en2 (r :: rs)) fun ds => okL (g ds) fun bd => k (mkR bd.1 bd.2) en2) x) x := by
  unfold okE bmF
  cases fo en with
  | bad => rfl
  | exc e en1 => rfl
  | ok r en1 =>
    dsimp only
    cases rsl en1 r with
    | none => rfl
    | some d =>
      dsimp only [okL]
      cases h : isT d with
      | false => simp
      | true =>
        simp only [true_and]
        cases fs en1 with
        | bad => rfl
        | exc e en2 => rfl
        | ok rs en2 =>
          dsimp only
          cases rsls en2 (r :: rs) with
          | none => rfl
          | some ds =>
            dsimp only
            cases g ds <;> rfl
def intR (k : Option Int → En → Prop) (en : En) (r : R) (_ : Tg k := ⟨⟩) : Prop := match r with
  | .sh (.int i) => k (some i) en
  | _ => False
theorem intR_int {k : Option Int → En → Prop} {i : Int} : intR k en (.sh (.int i)) = k (some i) en := rfl
theorem ok_prtN {k : Option Int → En → Prop} : okE (prtF none) en k x = k none en := rfl
theorem ok_prtS {f : M R} {k : Option Int → En → Prop} : okE (prtF (some f)) en k x = okE f en (fun r en1 => intR k en1 r) x := by
  unfold okE prtF
  dsimp only
  cases f en with
  | bad => rfl
  | exc e en1 => rfl
  | ok r en1 =>
    cases r with
    | sh d => cases d <;> rfl
    | fr d => rfl
    | sl d => rfl
theorem ok_sl {g : D → Option Int → Option Int → Option (Bool × D)} {f : M R} {lo hi : Option (M R)} {k : R → En → Prop} : okE (slF g f lo hi) en k x = okE f en (fun r en1 => okE (prtF lo) en1 (fun l en2 => okE (prtF hi) en2 (fun h en3 =>
    okL (rsl en3 r) fun d => okL (g d l h) fun bd => k (mkR bd.1 bd.2) en3) x) x) x := by
  unfold okE
  rw [slF_eq]
  cases f en with
  | bad => rfl
  | exc e en1 => rfl
  | ok r en1 =>
    dsimp only
    cases prtF lo en1 with
    | bad => rfl
    | exc e en2 => rfl
    | ok l en2 =>
      dsimp only
      cases prtF hi en2 with
      | bad => rfl
      | exc e en3 => rfl
      | ok h en3 =>
        dsimp only
        cases rsl en3 r with
        | none => rfl
        | some d =>
          dsimp only [okL]
          cases g d l h <;> rfl
def shK (k : D → Prop) (r : R) (_ : Tg k := ⟨⟩) : Prop := match r with
  | .sh d => k d
  | _ => False
theorem shK_sh {k : D → Prop} {d : D} : shK k (.sh d) = k d := rfl
theorem ok_ch {f : Int → Int → Bool} {g : List Nat → List Nat → Bool} {f' : Int → Int → Bool} {g' : List Nat → List Nat → Bool} {fa fb fc : M R} {k : R → En → Prop} : okE (chF f g f' g' fa fb fc) en k x = okE fa en (fun ra en1 => okE fb en1 (fun rb en2 => shK (fun a => shK (fun b =>
    okL (ordB f g a b) fun t => bi t (okE fc en2 (fun rc en3 => shK (fun c => okL (ordB f' g' b c) fun t' => k (.sh (.bl t')) en3) rc) x) (k (.sh (.bl false)) en2)) rb) ra) x) x := by
  unfold okE chF two consF nilF
  cases e1 : fa en with
  | bad => rfl
  | exc e en1 => rfl
  | ok ra en1 =>
    dsimp only
    cases e2 : fb en1 with
    | bad => rfl
    | exc e en2 => rfl
    | ok rb en2 =>
      cases ra with
      | fr a => rfl
      | sl a => rfl
      | sh a =>
        cases rb with
        | fr a => rfl
        | sl a => rfl
        | sh b =>
          dsimp only [shK]
          cases et : ordB f g a b with
          | none => rfl
          | some t =>
            dsimp only [okL]
            cases t with
            | false => simp [bi]
            | true =>
              simp only [bi_true]
              cases ec : fc en2 with
              | bad => rfl
              | exc e en3 => rfl
              | ok rc en3 =>
                cases rc with
                | fr a => rfl
                | sl a => rfl
                | sh c =>
                  dsimp only
                  cases ordB f' g' b c <;> rfl
def callK (io : List Bool) (rs : List R) (en1 : En) (k : R → En → Prop) (x : Ex → En → Prop) (o : Out) (_ : Tg (k, x) := ⟨⟩) : Prop := match o with
  | .ret b d outs => (!(borrows io rs) || (!(io.elem true) && resFlat b d)) = true ∧ k (mkR b d) (putBack io rs outs en1)
  | .exc e outs => (!(borrows io rs) || (!(io.elem true) && excFlat e)) = true ∧ x e (putBack io rs outs en1)
  | .bad => False
theorem ok_call {io : List Bool} {φ : List D → Out} {fs : M (List R)} {k : R → En → Prop} : okE (callF io φ fs) en k x = okE fs en (fun rs en1 => okL (rsls en1 rs) fun ds => (lentOk io rs && nodupB (slotsOf rs)) = true ∧ okO (φ ds) fun o => callK io rs en1 k x o) x := by
  unfold okE callF
  cases fs en with
  | bad => rfl
  | exc e en1 => rfl
  | ok rs en1 =>
    dsimp only
    cases rsls en1 rs with
    | none => rfl
    | some ds =>
      dsimp only [okL]
      cases h : (lentOk io rs && nodupB (slotsOf rs)) with
      | false => simp
      | true =>
        simp only [true_and, okO]
        cases φ ds with
        | bad => rfl
        | ret b d outs =>
          dsimp only [callK]
          cases h2 : (!(borrows io rs) || (!(io.elem true) && resFlat b d)) with
          | false => simp
          | true => simp
        | exc e outs =>
          dsimp only [callK]
          cases h2 : (!(borrows io rs) || (!(io.elem true) && excFlat e)) with
          | false => simp
          | true => simp
theorem callK_ret {io : List Bool} {rs : List R} {en1 : En} {k : R → En → Prop} {b : Bool} {d : D} {outs : List D} : callK io rs en1 k x (.ret b d outs) = ((!(borrows io rs) || (!(io.elem true) && resFlat b d)) = true ∧ k (mkR b d) (putBack io rs outs en1)) := rfl
theorem callK_exc {io : List Bool} {rs : List R} {en1 : En} {k : R → En → Prop} {e : Ex} {outs : List D} : callK io rs en1 k x (.exc e outs) = ((!(borrows io rs) || (!(io.elem true) && excFlat e)) = true ∧ x e (putBack io rs outs en1)) := rfl
theorem ok_itA {h : List D → Option (List D)} {fs : M (List R)} {k : List D → En → Prop} : okE (itA h fs) en k x = okE fs en (fun rs en1 => okL (stos rs) fun ds => okL (h ds) fun out => k out en1) x := by
  unfold okE itA
  cases fs en with
  | bad => rfl
  | exc e en1 => rfl
  | ok rs en1 =>
    dsimp only
    cases stos rs with
    | none => rfl
    | some ds =>
      dsimp only [okL]
      cases h ds <;> rfl
theorem ok_lc {it : M (List D)} {g : D → M Unit} {tt : M Bool} {te : M R} {vs : List Nat} {k : R → En → Prop} : okE (lcF it g tt te vs) en k x = okE it en (fun ds en1 => vs.all (freeAt en1) = true ∧
    okE (lcL g tt te vs ds []) (wipeE vs en1) (fun acc en2 => k (.fr (.lst acc)) (resE vs en1 en2)) (fun _ _ => False)) x := by
  unfold okE lcF
  cases it en with
  | bad => rfl
  | exc e en1 => rfl
  | ok ds en1 =>
    dsimp only
    cases h : vs.all (freeAt en1) with
    | false => simp
    | true =>
      simp only [true_and]
      cases lcL g tt te vs ds [] (wipeE vs en1) <;> rfl
def mutG (b : Bool) (rs : List R) (en1 : En) : Option (List D) := match b with
  | true => stos rs
  | false => rsls en1 rs
def ownK (k : Bool → D → Prop) (o : Option Sl) (_ : Tg k := ⟨⟩) : Prop := match o with
  | some (.o b d) => k b d
  | _ => False
theorem ownK_o {k : Bool → D → Prop} {b : Bool} {d : D} : ownK k (some (.o b d)) = k b d := rfl
theorem ok_mut {st : Bool} {i : Nat} {isT : D → Bool} {g : D → List D → Option (D × D)} {fs : M (List R)} {k : R → En → Prop} : okE (mutF st i isT g fs) en k x = ownK (fun _ dd => isT dd = true ∧ okE fs en (fun rs en1 => okL (mutG st rs en1) fun ds => ownK (fun b d0 => okL (g d0 ds) fun dd => k (.sh dd.2) (en1.set i (.o b dd.1))) en1[i]?) x) en[i]? := by
  unfold okE mutF
  cases e : en[i]? with
  | none => rfl
  | some s =>
    cases s with
    | e => rfl
    | v d => rfl
    | o b d =>
      dsimp only [ownK]
      cases h1 : isT d with
      | false => simp
      | true =>
        simp only [true_and]
        cases e2 : fs en with
        | bad => rfl
        | exc e en1 => rfl
        | ok rs en1 =>
          cases st with
          | true =>
            dsimp only [mutG]
            cases e3 : stos rs with
            | none => rfl
            | some ds =>
              dsimp only [okL]
              cases e4 : en1[i]? with
              | none => rfl
              | some s =>
                cases s with
                | e => rfl
                | v d => rfl
                | o b d =>
                  dsimp only [ownK]
                  cases g d ds <;> rfl
          | false =>
            dsimp only [mutG]
            cases e3 : rsls en1 rs with
            | none => rfl
            | some ds =>
              dsimp only [okL]
              cases e4 : en1[i]? with
              | none => rfl
              | some s =>
                cases s with
                | e => rfl
                | v d => rfl
                | o b d =>
                  dsimp only [ownK]
                  cases g d ds <;> rfl
/-! statements -/
variable {k : Fl → Prop}
theorem os_sk : okS skF en k = k (.nx en) := rfl
theorem os_bk : okS bkF en k = k (.bk en) := rfl
theorem os_ct : okS ctF en k = k (.ct en) := rfl
def seqK (g : En → Fl) (k : Fl → Prop) (o : Fl) (_ : Tg k := ⟨⟩) : Prop := match o with
  | .nx en => okS g en k
  | .bad => False
  | o => k o
theorem seqK_nx {g : En → Fl} : seqK g k (.nx en) = okS g en k := rfl
theorem seqK_rt {g : En → Fl} {r : R} : seqK g k (.rt r en) = k (.rt r en) := rfl
theorem seqK_bk {g : En → Fl} : seqK g k (.bk en) = k (.bk en) := rfl
theorem seqK_ct {g : En → Fl} : seqK g k (.ct en) = k (.ct en) := rfl
theorem seqK_exc {g : En → Fl} {e : Ex} : seqK g k (.exc e en) = k (.exc e en) := rfl
theorem os_seq {f g : En → Fl} : okS (seqF f g) en k = (okS f en fun o => seqK g k o) := by
  unfold okS seqF
  cases f en <;> rfl
abbrev xk (k : Fl → Prop) : Ex → En → Prop := fun e en => k (.exc e en)
theorem os_dr {f : M R} : okS (drF f) en k = okE f en (fun _ en1 => k (.nx en1)) fun e en => k (.exc e en) := by
  unfold okS okE drF
  cases f en <;> rfl
theorem os_rt {f : M R} : okS (rtF f) en k = okE f en (fun r en1 => k (.rt r en1)) fun e en => k (.exc e en) := by
  unfold okS okE rtF
  cases f en <;> rfl
theorem os_if {t : M Bool} {f g : En → Fl} : okS (ifS t f g) en k = okE t en (fun b en1 => bi b (okS f en1 k) (okS g en1 k)) fun e en => k (.exc e en) := by
  unfold okE okS ifS
  cases t en with
  | bad => rfl
  | exc e en1 => rfl
  | ok b en1 => cases b <;> simp [bi]
def vK (i : Nat) (en1 : En) (k : Fl → Prop) (r : R) (_ : Tg k := ⟨⟩) : Prop := match r with
  | .sh d => k (.nx (en1.set i (.v d)))
  | .fr d => k (.nx (en1.set i (.v d)))
  | .sl _ => False
theorem vK_sh {i : Nat} {d : D} : vK i en k (.sh d) = k (.nx (en.set i (.v d))) := rfl
theorem vK_fr {i : Nat} {d : D} : vK i en k (.fr d) = k (.nx (en.set i (.v d))) := rfl
theorem os_asV {i : Nat} {f : M R} : okS (asV i f) en k = okE f en (fun r en1 => freeAt en1 i = true ∧ vK i en1 k r) fun e en => k (.exc e en) := by
  unfold okE okS asV
  cases f en with
  | bad => rfl
  | exc e en1 => rfl
  | ok r en1 =>
    dsimp only
    cases freeAt en1 i with
    | false => simp
    | true => cases r <;> simp [vK]
def oK (i : Nat) (en1 : En) (k : Fl → Prop) (r : R) (_ : Tg k := ⟨⟩) : Prop := match r with
  | .fr d => k (.nx (en1.set i (.o false d)))
  | _ => False
theorem oK_fr {i : Nat} {d : D} : oK i en k (.fr d) = k (.nx (en.set i (.o false d))) := rfl
theorem os_asO {i : Nat} {f : M R} : okS (asO i f) en k = okE f en (fun r en1 => freeAt en1 i = true ∧ oK i en1 k r) fun e en => k (.exc e en) := by
  unfold okE okS asO
  cases f en with
  | bad => rfl
  | exc e en1 => rfl
  | ok r en1 =>
    dsimp only
    cases freeAt en1 i with
    | false => simp
    | true => cases r <;> simp [oK]
theorem os_asG {g : D → M Unit} {f : M R} : okS (asG g f) en k = okE f en (fun r en1 => shK (fun d => okE (g d) en1 (fun _ en2 => k (.nx en2)) fun _ _ => False) r) fun e en => k (.exc e en) := by
  unfold okS okE asG
  cases e : f en with
  | bad => rfl
  | exc e1 en1 => rfl
  | ok r en1 =>
    cases r with
    | fr d => rfl
    | sl d => rfl
    | sh d =>
      dsimp only [shK]
      cases g d en1 <;> rfl
theorem ok_gNm {i : Nat} {d : D} {k : Unit → En → Prop} : okE (gNm i d) en k x = (freeAt en i = true ∧ k () (en.set i (.v d))) := by
  unfold okE gNm
  cases freeAt en i <;> simp
theorem ok_gTp {is : List Nat} {ds : List D} {k : Unit → En → Prop} : okE (gTp is (.tup ds)) en k x = okE (gNms is ds) en k x := rfl
theorem ok_gNms0 {k : Unit → En → Prop} : okE (gNms [] []) en k x = k () en := rfl
theorem ok_gNms1 {i : Nat} {is : List Nat} {d : D} {ds : List D} {k : Unit → En → Prop} : okE (gNms (i :: is) (d :: ds)) en k x = (freeAt en i = true ∧ okE (gNms is ds) (en.set i (.v d)) k x) := by
  unfold okE
  rw [show gNms (i :: is) (d :: ds) en = (match freeAt en i with | true => gNms is ds (en.set i (.v d)) | false => .bad) from rfl]
  cases freeAt en i <;> simp
def shK2 (k : D → D → Prop) (r : List R) (_ : Tg k := ⟨⟩) : Prop := match r with
  | [.sh d, .sh d'] => k d d'
  | _ => False
theorem shK2_sh {k : D → D → Prop} {d d' : D} : shK2 k [.sh d, .sh d'] = k d d' := rfl
theorem os_asP {i j : Nat} {fs : M (List R)} : okS (asP i j fs) en k = okE fs en (fun rs en1 => shK2 (fun d d' => freeAt en1 i = true ∧ freeAt en1 j = true ∧ k (.nx ((en1.set i (.v d)).set j (.v d')))) rs) fun e en => k (.exc e en) := by
  unfold okS okE asP
  cases e : fs en with
  | bad => rfl
  | exc e1 en1 => rfl
  | ok rs en1 =>
    dsimp only
    match rs with
    | [.sh d, .sh d'] =>
      dsimp only [shK2]
      cases freeAt en1 i <;> cases freeAt en1 j <;> simp
    | [] => rfl
    | [.fr _] => rfl
    | [.sl _] => rfl
    | [.sh _] => rfl
    | .fr _ :: _ :: _ => rfl
    | .sl _ :: _ :: _ => rfl
    | .sh _ :: .fr _ :: _ => rfl
    | .sh _ :: .sl _ :: _ => rfl
    | .sh _ :: .sh _ :: _ :: _ => rfl
theorem os_st {i : Nat} {fi fv : M R} {u : D → D → D → Option D} : okS (stF i fi fv u) en k = okE fv en (fun r en1 => okL (stoD r) fun d => ownK (fun _ _ => okE fi en1 (fun ri en2 => okL (rsl en2 ri) fun di => ownK (fun b d0 => okL (u d0 di d) fun d1 => k (.nx (en2.set i (.o b d1)))) en2[i]?) fun e en => k (.exc e en)) en1[i]?) fun e en => k (.exc e en) := by
  unfold okS okE stF
  cases e : fv en with
  | bad => rfl
  | exc e1 en1 => rfl
  | ok r en1 =>
    dsimp only
    cases e2 : stoD r with
    | none => rfl
    | some d =>
      dsimp only [okL]
      cases e3 : en1[i]? with
      | none => rfl
      | some s =>
        cases s with
        | e => rfl
        | v d => rfl
        | o b0 d00 =>
          dsimp only [ownK]
          cases e4 : fi en1 with
          | bad => rfl
          | exc e1 en2 => rfl
          | ok ri en2 =>
            dsimp only
            cases e5 : rsl en2 ri with
            | none => rfl
            | some di =>
              dsimp only [okL]
              cases e6 : en2[i]? with
              | none => rfl
              | some s =>
                cases s with
                | e => rfl
                | v d => rfl
                | o b d0 =>
                  dsimp only [ownK]
                  cases u d0 di d <;> rfl
theorem os_fr {it : M (List D)} {g : D → M Unit} {f : En → Fl} : okS (frF it g f) en k = okE it en (fun ds en1 => okS (frL g f ds) en1 k) fun e en => k (.exc e en) := by
  unfold okS okE frF
  cases it en <;> rfl
/-! defs -/
def defK (io : List Bool) (ds : List D) (k : Out → Prop) (o : Fl) (_ : Tg k := ⟨⟩) : Prop := match o with
  | .nx en => k (.ret false .non (outsOf io ds en))
  | .rt (.sh d) en => k (.ret false d (outsOf io ds en))
  | .rt (.fr d) en => k (.ret true d (outsOf io ds en))
  | .exc e en => k (.exc e (outsOf io ds en))
  | _ => False
theorem ok_run {io : List Bool} {n : Nat} {f : En → Fl} {ds : List D} {k : Out → Prop} : okO (runF io n f ds) k = okS f (mkE io ds ++ List.replicate n .e) (fun o => defK io ds k o) := by
  unfold okO okS runF
  cases f (mkE io ds ++ List.replicate n .e) with
  | rt r en => cases r <;> rfl
  | _ => rfl
theorem defK_nx {io : List Bool} {ds : List D} {k : Out → Prop} : defK io ds k (.nx en) = k (.ret false .non (outsOf io ds en)) := rfl
theorem defK_sh {io : List Bool} {ds : List D} {k : Out → Prop} {d : D} : defK io ds k (.rt (.sh d) en) = k (.ret false d (outsOf io ds en)) := rfl
theorem defK_fr {io : List Bool} {ds : List D} {k : Out → Prop} {d : D} : defK io ds k (.rt (.fr d) en) = k (.ret true d (outsOf io ds en)) := rfl
theorem defK_exc {io : List Bool} {ds : List D} {k : Out → Prop} {e : Ex} : defK io ds k (.exc e en) = k (.exc e (outsOf io ds en)) := rfl
/-! loops -/
theorem os_mono {f : En → Fl} {k k' : Fl → Prop} (h : okS f en k) (i : ∀ o, k o → k' o) : okS f en k' := by
  revert h
  unfold okS
  cases f en with
  | bad => exact id
  | _ => exact fun h => i _ h
theorem oe_mono {f : M α} {k k' : α → En → Prop} {x' : Ex → En → Prop} (h : okE f en k x) (i : ∀ a e, k a e → k' a e) (j : ∀ a e, x a e → x' a e) : okE f en k' x' := by
  revert h
  unfold okE
  cases f en with
  | bad => exact id
  | ok a e => exact fun h => i _ _ h
  | exc a e => exact fun h => j _ _ h
theorem oo_mono {o : Out} {k k' : Out → Prop} (h : okO o k) (i : ∀ o, k o → k' o) : okO o k' := by
  revert h
  unfold okO
  cases o with
  | bad => exact id
  | _ => exact fun h => i _ h
/-- a loop over a list: P by what is done and what is left -/
def loopK (nxt brk : En → Prop) (k : Fl → Prop) (o : Fl) (_ : Tg (nxt, brk, k) := ⟨⟩) : Prop := match o with
  | .nx en => nxt en
  | .ct en => nxt en
  | .bk en => brk en
  | .bad => False
  | o => k o
theorem loopK_nx {nxt brk : En → Prop} : loopK nxt brk k (.nx en) = nxt en := rfl
theorem loopK_ct {nxt brk : En → Prop} : loopK nxt brk k (.ct en) = nxt en := rfl
theorem loopK_bk {nxt brk : En → Prop} : loopK nxt brk k (.bk en) = brk en := rfl
theorem loopK_rt {nxt brk : En → Prop} {r : R} : loopK nxt brk k (.rt r en) = k (.rt r en) := rfl
theorem loopK_exc {nxt brk : En → Prop} {e : Ex} : loopK nxt brk k (.exc e en) = k (.exc e en) := rfl
theorem os_frL (P : List D → List D → En → Prop) {g : D → M Unit} {f : En → Fl} : ∀ (ds pre : List D) (en : En), P pre ds en → (∀ pre d ds en, P pre (d :: ds) en → okE (g d) en (fun _ en1 => okS f en1 (fun o => loopK (P (pre ++ [d]) ds) (fun en2 => k (.nx en2)) k o)) fun _ _ => False) →
    (∀ pre en, P pre [] en → k (.nx en)) → okS (frL g f ds) en k
  | [], pre, en, h0, hs, hd => hd pre en h0
  | d :: ds, pre, en, h0, hs, hd => by
    have h := hs pre d ds en h0
    unfold okE at h
    unfold okS frL
    cases e1 : g d en with
    | bad => rw [e1] at h; exact h.elim
    | exc e1 en1 => rw [e1] at h; exact h.elim
    | ok u en1 =>
      rw [e1] at h
      dsimp only at h ⊢
      unfold okS at h
      have ih := fun en2 h2 => os_frL P ds (pre ++ [d]) en2 h2 hs hd
      unfold okS at ih
      cases e2 : f en1 with
      | bad => rw [e2] at h; exact h
      | nx en2 => rw [e2] at h; exact ih en2 h
      | ct en2 => rw [e2] at h; exact ih en2 h
      | bk en2 => rw [e2] at h; exact h
      | rt r en2 => rw [e2] at h; exact h
      | exc r en2 => rw [e2] at h; exact h
/-- the same, P by what is left alone -/
theorem os_for (P : En → Prop) {g : D → M Unit} {f : En → Fl} {ds : List D} (h0 : P en) (hs : ∀ d, d ∈ ds → ∀ en, P en → okE (g d) en (fun _ en1 => okS f en1 (fun o => loopK P (fun en2 => k (.nx en2)) k o)) fun _ _ => False) (hd : ∀ en, P en → k (.nx en)) : okS (frL g f ds) en k := by
  refine os_frL (fun _ r en => P en ∧ ∀ d, d ∈ r → d ∈ ds) ds [] en ⟨h0, fun _ h => h⟩ ?_ ?_
  · rintro pre d r en ⟨h, m⟩
    refine oe_mono (hs d (m d (by simp)) en h) (fun _ e1 h1 => os_mono h1 ?_) fun _ _ h => h
    intro o ho
    cases o with
    | nx e => exact ⟨ho, fun d hd => m d (by simp [hd])⟩
    | ct e => exact ⟨ho, fun d hd => m d (by simp [hd])⟩
    | _ => exact ho
  · exact fun _ en h => hd en h.1
/-- a loop by a number of turns -/
theorem os_while (P : Nat → En → Prop) {t : M Bool} {f : En → Fl} : ∀ (n m : Nat) (en : En), m < n → P m en → (∀ m en, P m en → okE t en (fun b en1 => bi b (okS f en1 (fun o => loopK (fun en2 => ∃ m', m' < m ∧ P m' en2) (fun en2 => k (.nx en2)) k o)) (k (.nx en1))) fun e en => k (.exc e en)) → okS (whF t f n) en k
  | 0, m, en, hm, _, _ => absurd hm (Nat.not_lt_zero _)
  | n + 1, m, en, hm, h0, hs => by
    have h := hs m en h0
    unfold okE at h
    unfold okS whF
    cases e1 : t en with
    | bad => rw [e1] at h; exact h.elim
    | exc e1 en1 => rw [e1] at h; exact h
    | ok b en1 =>
      rw [e1] at h
      have h := bi_eq h
      cases b with
      | false => exact h
      | true =>
        dsimp only at h ⊢
        unfold okS at h
        have ih := fun m' en2 hm' h2 => os_while P n m' en2 (Nat.lt_of_lt_of_le hm' (Nat.le_of_lt_succ hm)) h2 hs
        unfold okS at ih
        cases e2 : f en1 with
        | bad => rw [e2] at h; exact h
        | nx en2 => rw [e2] at h; obtain ⟨m', h1, h2⟩ := h; exact ih m' en2 h1 h2
        | ct en2 => rw [e2] at h; obtain ⟨m', h1, h2⟩ := h; exact ih m' en2 h1 h2
        | bk en2 => rw [e2] at h; exact h
        | rt r en2 => rw [e2] at h; exact h
        | exc r en2 => rw [e2] at h; exact h
/-- a comprehension: P by what is done, what is left, what is gathered -/
theorem ok_lcL (P : List D → List D → List D → En → Prop) {g : D → M Unit} {tt : M Bool} {te : M R} {vs : List Nat} {k : List D → En → Prop} : ∀ (ds pre acc : List D) (en : En), P pre ds acc en →
    (∀ pre d ds acc en, P pre (d :: ds) acc en → okE (g d) en (fun _ en1 => okE tt en1 (fun b en2 => bi b (okE te en2 (fun r en3 => okL (stoD r) fun y => acc.length < 1000000 ∧ P (pre ++ [d]) ds (acc ++ [y]) (wipeE vs en3)) fun _ _ => False) (P (pre ++ [d]) ds acc (wipeE vs en2))) fun _ _ => False) fun _ _ => False) →
    (∀ pre acc en, P pre [] acc en → k acc en) → okE (lcL g tt te vs ds acc) en k x
  | [], pre, acc, en, h0, hs, hd => hd pre acc en h0
  | d :: ds, pre, acc, en, h0, hs, hd => by
    have h := hs pre d ds acc en h0
    unfold okE lcL
    unfold okE at h
    have ih := fun acc' en2 h2 => ok_lcL P ds (pre ++ [d]) acc' en2 h2 hs hd
    unfold okE at ih
    cases e1 : g d en with
    | bad => rw [e1] at h; exact h.elim
    | exc e1 en1 => rw [e1] at h; exact h.elim
    | ok u en1 =>
      rw [e1] at h
      dsimp only at h ⊢
      cases e2 : tt en1 with
      | bad => rw [e2] at h; exact h.elim
      | exc e2 en2 => rw [e2] at h; exact h.elim
      | ok b en2 =>
        rw [e2] at h
        have h := bi_eq h
        cases b with
        | false => exact ih acc _ h
        | true =>
          dsimp only at h ⊢
          cases e3 : te en2 with
          | bad => rw [e3] at h; exact h.elim
          | exc e2 en2 => rw [e3] at h; exact h.elim
          | ok r en3 =>
            rw [e3] at h
            dsimp only at h ⊢
            cases e4 : stoD r with
            | none => rw [e4] at h; exact h.elim
            | some y =>
              rw [e4] at h
              obtain ⟨hl, h⟩ := h
              dsimp only
              rw [decide_eq_true hl]
              exact ih _ _ h
end
end PyD

namespace PyD
open PySem PySem.Spec L2

/-! ### texts as lists of signs -/
def tx (l : List Nat) : Str := ⟨l.toArray⟩
theorem tx_of (s : Str) : s = tx s.cps.toList := rfl
theorem tx_inj {a b : List Nat} (h : tx a = tx b) : a = b := by
  unfold tx at h
  have := Str.mk.inj h
  simpa using this
theorem tx_eq {a b : List Nat} : (tx a = tx b) = (a = b) := propext ⟨tx_inj, fun h => by rw [h]⟩
theorem tx_len (l : List Nat) : (tx l).length = l.length := by simp [tx, Str.length]
theorem tx_list (l : List Nat) : (tx l).cps.toList = l := by simp [tx]
theorem tx_app (a b : List Nat) : tx a ++ tx b = tx (a ++ b) := by
  show Str.append (tx a) (tx b) = _
  simp [tx, Str.append]
theorem line_eq : sizeLine = 16777216 := rfl
theorem add_tx {a b : List Nat} : addD [.str (tx a), .str (tx b)] = if a.length + b.length ≤ 16777216 then some (false, .str (tx (a ++ b))) else none := by
  simp only [addD, tx_len, tx_app, line_eq]
theorem add_int {a b : Int} : addD [.int a, .int b] = some (false, .int (a + b)) := rfl
theorem add_ib {a : Int} {b : Bool} : addD [.int a, .bl b] = some (false, .int (a + PyProof.Rows.b2i b)) := rfl
theorem add_lst {a b : List D} : addD [.lst a, .lst b] = if a.length + b.length ≤ 16777216 then some (true, .lst (a ++ b)) else none := rfl
theorem add_tup {a b : List D} : addD [.tup a, .tup b] = if a.length + b.length ≤ 16777216 then some (false, .tup (a ++ b)) else none := rfl
theorem sub_int {a b : Int} : subD [.int a, .int b] = some (false, .int (a - b)) := rfl
theorem mul_int {a b : Int} : mulD [.int a, .int b] = if mulOk a b then some (false, .int (a * b)) else none := rfl
theorem mod_int {a b : Int} : modD [.int a, .int b] = if 0 < b then some (false, .int (a % b)) else none := by
  by_cases h : 0 < b
  · simp [modD, int2, h]
  · simp [modD, int2, h]
theorem fdv_int {a b : Int} : fdvD [.int a, .int b] = if 0 < b ∧ b.natAbs.log2 ≤ 8000 then some (false, .int (a / b)) else none := by
  by_cases h : 0 < b ∧ b.natAbs.log2 ≤ 8000
  · simp [fdvD, int2, h]
  · simp only [fdvD, int2, if_neg h]
    rfl
theorem pow_int {a b : Int} : powD [.int a, .int b] = if 0 ≤ b ∧ b ≤ 1000 ∧ a.natAbs < 2 ^ 64 then some (false, .int (a ^ b.toNat)) else none := by
  by_cases h : 0 ≤ b ∧ b ≤ 1000 ∧ a.natAbs < 2 ^ 64
  · simp only [powD, int2, if_pos h]
    rfl
  · simp only [powD, int2, if_neg h]
    rfl
theorem neg_int {a : Int} : negD [.int a] = some (false, .int (-a)) := rfl
def okT (l : List Nat) : Prop := ∀ c ∈ l, c < 1114112
theorem strOk_tx {l : List Nat} : PyData.strOk (tx l) = true ↔ okT l := by
  simp [PyData.strOk, tx, okT]
theorem shaped_int (a : Int) : SeqAt.shaped (.int a) = true := rfl
theorem shaped_bl (a : Bool) : SeqAt.shaped (.bool a) = true := rfl
theorem shaped_non : SeqAt.shaped .none = true := rfl
theorem shaped_str {l : List Nat} (h : okT l) : SeqAt.shaped (.str (tx l)) = true := by
  have := strOk_tx.mpr h
  simp [SeqAt.shaped, PyData.canLay0, PyData.depth, this]
theorem dec_eq {α : Type} [DecidableEq α] (a b : α) : (a == b) = decide (a = b) := by
  by_cases h : a = b
  · simp [h]
  · simp [h]
theorem eq_int {a b : Int} : eqD (.int a) (.int b) = some (decide (a = b)) := by
  simp only [eqD, toPy, shaped_int, and_self, if_true, PyData.eqv, dec_eq]
theorem eq_bl {a b : Bool} : eqD (.bl a) (.bl b) = some (decide (a = b)) := by
  simp only [eqD, toPy, shaped_bl, and_self, if_true, PyData.eqv, dec_eq]
theorem eq_non {d : D} (h : toPy d = some .none) : eqD .non d = some true := by
  simp only [eqD, toPy, h, shaped_non, and_self, if_true, PyData.eqv]
theorem okL_eqtx {a b : List Nat} {k : Bool → Prop} (h : okT a) (h' : okT b) (hk : k (decide (a = b))) : okL (eqD (.str (tx a)) (.str (tx b))) k := by
  have e : eqD (.str (tx a)) (.str (tx b)) = some (decide (a = b)) := by
    simp only [eqD, toPy, shaped_str h, shaped_str h', and_self, if_true, PyData.eqv, dec_eq, tx_eq]
  rw [e]
  exact hk
theorem eqOp_eq {n : Bool} {a b : D} : eqOp n [a, b] = (eqD a b).map fun k => (false, .bl (k != n)) := rfl
theorem ne_false (b : Bool) : (b != false) = b := by cases b <;> rfl
theorem ne_true (b : Bool) : (b != true) = !b := by cases b <;> rfl
theorem len_tx {l : List Nat} : lenD [.str (tx l)] = if l.length ≤ 16777216 then some (false, .int l.length) else none := by
  simp only [lenD, tx_len, line_eq]
theorem len_lst {l : List D} : lenD [.lst l] = some (false, .int l.length) := rfl
theorem len_tup {l : List D} : lenD [.tup l] = some (false, .int l.length) := rfl
theorem len_scr {l : List Int} : lenD [.scr l] = some (false, .int l.length) := rfl
theorem len_dic {l : List (Key × D)} : lenD [.dic l] = some (false, .int l.length) := rfl
theorem ix_lst {l : List D} {i : Int} : ixUD [.lst l, .int i] = (atI l i).map fun d => (false, d) := rfl
theorem ix_tup {l : List D} {i : Int} : ixUD [.tup l, .int i] = (atI l i).map fun d => (false, d) := rfl
theorem ix_scr {l : List Int} {i : Int} : ixUD [.scr l, .int i] = (atI l i).map fun n => (false, .int n) := rfl
theorem ix_tx {l : List Nat} {i : Int} : ixUD [.str (tx l), .int i] = if l.length ≤ 16777216 then (atI l i).map fun c => (false, .str (tx [c])) else none := by
  show ixD [.str (tx l), .int i] = _
  simp only [ixD, tx_len, tx_list, line_eq]
  rfl
theorem ix_dic {l : List (Key × D)} {y : D} : ixUD [.dic l, y] = match keyOf y with
    | some k => (valD l k).map fun d => (false, d)
    | none => none := rfl
theorem at_0 {α : Type} {a : α} {l : List α} : atI (a :: l) 0 = some a := by simp [atI, ixN]
theorem at_1 {α : Type} {a b : α} {l : List α} : atI (a :: b :: l) 1 = some b := by
  have : (1 : Int) < ((l.length : Int) + 1 + 1) := by omega
  simp [atI, ixN, this]
theorem at_2 {α : Type} {a b c : α} {l : List α} : atI (a :: b :: c :: l) 2 = some c := by
  have : (2 : Int) < ((l.length : Int) + 1 + 1 + 1) := by omega
  simp [atI, ixN, this]
theorem okL_at {α : Type} {l : List α} {i : Int} {k : α → Prop} (h0 : 0 ≤ i) (h1 : i < l.length) (hk : ∀ x, l[i.toNat]? = some x → k x) : okL (atI l i) k := by
  have hn : i.toNat < l.length := by omega
  have e : atI l i = some l[i.toNat] := by
    unfold atI ixN
    rw [if_pos h0, if_pos h1]
    simp [hn]
  rw [e]
  exact hk _ (by simp [hn])
theorem okL_atMem {α : Type} {l : List α} {i : Int} {k : α → Prop} (h0 : 0 ≤ i) (h1 : i < l.length) (hk : ∀ x, x ∈ l → k x) : okL (atI l i) k :=
  okL_at h0 h1 fun x e => hk x (List.mem_of_getElem? e)
theorem ixN_at {n : Nat} {i : Int} (h0 : 0 ≤ i) (h1 : i < n) : ixN n i = some i.toNat := by
  unfold ixN
  rw [if_pos h0, if_pos h1]
theorem set_lst {xs : List D} {i : Int} {d : D} : setD (.lst xs) (.int i) d = (ixN xs.length i).map fun j => .lst (xs.set j d) := rfl
theorem set_dic {kvs : List (Key × D)} {k : Key} {y d : D} (h : keyOf y = some k) : setD (.dic kvs) y d = if kvs.length < 1000000 then some (.dic (putD kvs k d)) else none := by
  simp only [setD, h]
theorem app_lst {xs : List D} {d : D} : appM (.lst xs) [d] = if xs.length < 1000000 then some (.lst (xs ++ [d]), .non) else none := rfl
theorem ixN_30 : ixN 3 0 = some 0 := by decide
theorem ixN_31 : ixN 3 1 = some 1 := by decide
theorem ixN_32 : ixN 3 2 = some 2 := by decide
theorem ixN_20 : ixN 2 0 = some 0 := by decide
theorem ixN_21 : ixN 2 1 = some 1 := by decide
theorem ixN_10 : ixN 1 0 = some 0 := by decide
theorem sl_tx {l : List Nat} {lo hi : Option Int} : slD (.str (tx l)) lo hi = if l.length ≤ 16777216 then some (false, .str (tx (cutL l lo hi))) else none := by
  simp only [slD, tx_len, tx_list, line_eq]
  rfl
theorem sl_lst {l : List D} {lo hi : Option Int} : slD (.lst l) lo hi = some (true, .lst (cutL l lo hi)) := rfl
theorem sl_tup {l : List D} {lo hi : Option Int} : slD (.tup l) lo hi = some (false, .tup (cutL l lo hi)) := rfl
theorem sl_scr {l : List Int} {lo hi : Option Int} : slD (.scr l) lo hi = some (true, .lst ((cutL l lo hi).map .int)) := rfl
theorem sIx_pos {n d : Nat} {i : Int} (h : 0 ≤ i) : HT.sIx n d (some i) = min i.toNat n := by
  obtain ⟨k, rfl⟩ := Int.eq_ofNat_of_zero_le h
  exact HT.sIx_nat n d k
theorem cut_mid {α : Type} {l : List α} {i j : Int} (hi : 0 ≤ i) (hj : 0 ≤ j) : cutL l (some i) (some j) = (l.take j.toNat).drop i.toNat := by
  unfold cutL
  rw [sIx_pos hi, sIx_pos hj]
  apply List.ext_getElem?
  intro n
  simp only [List.getElem?_take, List.getElem?_drop]
  have hl : l.length ≤ n + i.toNat → l[i.toNat + n]? = none := fun h => List.getElem?_eq_none (by omega)
  by_cases h1 : i.toNat ≤ l.length
  · rw [Nat.min_eq_left h1]
    by_cases h2 : i.toNat + n < l.length
    · by_cases h3 : i.toNat + n < j.toNat
      · rw [if_pos (by omega), if_pos h3]
      · rw [if_neg (by omega), if_neg h3]
    · rw [hl (by omega)]
      split <;> split <;> rfl
  · rw [hl (by omega)]
    have e : l[min i.toNat l.length + n]? = none := List.getElem?_eq_none (by omega)
    rw [e]
    split <;> split <;> rfl
theorem cut_to {α : Type} {l : List α} {j : Int} (hj : 0 ≤ j) : cutL l none (some j) = l.take j.toNat := by
  unfold cutL
  rw [sIx_pos hj, HT.sIx_none, List.drop_zero, Nat.sub_zero]
  by_cases h : j.toNat ≤ l.length
  · rw [Nat.min_eq_left h]
  · rw [Nat.min_eq_right (by omega), List.take_of_length_le (Nat.le_refl _), List.take_of_length_le (by omega)]
theorem cut_from {α : Type} {l : List α} {i : Int} (hi : 0 ≤ i) : cutL l (some i) none = l.drop i.toNat := by
  unfold cutL
  rw [sIx_pos hi, HT.sIx_none]
  by_cases h : i.toNat ≤ l.length
  · rw [Nat.min_eq_left h, List.take_of_length_le (by simp)]
  · rw [Nat.min_eq_right (by omega), Nat.sub_self, List.take_zero, List.drop_eq_nil_of_le (by omega)]
def bj (c p q : Prop) (_ : Tg (p, q) := ⟨⟩) : Prop := (c → p) ∧ (¬ c → q)
theorem bj_mk {c p q : Prop} (h : c → p) (h' : ¬ c → q) : bj c p q := ⟨h, h'⟩
theorem bj_t {c p q : Prop} (h : c) (h' : p) : bj c p q := ⟨fun _ => h', fun z => absurd h z⟩
theorem bj_f {c p q : Prop} (h : ¬ c) (h' : q) : bj c p q := ⟨fun z => absurd z h, fun _ => h'⟩
theorem bj_true {p q : Prop} : bj True p q = p := by simp [bj]
theorem bj_false {p q : Prop} : bj False p q = q := by simp [bj]
theorem bj_not {c p q : Prop} [Decidable c] : bj (¬ c) p q = bj c q p := by
  by_cases h : c <;> simp [bj, h]
theorem bi_dec {c : Prop} [Decidable c] {p q : Prop} : bi (decide c) p q = bj c p q := by
  unfold bi bj
  by_cases h : c
  · simp [h]
  · simp [h]
theorem bi_not {b : Bool} {p q : Prop} : bi (!b) p q = bi b q p := by cases b <;> simp [bi]
theorem bi_not_dec {c : Prop} [Decidable c] {p q : Prop} : bi (!decide c) p q = bj c q p := by rw [bi_not, bi_dec]
theorem joined_flat (sep : Str) : ∀ texts : List Str, (Txt.join sep texts) = Txt.join sep texts := fun _ => rfl
theorem fr_e {en : En} {i : Nat} (h : en[i]? = some .e) : freeAt en i = true := by simp [freeAt, h]
/-- a slot that may be stored to -/
def frS : Sl → Bool
  | .o true _ => false
  | _ => true
theorem free_of {en : En} {i : Nat} {s : Sl} (h : en[i]? = some s) (f : frS s = true) : freeAt en i = true := by
  unfold freeAt
  rw [h]
  cases s with
  | e => rfl
  | v d => rfl
  | o b d => cases b <;> first | rfl | cases f
theorem frS_e : frS .e = true := rfl
theorem frS_v {d : D} : frS (.v d) = true := rfl
theorem frS_o {d : D} : frS (.o false d) = true := rfl
def frK (p : Prop) : Option Sl → Prop
  | some s => frS s = true ∧ p
  | none => False
theorem free_eq {en : En} {i : Nat} : (freeAt en i = true) = (match en[i]? with | some s => frS s = true | none => False) := by
  unfold freeAt
  cases en[i]? with
  | none => simp
  | some s =>
    cases s with
    | e => simp [frS]
    | v d => simp [frS]
    | o b d => cases b <;> simp [frS]
/-- a cut in a row of statements -/
def nxK (mid : En → Prop) (o : Fl) (_ : Tg mid := ⟨⟩) : Prop := match o with
  | .nx en => mid en
  | _ => False
theorem nxK_nx {mid : En → Prop} {en : En} : nxK mid (.nx en) = mid en := rfl
theorem os_cut (mid : En → Prop) {f g : En → Fl} {en : En} {k : Fl → Prop} (h1 : okS f en fun o => nxK mid o) (h2 : ∀ en1, mid en1 → okS g en1 k) : (okS f en fun o => seqK g k o) :=
  os_mono h1 fun o h => by
    cases o with
    | nx en1 => exact h2 en1 h
    | _ => exact h.elim
end PyD

namespace PyD
open PySem PySem.Spec L2
def joinL (sep : List Nat) : List (List Nat) → List Nat
  | [] => []
  | [x] => x
  | x :: y :: r => x ++ sep ++ joinL sep (y :: r)
theorem join_tx (sep : List Nat) (ls : List (List Nat)) : Txt.join (tx sep) (ls.map tx) = tx (joinL sep ls) := by
  show Builtin.Str.glued _ _ = _
  rw [StrLaws.glued_eq_join]
  induction ls with
  | nil => rfl
  | cons x r ih =>
    cases r with
    | nil => rfl
    | cons y r =>
      show tx x ++ tx sep ++ Str.join (tx sep) ((y :: r).map tx) = _
      rw [ih, tx_app, tx_app]
      rfl
theorem joinL_nil : ∀ ls : List (List Nat), joinL [] ls = ls.flatten
  | [] => rfl
  | [x] => by simp [joinL]
  | x :: y :: r => by
    show x ++ [] ++ joinL [] (y :: r) = _
    rw [joinL_nil (y :: r)]
    simp
def dtx (l : List Nat) : D := .str (tx l)
theorem asStrs_tx (ls : List (List Nat)) : asStrs (ls.map dtx) = some (ls.map tx) := by
  have : ls.map dtx = (ls.map tx).map D.str := by simp [dtx, Function.comp_def]
  rw [this, asStrs_map]
theorem lens_tx (ls : List (List Nat)) : ((ls.map tx).map fun s => s.length) = ls.map List.length := by
  simp [Function.comp_def, tx_len]
theorem join_lst {sep : List Nat} {ls : List (List Nat)} : joinD [.str (tx sep), .lst (ls.map dtx)] = if (ls.map List.length).sum + ls.length * sep.length ≤ 16777216 then some (false, .str (tx (joinL sep ls))) else none := by
  simp only [joinD, asStrs_tx, lens_tx, join_tx, tx_len, List.length_map]
theorem sum_ones : ∀ {ls : List (List Nat)}, (∀ l ∈ ls, l.length = 1) → (ls.map List.length).sum = ls.length
  | [], _ => rfl
  | l :: ls, h => by
    rw [List.map_cons, List.sum_cons, h l (by simp), sum_ones (fun x hx => h x (by simp [hx])), List.length_cons]
    omega
theorem in_lst {n : Bool} {x : D} {ds : List D} (hx : flatS x = true) (h : ds.all flatS = true) : inUD n [x, .lst ds] = some (false, .bl ((ds.any fun y => eqS y x) != n)) := by
  show inOp n [x, .lst ds] = _
  simp only [inOp, hx, h, and_self, if_true]
theorem int_bl {b : Bool} : intD [.bl b] = some (false, .int (if b then 1 else 0)) := rfl
theorem int_int {i : Int} : intD [.int i] = some (false, .int i) := rfl
theorem list_lst {ds : List D} : listD [.lst ds] = some (true, .lst ds) := rfl
theorem list_tup {ds : List D} : listD [.tup ds] = some (true, .lst ds) := rfl
theorem list_scr {ns : List Int} : listD [.scr ns] = some (true, .lst (ns.map .int)) := rfl
theorem tuple_lst {ds : List D} : tupleD [.lst ds] = some (false, .tup ds) := rfl
theorem tuple_tup {ds : List D} : tupleD [.tup ds] = some (false, .tup ds) := rfl
theorem max2_int {i j : Int} : max2D [.int i, .int j] = some (false, .int (maxI i j)) := rfl
theorem min2_int {i j : Int} : min2D [.int i, .int j] = some (false, .int (minI i j)) := rfl
theorem isi_int {i : Int} {T : String} : isiD T [.int i] = some (false, .bl (isTy "int" T)) := rfl
theorem isi_bl {i : Bool} {T : String} : isiD T [.bl i] = some (false, .bl (isTy "bool" T)) := rfl
theorem isi_str {i : Str} {T : String} : isiD T [.str i] = some (false, .bl (isTy "str" T)) := rfl
theorem isi_tup {ds : List D} {T : String} : isiD T [.tup ds] = some (false, .bl (isTy "tuple" T)) := rfl
theorem isi_lst {ds : List D} {T : String} : isiD T [.lst ds] = some (false, .bl (isTy "list" T)) := rfl
theorem isi_non {T : String} : isiD T [.non] = some (false, .bl (isTy "NoneType" T)) := rfl
theorem isi_dic {ds : List (Key × D)} {T : String} : isiD T [.dic ds] = some (false, .bl (isTy "dict" T)) := rfl
theorem ty_ii : isTy "int" "int" = true := by decide
theorem ty_ib : isTy "int" "bool" = false := by decide
theorem ty_is : isTy "int" "str" = false := by decide
theorem ty_it : isTy "int" "tuple" = false := by decide
theorem ty_il : isTy "int" "list" = false := by decide
theorem ty_bi : isTy "bool" "int" = true := by decide
theorem ty_bb : isTy "bool" "bool" = true := by decide
theorem ty_bs : isTy "bool" "str" = false := by decide
theorem ty_bt : isTy "bool" "tuple" = false := by decide
theorem ty_bL : isTy "bool" "list" = false := by decide
theorem ty_si : isTy "str" "int" = false := by decide
theorem ty_sb : isTy "str" "bool" = false := by decide
theorem ty_ss : isTy "str" "str" = true := by decide
theorem ty_st : isTy "str" "tuple" = false := by decide
theorem ty_sl : isTy "str" "list" = false := by decide
theorem ty_ti : isTy "tuple" "int" = false := by decide
theorem ty_tb : isTy "tuple" "bool" = false := by decide
theorem ty_ts : isTy "tuple" "str" = false := by decide
theorem ty_tt : isTy "tuple" "tuple" = true := by decide
theorem ty_tl : isTy "tuple" "list" = false := by decide
theorem ty_li : isTy "list" "int" = false := by decide
theorem ty_lb : isTy "list" "bool" = false := by decide
theorem ty_ls : isTy "list" "str" = false := by decide
theorem ty_lt : isTy "list" "tuple" = false := by decide
theorem ty_ll : isTy "list" "list" = true := by decide
theorem ty_ni : isTy "NoneType" "int" = false := by decide
theorem ty_nb : isTy "NoneType" "bool" = false := by decide
theorem ty_ns : isTy "NoneType" "str" = false := by decide
theorem ty_nt : isTy "NoneType" "tuple" = false := by decide
theorem ty_nl : isTy "NoneType" "list" = false := by decide
theorem b2i_t : PyProof.Rows.b2i true = 1 := rfl
theorem rg1 {j : Int} : rg1D [.int j] = if -(2 ^ 62) ≤ j ∧ j < 2 ^ 62 then some (upL 0 j.toNat) else none := rfl
theorem rg2 {i j : Int} : rg2D [.int i, .int j] = if -(2 ^ 62) ≤ i ∧ i < 2 ^ 62 ∧ -(2 ^ 62) ≤ j ∧ j < 2 ^ 62 then some (upL i (j - i).toNat) else none := rfl
theorem rg3 {i j k : Int} : rg3D [.int i, .int j, .int k] = if -(2 ^ 62) ≤ i ∧ i < 2 ^ 62 ∧ -(2 ^ 62) ≤ j ∧ j < 2 ^ 62 ∧ k = -1 then some (stepL i (-1) (i - j).toNat) else none := rfl
theorem it_lst {ds : List D} : itD [.lst ds] = some ds := rfl
theorem it_tup {ds : List D} : itD [.tup ds] = some ds := rfl
theorem it_scr {ns : List Int} : itD [.scr ns] = some (ns.map .int) := rfl
theorem it_str {l : List Nat} : itD [.str (tx l)] = some (l.map fun c => .str (tx [c])) := by
  simp only [itD, itemsD, sgnL, tx_list]
  rfl
theorem enum_lst {ds : List D} : enumD [.lst ds] = some (enumL ds) := rfl
theorem zip_lst {as bs : List D} : zipD [.lst as, .lst bs] = some (zipL as bs) := rfl
theorem zip_tup {as bs : List D} : zipD [.tup as, .tup bs] = some (zipL as bs) := rfl
theorem rev_lst {as : List D} : revItD [.lst as] = some as.reverse := rfl
theorem rev_tup {as : List D} : revItD [.tup as] = some as.reverse := rfl
theorem mem_upL {d : D} {lo : Int} {n : Nat} (h : d ∈ upL lo n) : ∃ i : Nat, i < n ∧ d = .int (lo + i) := by
  obtain ⟨i, hi, rfl⟩ : ∃ i, i < n ∧ D.int (lo + (i : Int)) = d := by simpa [upL] using h
  exact ⟨i, hi, rfl⟩
theorem upL_zero (lo : Int) : upL lo 0 = [] := rfl
theorem upL_succ (lo : Int) (n : Nat) : upL lo (n + 1) = .int lo :: upL (lo + 1) n := by
  unfold upL
  rw [List.range_succ_eq_map, List.map_cons, List.map_map]
  congr 1
  · simp
  · apply List.map_congr_left
    intro i _
    simp
    omega
theorem upL_len (lo : Int) (n : Nat) : (upL lo n).length = n := by simp [upL]
theorem tru_int {i : Int} : truD (.int i) = some (decide (i ≠ 0)) := by
  by_cases h : i = 0
  · simp [truD, h]
  · simp [truD, h]
theorem tru_bl {i : Bool} : truD (.bl i) = some i := rfl
theorem tru_lst {l : List D} : truD (.lst l) = some (!l.isEmpty) := rfl
theorem tru_tup {l : List D} : truD (.tup l) = some (!l.isEmpty) := rfl
theorem yesT_ok {en : En} {k : Bool → En → Prop} {x : Ex → En → Prop} : okE yesT en k x = k true en := rfl
/-! loops, one invariant over slots -/
/-- a comprehension by an invariant over the environment and one over what is gathered -/
theorem ok_lcI (P : List D → En → Prop) {g : D → M Unit} {tt : M Bool} {te : M R} {vs : List Nat} {x : Ex → En → Prop} {k : List D → En → Prop} {ds : List D} {en : En} (h0 : P [] en) (hn : ds.length ≤ 1000000)
    (hs : ∀ d, d ∈ ds → ∀ acc en, acc.length < ds.length → P acc en → okE (g d) en (fun _ en1 => okE tt en1 (fun b en2 => bi b (okE te en2 (fun r en3 => okL (stoD r) fun y => P (acc ++ [y]) (wipeE vs en3)) fun _ _ => False) (P acc (wipeE vs en2))) fun _ _ => False) fun _ _ => False)
    (hd : ∀ acc en, acc.length ≤ ds.length → P acc en → k acc en) : okE (lcL g tt te vs ds []) en k x := by
  refine ok_lcL (fun pre r acc en => P acc en ∧ pre.length + r.length = ds.length ∧ acc.length ≤ pre.length ∧ ∀ d, d ∈ r → d ∈ ds) ds [] [] en ⟨h0, by simp, by simp, fun _ h => h⟩ ?_ ?_
  · rintro pre d r acc en ⟨h, hl, ha, m⟩
    rw [List.length_cons] at hl
    have := hs d (m d (by simp)) acc en (by omega) h
    refine oe_mono this (fun _ e1 h1 => oe_mono h1 (fun b e2 h2 => ?_) fun _ _ z => z) fun _ _ z => z
    cases b with
    | false => rw [bi_false] at h2 ⊢; exact ⟨h2, by simp; omega, by simp; omega, fun d hd => m d (by simp [hd])⟩
    | true =>
      rw [bi_true] at h2 ⊢
      refine oe_mono h2 (fun r3 e3 h3 => ?_) fun _ _ z => z
      revert h3
      cases stoD r3 with
      | none => exact id
      | some y =>
        intro h3
        refine ⟨by omega, h3, by simp; omega, by simp; omega, fun d hd => m d (by simp [hd])⟩
  · rintro pre acc en ⟨h, hl, ha, m⟩
    exact hd acc en (by simp at hl; omega) h
/-- a loop over a list, by the number of turns -/
theorem os_ix (P : Nat → En → Prop) {g : D → M Unit} {f : En → Fl} {ds : List D} {en : En} {k : Fl → Prop} (h0 : P 0 en) (hs : ∀ i d, ds[i]? = some d → ∀ en, P i en → okE (g d) en (fun _ en1 => okS f en1 (fun o => loopK (P (i + 1)) (fun en2 => k (.nx en2)) k o)) fun _ _ => False)
    (hd : ∀ en, P ds.length en → k (.nx en)) : okS (frL g f ds) en k := by
  refine os_frL (fun pre r en => P pre.length en ∧ pre ++ r = ds) ds [] en ⟨h0, rfl⟩ ?_ ?_
  · rintro pre d r en ⟨h, e⟩
    have hg : ds[pre.length]? = some d := by rw [← e]; simp
    refine oe_mono (hs _ d hg en h) (fun _ e1 h1 => os_mono h1 ?_) fun _ _ z => z
    intro o ho
    have e' : pre ++ [d] ++ r = ds := by rw [← e]; simp
    have l' : (pre ++ [d]).length = pre.length + 1 := by simp
    cases o with
    | nx e2 => exact ⟨by rw [l']; exact ho, e'⟩
    | ct e2 => exact ⟨by rw [l']; exact ho, e'⟩
    | _ => exact ho
  · rintro pre en ⟨h, e⟩
    have l' : pre.length = ds.length := by rw [← e]; simp
    exact hd en (l' ▸ h)
theorem upL_get {lo : Int} {n i : Nat} {d : D} (h : (upL lo n)[i]? = some d) : d = .int (lo + i) ∧ i < n := by
  obtain ⟨j, hj, e⟩ : ∃ j, (List.range n)[i]? = some j ∧ D.int (lo + (j : Int)) = d := by simpa [upL] using h
  obtain ⟨hl, rfl⟩ := List.getElem?_eq_some_iff.mp hj
  exact ⟨by rw [← e]; simp, by simpa using hl⟩
/-- .. without a test: as many are gathered as there are -/
theorem ok_lcY (P : List D → En → Prop) {g : D → M Unit} {te : M R} {vs : List Nat} {x : Ex → En → Prop} {k : List D → En → Prop} {ds : List D} {en : En} (h0 : P [] en) (hn : ds.length ≤ 1000000)
    (hs : ∀ i d, ds[i]? = some d → ∀ acc en, acc.length = i → P acc en → okE (g d) en (fun _ en1 => okE te en1 (fun r en3 => okL (stoD r) fun y => P (acc ++ [y]) (wipeE vs en3)) fun _ _ => False) fun _ _ => False)
    (hd : ∀ acc en, acc.length = ds.length → P acc en → k acc en) : okE (lcL g yesT te vs ds []) en k x := by
  refine ok_lcL (fun pre r acc en => P acc en ∧ pre ++ r = ds ∧ acc.length = pre.length) ds [] [] en ⟨h0, rfl, rfl⟩ ?_ ?_
  · rintro pre d r acc en ⟨h, hl, ha⟩
    have hlen : acc.length < ds.length := by rw [← hl, ha]; simp
    have hg : ds[acc.length]? = some d := by rw [← hl, ha]; simp
    refine oe_mono (hs _ d hg acc en rfl h) (fun _ e1 h1 => ?_) fun _ _ z => z
    rw [yesT_ok, bi_true]
    refine oe_mono h1 (fun r3 e3 h3 => ?_) fun _ _ z => z
    revert h3
    cases stoD r3 with
    | none => exact id
    | some y =>
      intro h3
      exact ⟨by omega, h3, by rw [← hl]; simp, by simp [ha]⟩
  · rintro pre acc en ⟨h, hl, ha⟩
    exact hd acc en (by rw [ha, ← hl]; simp) h
end PyD

namespace PyD
open PySem PySem.Spec L2

/-! ### max, min of whole numbers -/
def maxL : Int → List Int → Int
  | m, [] => m
  | m, n :: ns => maxL (if n > m then n else m) ns
def minL : Int → List Int → Int
  | m, [] => m
  | m, n :: ns => minL (if n < m then n else m) ns
theorem maxL_spec : ∀ (ns : List Int) (m : Int), (maxL m ns = m ∨ maxL m ns ∈ ns) ∧ m ≤ maxL m ns ∧ ∀ y ∈ ns, y ≤ maxL m ns
  | [], m => ⟨.inl rfl, Int.le_refl _, fun _ h => by cases h⟩
  | n :: ns, m => by
    obtain ⟨h1, h2, h3⟩ := maxL_spec ns (if n > m then n else m)
    have e : maxL m (n :: ns) = maxL (if n > m then n else m) ns := rfl
    rw [e]
    have hm : m ≤ (if n > m then n else m) ∧ n ≤ (if n > m then n else m) := by split <;> omega
    refine ⟨?_, by omega, fun y hy => ?_⟩
    · rcases h1 with h1 | h1
      · rw [h1]
        split
        · exact .inr (by simp)
        · exact .inl rfl
      · exact .inr (by simp [h1])
    · rcases List.mem_cons.mp hy with rfl | hy
      · omega
      · exact h3 y hy
theorem minL_spec : ∀ (ns : List Int) (m : Int), (minL m ns = m ∨ minL m ns ∈ ns) ∧ minL m ns ≤ m ∧ ∀ y ∈ ns, minL m ns ≤ y
  | [], m => ⟨.inl rfl, Int.le_refl _, fun _ h => by cases h⟩
  | n :: ns, m => by
    obtain ⟨h1, h2, h3⟩ := minL_spec ns (if n < m then n else m)
    have e : minL m (n :: ns) = minL (if n < m then n else m) ns := rfl
    rw [e]
    have hm : (if n < m then n else m) ≤ m ∧ (if n < m then n else m) ≤ n := by split <;> omega
    refine ⟨?_, by omega, fun y hy => ?_⟩
    · rcases h1 with h1 | h1
      · rw [h1]
        split
        · exact .inr (by simp)
        · exact .inl rfl
      · exact .inr (by simp [h1])
    · rcases List.mem_cons.mp hy with rfl | hy
      · omega
      · exact h3 y hy
def maxD : List D → Option (Bool × D)
  | [.lst ds] => match asInts ds with
    | some (n :: ns) => some (false, .int (maxL n ns))
    | _ => none
  | _ => none
def minD : List D → Option (Bool × D)
  | [.lst ds] => match asInts ds with
    | some (n :: ns) => some (false, .int (minL n ns))
    | _ => none
  | _ => none
theorem prim_max {K : PySem.W.Frag} : Prim K (rMax K) maxD := by
  intro U H ds vs Q b d hU ar e post
  unfold maxD at e
  split at e
  · split at e
    · rename_i n ns hn
      obtain ⟨v, rfl, h1⟩ := ar1 ar
      obtain ⟨p, xs, rfl, hp, r⟩ := arLst h1
      cases e
      rw [asInts_of hn] at r
      have r := r.ints
      subst r
      refine ⟨p, _, rfl, SqL.of hp, by simp, fun m hm hy => ?_⟩
      obtain ⟨h1, h2, h3⟩ := maxL_spec ns n
      have : m = maxL n ns := by
        have a1 : m ≤ maxL n ns := by
          rcases List.mem_cons.mp hm with rfl | hm
          · exact h2
          · exact h3 m hm
        have a2 : maxL n ns ≤ m := by
          rcases h1 with h1 | h1
          · rw [h1]; exact hy n (by simp)
          · exact hy _ (by simp [h1])
        omega
      rw [this]
      exact post _ H (Ext.refl H) (fun _ => repInt) (fun z => by cases z)
    · cases e
  · cases e
theorem prim_min {K : PySem.W.Frag} : Prim K (rMin K) minD := by
  intro U H ds vs Q b d hU ar e post
  unfold minD at e
  split at e
  · split at e
    · rename_i n ns hn
      obtain ⟨v, rfl, h1⟩ := ar1 ar
      obtain ⟨p, xs, rfl, hp, r⟩ := arLst h1
      cases e
      rw [asInts_of hn] at r
      have r := r.ints
      subst r
      refine ⟨p, _, rfl, SqL.of hp, by simp, fun m hm hy => ?_⟩
      obtain ⟨h1, h2, h3⟩ := minL_spec ns n
      have : m = minL n ns := by
        have a1 : minL n ns ≤ m := by
          rcases List.mem_cons.mp hm with rfl | hm
          · exact h2
          · exact h3 m hm
        have a2 : m ≤ minL n ns := by
          rcases h1 with h1 | h1
          · rw [h1]; exact hy n (by simp)
          · exact hy _ (by simp [h1])
        omega
      rw [this]
      exact post _ H (Ext.refl H) (fun _ => repInt) (fun z => by cases z)
    · cases e
  · cases e

/-! ### d.get(k, x), d.pop(k, x) -/
def getD2 : List D → Option (Bool × D)
  | [.dic kvs, y, z] => match keyOf y with
    | some k => if flatD z = true then some (false, (valD kvs k).getD z) else none
    | none => none
  | _ => none
def rGet2 : V → List V → Hp → VK → Prop := fun x xs H Q => ∃ a y z o, x = .ref a ∧ xs = [y, z] ∧ DGet H a y o ∧ Q (o.getD z) H
theorem mt_get2 {X : Cx} (hu : X.A.units + 1 < cLine) : MtR X "dict.get" rGet2 := by
  intro pins s σ H x xs v us Q I rx rs h
  obtain ⟨a, y, z, o, rfl, rfl, g, q⟩ := h
  obtain rfl : v = Value.ref a := rx
  obtain ⟨u1, u2, rfl, r1, r2⟩ := Vals.two rs
  exact d_get2 hu I g r1 r2 fun w' s3 I3 rw' => ⟨_, H, I3, rw', q⟩
theorem ta_dic {K : PySem.W.Frag} : TyA K "dict" isDic := fun U H d v h r => by
  cases d with
  | dic s => obtain ⟨p, ws, rfl, hp, _⟩ := arDic r; exact .inr (.inr (.inl ⟨rfl, .inl ⟨ws, hp⟩⟩))
  | _ => cases h
theorem arep_flat {K : PySem.W.Frag} {U : Addr → Prop} {H : Hp} {d : D} {v : V} (h : flatD d = true) (r : ARep K U H d v) : Rep K U H d v := by
  cases d with
  | lst _ => cases h
  | dic _ => cases h
  | obj _ _ => cases h
  | _ => exact r
theorem prim_get2 {K : PySem.W.Frag} : Prim K (rM rGet2) getD2 := by
  intro U H ds vs Q b d hU ar e post
  unfold getD2 at e
  split at e
  · split at e
    · rename_i k hk
      split at e
      · rename_i hf
        cases e
        obtain ⟨v, w, x, rfl, h1, h2, h3⟩ := ar3 ar
        obtain ⟨p, ws, rfl, hp, r⟩ := arDic h1
        refine ⟨_, _, rfl, p, w, x, valV ws k, rfl, rfl, by rw [keyOf_rep hk h2]; exact DGet.k hp, post _ H (Ext.refl H) (fun _ => ?_) (fun z => by cases z)⟩
        have := r.val (k := k)
        rename_i kvs _ _ _ _
        revert this
        cases valD _ k with
        | none => intro this; rw [this]; exact arep_flat hf h3
        | some d0 => rintro ⟨v0, e0, r0⟩; rw [e0]; exact r0
      · cases e
    · cases e
  · cases e
def dropD (kvs : List (Key × D)) (k : Key) : List (Key × D) := kvs.filter fun kv => decide (kv.1 ≠ k)
theorem RepK.dropK {K : PySem.W.Frag} {U : Addr → Prop} {H : Hp} {k : Key} : ∀ {kvs : List (Key × D)} {ws : List (Key × V)}, RepK K U H kvs ws → RepK K U H (dropD kvs k) (L2.dropK ws k)
  | [], ws, r => by rw [r.nil_inv]; exact RepK.nil
  | (k', d) :: kvs, ws, r => by
    obtain ⟨v, s, rfl, h, r'⟩ := r.inv
    have ih := RepK.dropK (k := k) r'
    by_cases e : k' = k
    · have e1 : dropD ((k', d) :: kvs) k = dropD kvs k := by simp [dropD, e]
      have e2 : L2.dropK ((k', v) :: s) k = L2.dropK s k := by simp [L2.dropK, e]
      rw [e1, e2]
      exact ih
    · have e1 : dropD ((k', d) :: kvs) k = (k', d) :: dropD kvs k := by simp [dropD, e]
      have e2 : L2.dropK ((k', v) :: s) k = (k', v) :: L2.dropK s k := by simp [L2.dropK, e]
      rw [e1, e2]
      exact RepK.cons h ih
def popD2 : D → List D → Option (D × D)
  | .dic kvs, [y, z] => match keyOf y with
    | some k => match valD kvs k with
      | some d => some (.dic (dropD kvs k), d)
      | none => some (.dic kvs, z)
    | none => none
  | _, _ => none
def rPop2 : V → List V → Hp → VK → Prop := fun x xs H Q => ∃ a y z kvs k, x = .ref a ∧ xs = [y, z] ∧ H a = some (.dK kvs) ∧ y = kV k ∧ (∀ v, valV kvs k = some v → Q v (upd H a (.dK (L2.dropK kvs k)))) ∧ (valV kvs k = none → Q z H)
theorem mt_pop2 {X : Cx} : MtR X "dict.pop" rPop2 := by
  intro pins s σ H x xs v us Q I rx rs h
  obtain ⟨a, y, z, kvs, k, rfl, rfl, ea, rfl, q3, q4⟩ := h
  obtain rfl : v = Value.ref a := rx
  obtain ⟨u1, u2, rfl, r1, r2⟩ := Vals.two rs
  cases l : valV kvs k with
  | some v => exact d_pop I ea r1 l (.inr ⟨u2, rfl⟩) fun w' s4 I4 rw' => ⟨v, _, I4, rw', q3 v l⟩
  | none => exact d_popD I ea r1 l fun s4 I4 => ⟨z, H, I4, r2, q4 l⟩
theorem prim_pop2 {K : PySem.W.Frag} : PrimM K true rPop2 popD2 := by
  intro U H d0 ds p vs Q d1 d hU hp c ar rl e post
  have rl := rl rfl
  unfold popD2 at e
  split at e
  · split at e
    · rename_i k hk
      obtain ⟨v, w, rfl, r, r'⟩ := rl2 rl
      obtain ⟨ws, hH, r0⟩ := c
      have hv := r0.val (k := k)
      refine ⟨p, v, w, ws, k, rfl, rfl, hH, keyOf_rep' hk r, fun v0 e0 => ?_, fun e0 => ?_⟩
      · split at e
        · rename_i d2 hd
          cases e
          rw [hd] at hv
          obtain ⟨v1, e1, r1⟩ := hv
          rw [e0] at e1
          cases e1
          exact post _ _ updKeep (by rw [updAt]; simp) ⟨_, updAt, repKSide hp r0.dropK⟩ (repSide hp r1)
        · rename_i hd
          rw [hd] at hv
          rw [e0] at hv
          cases hv
      · split at e
        · rename_i d2 hd
          rw [hd] at hv
          obtain ⟨v1, e1, r1⟩ := hv
          rw [e0] at e1
          cases e1
        · cases e
          exact post _ _ (fun a x _ h => h) (by rw [hH]; simp) ⟨_, hH, r0⟩ r'
    · cases e
  · cases e
/-! ### list(range(..)), tuple(range(..)) -/
instance (a b : Int) : Decidable (RgOk a b) := by unfold RgOk; infer_instance
def rgD : List D → Option (List D)
  | [.int n] => if RgOk 0 n then some (upL 0 n.toNat) else none
  | [.int i, .int j] => if RgOk i j then some (upL i (j - i).toNat) else none
  | _ => none
theorem rgV_rep {K : PySem.W.Frag} {U : Addr → Prop} {H : Hp} {a b : Int} : RepL K U H (upL a (b - a).toNat) (rgV a b) := by
  unfold upL rgV
  have e1 : (List.range (b - a).toNat).map (fun i : Nat => D.int (a + (i : Int))) = ((List.range (b - a).toNat).map fun i : Nat => (a + (i : Int))).map D.int := by simp
  have e2 : (List.range (b - a).toNat).map (fun i : Nat => V.int (a + (i : Int))) = ((List.range (b - a).toNat).map fun i : Nat => (a + (i : Int))).map V.int := by simp
  rw [e1, e2]
  exact RepL.ofInts _
def lrgD (ds : List D) : Option (Bool × D) := (rgD ds).map fun l => (true, .lst l)
def trgD (ds : List D) : Option (Bool × D) := (rgD ds).map fun l => (false, .tup l)
def rLrg (f : List V → HO) : List V → Hp → VK → Prop := fun vs H Q => ∃ a b, ((vs = [.int b] ∧ a = 0) ∨ vs = [.int a, .int b]) ∧ RgOk a b ∧ ∀ q, H q = none → Q (.ref q) (upd H q (f (rgV a b)))
theorem prim_rg {K : PySem.W.Frag} {f : List V → HO} {fr : Bool} {g : List D → D} (hp : ∀ (U : Addr → Prop) (H : Hp) (q : Addr) (ds : List D) (vs : List V), (∀ a, U a → H a ≠ none) → H q = none → RepL K U H ds vs → (fr = false → Rep K U (upd H q (f vs)) (g ds) (.ref q)) ∧ (fr = true → Fresh K U H (upd H q (f vs)) (g ds) (.ref q))) :
    Prim K (rLrg f) fun ds => (rgD ds).map fun l => (fr, g l) := by
  intro U H ds vs Q b d hU ar e post
  obtain ⟨l, el, e⟩ := Option.map_eq_some_iff.mp e
  cases e
  unfold rgD at el
  split at el
  · split at el
    · rename_i n hn
      cases el
      obtain ⟨v, rfl, h1⟩ := ar1 ar
      rw [arInt h1]
      refine ⟨0, n, .inl ⟨rfl, rfl⟩, hn, fun q hq => ?_⟩
      have e0 : n.toNat = (n - 0).toNat := by rw [Int.sub_zero]
      obtain ⟨p1, p2⟩ := hp U H q _ _ hU hq (rgV_rep (K := K) (U := U) (H := H) (a := 0) (b := n))
      rw [← e0] at p1 p2
      exact post _ _ (ext_new hq) p1 p2
    · cases el
  · split at el
    · rename_i i j hn
      cases el
      obtain ⟨v, w, rfl, h1, h2⟩ := ar2 ar
      rw [arInt h1, arInt h2]
      refine ⟨i, j, .inr rfl, hn, fun q hq => ?_⟩
      obtain ⟨p1, p2⟩ := hp U H q _ _ hU hq (rgV_rep (K := K) (U := U) (H := H) (a := i) (b := j))
      exact post _ _ (ext_new hq) p1 p2
    · cases el
  · cases el
theorem prim_lrg {K : PySem.W.Frag} : Prim K (rLrg HO.lst) lrgD := prim_rg (fr := true) (g := .lst) fun U H q ds vs hU hq r => ⟨(fun z => by cases z), fun _ => newLst hq r⟩
theorem prim_trg {K : PySem.W.Frag} : Prim K (rLrg HO.tup) trgD := prim_rg (fr := false) (g := .tup) fun U H q ds vs hU hq r => ⟨(fun _ => newTup hU hq r), (fun z => by cases z)⟩
section
variable {X : Cx} {W : WX} {a b : Expr} {fa fb : M R} {p p2 pos pos2 : Pos}
theorem rg1Imp {K : PySem.W.Frag} {f : List V → HO} {g : List D → Option (Bool × D)} {σ : L2.St} {H : Hp} {Q : VK} (hp : Prim K (rLrg f) g) (m : RdE K W (opF g (one fa)) σ H Q) : tRg1 (RdE K W fa) σ H fun a b H1 => RgOk a b ∧ ∀ q, H1 q = none → Q (.ref q) (upd H1 q (f (rgV a b))) := by
  refine RdE.mono (fun v H1 h => ?_) (imp1 (opImp hp m))
  obtain ⟨a, b, h1, h2⟩ := h
  rcases h1 with ⟨e, rfl⟩ | e
  · cases e
    exact ⟨b, rfl, h2⟩
  · cases e
theorem rg2Imp {K : PySem.W.Frag} {f : List V → HO} {g : List D → Option (Bool × D)} {σ : L2.St} {H : Hp} {Q : VK} (hp : Prim K (rLrg f) g) (m : RdE K W (opF g (two fa fb)) σ H Q) : tRg2 (RdE K W fa) (RdE K W fb) σ H fun a b H1 => RgOk a b ∧ ∀ q, H1 q = none → Q (.ref q) (upd H1 q (f (rgV a b))) := by
  refine RdE.mono (fun v H1 h => RdE.mono (fun w H2 h => ?_) h) (imp2 (opImp hp m))
  obtain ⟨a, b, h1, h2⟩ := h
  rcases h1 with ⟨e, rfl⟩ | e
  · cases e
  · cases e
    exact ⟨a, b, rfl, rfl, h2⟩
theorem e_lrg1 (hg : Gl X "list") (hm : X.mg "list" = none) (hg2 : Gl X "range") (hm2 : X.mg "range" = none) (hc : X.calm = true) (ha : PE X a (RdE X.K W fa))
    (na : starEach [a] X.env = (false, eval a X.env) :: starEach [] X.env := by rfl) (nb : starEach [.Call (.Name "range" p2) [a] [] pos2] X.env = (false, eval (.Call (.Name "range" p2) [a] [] pos2) X.env) :: starEach [] X.env := by rfl) :
    PE X (.Call (.Name "list" p) [.Call (.Name "range" p2) [a] [] pos2] [] pos) (RdE X.K W (opF lrgD (one fa))) := pe_imp (pe_listRg hc hg hm (prg_1 hg2 hm2 ha na) nb) fun σ H Q m => rg1Imp prim_lrg m
theorem e_trg1 (hg : Gl X "tuple") (hm : X.mg "tuple" = none) (hg2 : Gl X "range") (hm2 : X.mg "range" = none) (hc : X.calm = true) (ha : PE X a (RdE X.K W fa))
    (na : starEach [a] X.env = (false, eval a X.env) :: starEach [] X.env := by rfl) (nb : starEach [.Call (.Name "range" p2) [a] [] pos2] X.env = (false, eval (.Call (.Name "range" p2) [a] [] pos2) X.env) :: starEach [] X.env := by rfl) :
    PE X (.Call (.Name "tuple" p) [.Call (.Name "range" p2) [a] [] pos2] [] pos) (RdE X.K W (opF trgD (one fa))) := pe_imp (pe_tupRg hc hg hm (prg_1 hg2 hm2 ha na) nb) fun σ H Q m => rg1Imp prim_trg m
theorem e_lrg2 (hg : Gl X "list") (hm : X.mg "list" = none) (hg2 : Gl X "range") (hm2 : X.mg "range" = none) (hc : X.calm = true) (ha : PE X a (RdE X.K W fa)) (hb : PE X b (RdE X.K W fb))
    (na : starEach [a, b] X.env = (false, eval a X.env) :: starEach [b] X.env := by rfl) (nb : starEach [b] X.env = (false, eval b X.env) :: starEach [] X.env := by rfl) (hp : (backTo pos2 (starEach [b] X.env)).any (·.1) = false := by rfl)
    (nc : starEach [.Call (.Name "range" p2) [a, b] [] pos2] X.env = (false, eval (.Call (.Name "range" p2) [a, b] [] pos2) X.env) :: starEach [] X.env := by rfl) :
    PE X (.Call (.Name "list" p) [.Call (.Name "range" p2) [a, b] [] pos2] [] pos) (RdE X.K W (opF lrgD (two fa fb))) := pe_imp (pe_listRg hc hg hm (prg_2 hg2 hm2 ha hb na nb hp) nc) fun σ H Q m => rg2Imp prim_lrg m
end
end PyD

namespace PyD
open PySem PySem.Spec L2

/-! ### sorted, of a list of alike data, of any length -/
theorem each_of {K : PySem.W.Frag} {H : Hp} : ∀ {xs : List V} {its : List Value} {ps : List PyData}, Vals xs its → DpAll K H xs ps → PySem.W.EachIs (fun (v : Value) (b : V × PyData) => RelV b.1 v ∧ Dp K H b.1 b.2) its (xs.zip ps) ∧ (xs.zip ps).map Prod.snd = ps ∧ (xs.zip ps).length = xs.length
  | _, _, _, .nil, .nil => ⟨.nil, rfl, rfl⟩
  | _, _, _, .cons r rs, .cons d ds => by
    obtain ⟨h1, h2, h3⟩ := each_of rs ds
    exact ⟨.cons ⟨r, d⟩ h1, by simp [h2], by simp [h3]⟩
theorem each_vals : ∀ {its : List Value} {bs : List (V × PyData)}, PySem.W.EachIs (fun (v : Value) (b : V × PyData) => RelV b.1 v) its bs → Vals (bs.map Prod.fst) its
  | _, _, .nil => .nil
  | _, _, .cons r rs => .cons r (each_vals rs)
def rSortA (K : PySem.W.Frag) : List V → Hp → VK → Prop := fun vs H Q => ∃ (a : Addr) (xs : List V) (ps : List PyData), vs = [V.ref a] ∧ SqL K H a xs ∧ DpAll K H xs ps ∧ PySem.W.AllAlike ps ∧ PySem.W.Sortable ps ∧ (∀ p, p ∈ ps → p.depth ≤ 60) ∧
  ∀ p : Addr, H p = none → Q (.ref p) (upd H p (.lst (((xs.zip ps).mergeSort (PySem.W.dataLe false Prod.snd)).map Prod.fst)))
theorem cr_sortedA {X : Cx} (hu : X.A.units + 64 < cLine) : CallR X (.builtin "sorted") (rSortA X.K) := by
  intro pins s σ H vs us Q I r h
  obtain ⟨a, xs, ps, rfl, hs, hd, hal, hk, hdep, q⟩ := h
  obtain ⟨its, rv, hl, hz⟩ := I.list hs
  rw [Vals.ref1 r]
  obtain ⟨e0, e1, e2⟩ := each_of rv hd
  refine PySem.W.sorted_data (R := fun (v : Value) (b : V × PyData) => RelV b.1 v) (enc := Prod.snd) hl.isList (e0.mono fun _ _ h => h.1) (e0.mono fun v b h => Dp.reads I b.2 b.1 v h.2 h.1) (by rw [e1]; exact hal) (by rw [e1]; exact hk) (by rw [e2]; exact hz) (fun b hb => ?_) fun out h1 h2 => ?_
  · have := hdep b.2 (by rw [← e1]; exact List.mem_map_of_mem hb)
    omega
  · obtain ⟨ep, he'⟩ := PyProof.Rows.sortedAll_at s.heap its out.toArray
    have hlen : (((xs.zip ps).mergeSort (PySem.W.dataLe false Prod.snd)).map Prod.fst).length ≤ sizeLine := by
      rw [List.length_map, List.length_mergeSort, e2]
      exact hz
    exact ⟨.ref _, upd H (s.heap.objs.size + 1) (.lst _), I.laid (t' := s.toks) (fun _ _ => PyProof.Rows.sortedAll_old) (Nat.le_succ _) ⟨hlen, out, ep, each_vals h2, he'⟩, rfl, q _ (I.hok.fresh (Nat.le_succ _))⟩
instance (ps : List PyData) : Decidable (PySem.W.AllAlike ps) := by unfold PySem.W.AllAlike; infer_instance
def sortable (ps : List PyData) : Bool := (ps.all fun d => match d with | .tuple (_ :: _) => true | _ => false) || ps.all fun d => match d with | .none => false | .tuple _ => false | _ => true
theorem sortable_of {ps : List PyData} (h : sortable ps = true) : PySem.W.Sortable ps := by
  unfold sortable at h
  rcases Bool.or_eq_true_iff.mp h with h | h
  · refine .inl fun d hd => ?_
    have := List.all_eq_true.mp h d hd
    split at this
    · exact ⟨_, _, rfl⟩
    · cases this
  · refine .inr fun d hd => ?_
    have := List.all_eq_true.mp h d hd
    split at this
    · cases this
    · cases this
    · rename_i h1 h2
      exact ⟨h1, fun xs e => h2 xs e⟩
/-- by what is compared -/
def pyG (d : D) : PyData := (toPy d).getD .none
def leD' (a b : D) : Bool := PySem.W.dataLe false pyG a b
def sortD : List D → Option (Bool × D)
  | [.lst ds] => match toPyL ds with
    | some ps => if PySem.W.AllAlike ps ∧ sortable ps = true ∧ ∀ p ∈ ps, p.depth ≤ 60 then some (true, .lst (ds.mergeSort leD')) else none
    | none => none
  | _ => none
theorem rep_zip {K : PySem.W.Frag} {U : Addr → Prop} {H : Hp} : ∀ {ds : List D} {vs : List V}, RepL K U H ds vs → ∀ p ∈ ds.zip vs, Rep K U H p.1 p.2
  | [], _, _, p, hp => by simp at hp
  | d :: ds, _, r, p, hp => by
    obtain ⟨v, us, rfl, r1, r2⟩ := r.inv
    rcases List.mem_cons.mp hp with rfl | hp
    · exact r1
    · exact rep_zip r2 p hp
theorem zip_rep {K : PySem.W.Frag} {U : Addr → Prop} {H : Hp} : ∀ {l : List (D × V)}, (∀ p ∈ l, Rep K U H p.1 p.2) → RepL K U H (l.map Prod.fst) (l.map Prod.snd)
  | [], _ => RepL.nil
  | p :: l, h => RepL.cons (h p (by simp)) (zip_rep fun q hq => h q (by simp [hq]))
theorem toPyL_map : ∀ {ds : List D} {ps : List PyData}, toPyL ds = some ps → ps = ds.map pyG
  | [], ps, h => by cases h; rfl
  | d :: ds, ps, h => by
    unfold toPyL at h
    cases e1 : toPy d with
    | none => rw [e1] at h; cases h
    | some p =>
      rw [e1] at h
      dsimp only at h
      cases e2 : toPyL ds with
      | none => rw [e2] at h; cases h
      | some qs =>
        rw [e2] at h
        cases h
        rw [toPyL_map e2]
        simp [pyG, e1]
theorem zip_swap : ∀ {ds : List D} {xs : List V}, xs.length = ds.length → (ds.zip xs).map (fun p => (p.2, pyG p.1)) = xs.zip (ds.map pyG)
  | [], xs, h => by
    have : xs = [] := List.eq_nil_of_length_eq_zero h
    subst this
    rfl
  | d :: ds, [], h => by cases h
  | d :: ds, x :: xs, h => by
    simp only [List.zip_cons_cons, List.map_cons]
    rw [zip_swap (by simpa using h)]
theorem prim_sort {K : PySem.W.Frag} : Prim K (rSortA K) sortD := by
  intro U H ds vs Q b d hU ar e post
  unfold sortD at e
  split at e
  · rename_i ds
    split at e
    · rename_i ps hps
      split at e
      · rename_i hc
        cases e
        obtain ⟨v, rfl, h1⟩ := ar1 ar
        obtain ⟨p, xs, rfl, hp, r⟩ := arLst h1
        refine ⟨p, xs, ps, rfl, SqL.of hp, dpL_of r hps, hc.1, sortable_of hc.2.1, hc.2.2, fun q hq => ?_⟩
        have hl := r.len
        have key : RepL K U H (ds.mergeSort leD') (((xs.zip ps).mergeSort (PySem.W.dataLe false Prod.snd)).map Prod.fst) := by
          have e0 := toPyL_map hps
          subst e0
          have z1 : (ds.zip xs).map Prod.fst = ds := by rw [List.map_fst_zip]; omega
          have z2 := zip_swap hl
          have s1 : ((ds.zip xs).mergeSort fun (a b : D × V) => leD' a.1 b.1).map Prod.fst = ds.mergeSort leD' := by
            rw [List.map_mergeSort (r := fun (a b : D × V) => leD' a.1 b.1) (s := leD') (fun _ _ _ _ => rfl), z1]
          have s2 : ((ds.zip xs).mergeSort fun (a b : D × V) => leD' a.1 b.1).map (fun p => (p.2, pyG p.1)) = (xs.zip (ds.map pyG)).mergeSort (PySem.W.dataLe false Prod.snd) := by
            rw [List.map_mergeSort (r := fun (a b : D × V) => leD' a.1 b.1) (s := PySem.W.dataLe false Prod.snd) (fun _ _ _ _ => rfl), z2]
          rw [← s1, ← s2, List.map_map]
          exact zip_rep fun p hp => rep_zip r p (List.mem_mergeSort.mp hp)
        exact post _ _ (ext_new hq) (fun z => by cases z) fun _ => newLst hq key
      · cases e
    · cases e
  · cases e
/-! ### names of the module -/
theorem e_gs {X : Cx} {W : WX} {x s : Str} {pos : Pos} (c : ∃ t, X.mg x = some (.str s t)) (hg : Gl X x) (hd : (x == ("__debug__" : Str)) = false := by decide) : PE X (.Name x pos) (RdE X.K W (cF (.str s))) := by
  obtain ⟨t, c⟩ := c
  exact e_c (pe_glob (v := .str s) hg c ⟨t, rfl⟩ hd) fun _ _ => repStr
theorem e_gi {X : Cx} {W : WX} {x : Str} {i : Int} {pos : Pos} (c : ∃ t, X.mg x = some (.int i t)) (hg : Gl X x) (hd : (x == ("__debug__" : Str)) = false := by decide) : PE X (.Name x pos) (RdE X.K W (cF (.int i))) := by
  obtain ⟨t, c⟩ := c
  exact e_c (pe_glob (v := .int i) hg c ⟨t, rfl⟩ hd) fun _ _ => repInt
end PyD

namespace PyD
open PySem PySem.Spec L2

/-! ### slots that are not read again are forgotten -/
def wpM : List Bool → En → En
  | true :: ms, _ :: en => .e :: wpM ms en
  | false :: ms, s :: en => s :: wpM ms en
  | _, en => en
def frM : List Bool → En → Bool
  | true :: ms, s :: en => frS s && frM ms en
  | false :: ms, _ :: en => frM ms en
  | _, _ => true
/-- forget behind a statement -/
def endF (ms : List Bool) (f : En → Fl) : En → Fl := fun en => match f en with
  | .nx e => (match frM ms e with
    | true => .nx (wpM ms e)
    | false => .bad)
  | o => o
/-- forget behind a loop's turn -/
def bodF (ms : List Bool) (f : En → Fl) : En → Fl := fun en => match f en with
  | .nx e => (match frM ms e with
    | true => .nx (wpM ms e)
    | false => .bad)
  | .ct e => (match frM ms e with
    | true => .ct (wpM ms e)
    | false => .bad)
  | o => o
theorem wpM_len : ∀ (ms : List Bool) (en : En), (wpM ms en).length = en.length
  | [], en => by cases en <;> rfl
  | true :: ms, [] => rfl
  | false :: ms, [] => rfl
  | true :: ms, s :: en => by
    show (wpM ms en).length + 1 = _
    rw [wpM_len ms en]; rfl
  | false :: ms, s :: en => by
    show (wpM ms en).length + 1 = _
    rw [wpM_len ms en]; rfl
theorem wpM_get : ∀ (ms : List Bool) (en : En) (j : Nat) (s : Sl), (wpM ms en)[j]? = some s → s = .e ∨ en[j]? = some s
  | [], en, j, s, h => .inr (by cases en <;> exact h)
  | true :: ms, [], j, s, h => .inr h
  | false :: ms, [], j, s, h => .inr h
  | true :: ms, t :: en, 0, s, h => .inl (by cases h; rfl)
  | false :: ms, t :: en, 0, s, h => .inr h
  | true :: ms, t :: en, j + 1, s, h => wpM_get ms en j s h
  | false :: ms, t :: en, j + 1, s, h => wpM_get ms en j s h
theorem wpM_keep : ∀ (ms : List Bool) (en : En) (j : Nat) (d : D), frM ms en = true → en[j]? = some (.o true d) → (wpM ms en)[j]? = some (.o true d)
  | [], en, j, d, _, h => by cases en <;> exact h
  | true :: ms, [], j, d, _, h => h
  | false :: ms, [], j, d, _, h => h
  | true :: ms, t :: en, 0, d, f, h => by
    cases h
    cases f
  | false :: ms, t :: en, 0, d, f, h => h
  | true :: ms, t :: en, j + 1, d, f, h => wpM_keep ms en j d (by
    have : (frS t && frM ms en) = true := f
    simp only [Bool.and_eq_true] at this
    exact this.2) h
  | false :: ms, t :: en, j + 1, d, f, h => wpM_keep ms en j d f h
section
variable {K : PySem.W.Frag} {W : WX} {B B' B1 : Addr → Prop} {U U' : Addr → Prop} {H H' H1 : Hp} {σ σ' σ1 : L2.St} {en en' en1 e : En} {ms : List Bool} {D0 : Ends} {f : En → Fl}
theorem own_wp {a : Addr} (h : Own σ (wpM ms en) a) : Own σ en a := by
  obtain ⟨j, b, d, e, s⟩ := h
  rcases wpM_get _ _ _ _ e with q | q
  · cases q
  · exact ⟨j, b, d, q, s⟩
theorem Good.wp (G : Good K B H σ en) : Good K B H σ (wpM ms en) := by
  have t : ∀ a o, H a = some o → ¬ Un B σ en a → H a = some o ∧ ¬ Un B σ (wpM ms en) a := fun a o x n => ⟨x, fun z => n (z.imp id own_wp)⟩
  exact {
    len := by rw [wpM_len]; exact G.len
    all := G.all
    rep := fun j d e => by
      rcases wpM_get _ _ _ _ e with q | q
      · cases q
      · obtain ⟨v, s, r⟩ := G.rep j d q
        exact ⟨v, s, Rep.to t d v r⟩
    own := fun j b d e => by
      rcases wpM_get _ _ _ _ e with q | q
      · cases q
      · obtain ⟨p, s, n1, c⟩ := G.own j b d q
        exact ⟨p, s, n1, Cont.to t (fun _ x => x) c⟩
    inj := fun j k q b c d d' e1 e2 s1 s2 => by
      rcases wpM_get _ _ _ _ e1 with z | q1
      · cases z
      · rcases wpM_get _ _ _ _ e2 with z | q2
        · cases z
        · exact G.inj j k q b c d d' q1 q2 s1 s2 }
theorem Stp.wp (s : Stp σ en H σ' e H') (h : frM ms e = true) : Stp σ en H σ' (wpM ms e) H' where
  len := by rw [wpM_len]; exact s.len
  fr := s.fr
  al := s.al
  ow := fun a h => s.ow a (own_wp h)
  of := fun a h => s.of a (by
    obtain ⟨j, d, e, q⟩ := h
    rcases wpM_get _ _ _ _ e with z | z
    · cases z
    · exact ⟨j, d, z, q⟩)
  pin := fun i d e1 => by
    obtain ⟨q, d', e2⟩ := s.pin i d e1
    exact ⟨q, d', wpM_keep _ _ _ _ h e2⟩
  pb := fun i d e1 => by
    rcases wpM_get _ _ _ _ e1 with z | z
    · cases z
    · exact s.pb i d z
theorem endImp (m : RdS K W (endF ms f) D0 σ H) : RdS K W f D0 σ H := by
  obtain ⟨B, en, G, m⟩ := RdS.qs m
  refine ⟨B, en, G, ?_⟩
  unfold endF at m
  cases e : f en with
  | nx en1 =>
    rw [e] at m
    dsimp only at m
    cases h : frM ms en1 with
    | false => rw [h] at m; exact m.elim
    | true =>
      rw [h] at m
      exact fun σ' H' g' st => m σ' H' g'.wp (st.wp h)
  | bk en1 => rw [e] at m; exact m
  | ct en1 => rw [e] at m; exact m
  | rt r en1 => rw [e] at m; exact m
  | exc x en1 => rw [e] at m; exact m
  | bad => rw [e] at m; exact m
theorem bodImp (m : RdS K W (bodF ms f) D0 σ H) : RdS K W f D0 σ H := by
  obtain ⟨B, en, G, m⟩ := RdS.qs m
  refine ⟨B, en, G, ?_⟩
  unfold bodF at m
  cases e : f en with
  | nx en1 =>
    rw [e] at m
    dsimp only at m
    cases h : frM ms en1 with
    | false => rw [h] at m; exact m.elim
    | true =>
      rw [h] at m
      exact fun σ' H' g' st => m σ' H' g'.wp (st.wp h)
  | ct en1 =>
    rw [e] at m
    dsimp only at m
    cases h : frM ms en1 with
    | false => rw [h] at m; exact m.elim
    | true =>
      rw [h] at m
      exact fun σ' H' g' st => m σ' H' g'.wp (st.wp h)
  | bk en1 => rw [e] at m; exact m
  | rt r en1 => rw [e] at m; exact m
  | exc x en1 => rw [e] at m; exact m
  | bad => rw [e] at m; exact m
variable {X : Cx} {st : Stmt} {l : List Stmt}
theorem s_end (h : PS X st (RdS X.K W f)) : PS X st (RdS X.K W (endF ms f)) := ps_imp h fun D σ H m => endImp m
theorem s_bod (h : PSs X l (RdS X.K W f)) : PSs X l (RdS X.K W (bodF ms f)) := pss_imp h fun D σ H m => bodImp m
end
/-! forwards -/
theorem frM_t {ms : List Bool} {s : Sl} {en : En} : frM (true :: ms) (s :: en) = (frS s && frM ms en) := rfl
theorem frM_f {ms : List Bool} {s : Sl} {en : En} : frM (false :: ms) (s :: en) = frM ms en := rfl
theorem frM_n {en : En} : frM [] en = true := by cases en <;> rfl
theorem wpM_t {ms : List Bool} {s : Sl} {en : En} : wpM (true :: ms) (s :: en) = .e :: wpM ms en := rfl
theorem wpM_f {ms : List Bool} {s : Sl} {en : En} : wpM (false :: ms) (s :: en) = s :: wpM ms en := rfl
theorem wpM_n {en : En} : wpM [] en = en := by cases en <;> rfl
def endK (ms : List Bool) (k : Fl → Prop) (o : Fl) (_ : Tg k := ⟨⟩) : Prop := match o with
  | .nx e => frM ms e = true ∧ k (.nx (wpM ms e))
  | .bad => False
  | o => k o
def bodK (ms : List Bool) (k : Fl → Prop) (o : Fl) (_ : Tg k := ⟨⟩) : Prop := match o with
  | .nx e => frM ms e = true ∧ k (.nx (wpM ms e))
  | .ct e => frM ms e = true ∧ k (.ct (wpM ms e))
  | .bad => False
  | o => k o
section
variable {ms : List Bool} {k : Fl → Prop} {e : En} {f : En → Fl} {r : R} {x : Ex}
theorem endK_nx : endK ms k (.nx e) = (frM ms e = true ∧ k (.nx (wpM ms e))) := rfl
theorem endK_rt : endK ms k (.rt r e) = k (.rt r e) := rfl
theorem endK_bk : endK ms k (.bk e) = k (.bk e) := rfl
theorem endK_ct : endK ms k (.ct e) = k (.ct e) := rfl
theorem endK_exc : endK ms k (.exc x e) = k (.exc x e) := rfl
theorem bodK_nx : bodK ms k (.nx e) = (frM ms e = true ∧ k (.nx (wpM ms e))) := rfl
theorem bodK_rt : bodK ms k (.rt r e) = k (.rt r e) := rfl
theorem bodK_bk : bodK ms k (.bk e) = k (.bk e) := rfl
theorem bodK_ct : bodK ms k (.ct e) = (frM ms e = true ∧ k (.ct (wpM ms e))) := rfl
theorem bodK_exc : bodK ms k (.exc x e) = k (.exc x e) := rfl
theorem os_end {en : En} : okS (endF ms f) en k = okS f en fun o => endK ms k o := by
  unfold okS endF
  cases f en with
  | nx e1 =>
    dsimp only [endK]
    cases h : frM ms e1 <;> simp
  | _ => rfl
theorem os_endFr {it : M (List D)} {g : D → M Unit} {en : En} : okS (endF ms (frF it g f)) en k = okS (frF it g f) en fun o => endK ms k o := os_end
theorem os_endWh {t : M Bool} {n : Nat} {en : En} : okS (endF ms (whF t f n)) en k = okS (whF t f n) en fun o => endK ms k o := os_end
theorem os_endA {i : Nat} {g : M R} {en : En} : okS (endF ms (asV i g)) en k = okS (asV i g) en fun o => endK ms k o := os_end
theorem os_endO {i : Nat} {g : M R} {en : En} : okS (endF ms (asO i g)) en k = okS (asO i g) en fun o => endK ms k o := os_end
theorem os_endG {gg : D → M Unit} {g : M R} {en : En} : okS (endF ms (asG gg g)) en k = okS (asG gg g) en fun o => endK ms k o := os_end
theorem os_endP {i j : Nat} {g : M (List R)} {en : En} : okS (endF ms (asP i j g)) en k = okS (asP i j g) en fun o => endK ms k o := os_end
theorem os_endD {g : M R} {en : En} : okS (endF ms (drF g)) en k = okS (drF g) en fun o => endK ms k o := os_end
theorem os_endS {i : Nat} {a b : M R} {u : D → D → D → Option D} {en : En} : okS (endF ms (stF i a b u)) en k = okS (stF i a b u) en fun o => endK ms k o := os_end
theorem os_endIf {t : M Bool} {g : En → Fl} {en : En} : okS (endF ms (ifS t f g)) en k = okS (ifS t f g) en fun o => endK ms k o := os_end
theorem os_bod {en : En} : okS (bodF ms f) en k = okS f en fun o => bodK ms k o := by
  unfold okS bodF
  cases f en with
  | nx e1 =>
    dsimp only [bodK]
    cases h : frM ms e1 <;> simp
  | ct e1 =>
    dsimp only [bodK]
    cases h : frM ms e1 <;> simp
  | _ => rfl
end
/-! texts that stand in the program -/
theorem e_strT {X : Cx} {W : WX} {s t : Str} {j} {pos : Pos} (h : s = t) : PE X (.Constant (.str s) j pos) (RdE X.K W (cF (.str t))) := h ▸ e_str
theorem e_gsT {X : Cx} {W : WX} {x s s' : Str} {pos : Pos} (h : s = s') (c : ∃ t, X.mg x = some (.str s t)) (hg : Gl X x) (hd : (x == ("__debug__" : Str)) = false := by decide) : PE X (.Name x pos) (RdE X.K W (cF (.str s'))) := h ▸ e_gs c hg hd
theorem is_nn {n : Bool} : isOp n [.non, .non] = some (false, .bl (true != n)) := rfl
theorem is_in {n : Bool} {i : Int} : isOp n [.int i, .non] = some (false, .bl (false != n)) := rfl
theorem is_sn {n : Bool} {i : Str} : isOp n [.str i, .non] = some (false, .bl (false != n)) := rfl
theorem is_tn {n : Bool} {i : List D} : isOp n [.tup i, .non] = some (false, .bl (false != n)) := rfl
theorem is_ln {n : Bool} {i : List D} : isOp n [.lst i, .non] = some (false, .bl (false != n)) := rfl
theorem is_bn {n : Bool} {i : Bool} : isOp n [.bl i, .non] = some (false, .bl (false != n)) := rfl
theorem max_ints {n : Int} {ns : List Int} : maxD [.lst (.int n :: ns.map .int)] = some (false, .int (maxL n ns)) := by
  have e : asInts (D.int n :: ns.map .int) = some (n :: ns) := asInts_map (n :: ns)
  simp only [maxD, e]
theorem min_ints {n : Int} {ns : List Int} : minD [.lst (.int n :: ns.map .int)] = some (false, .int (minL n ns)) := by
  have e : asInts (D.int n :: ns.map .int) = some (n :: ns) := asInts_map (n :: ns)
  simp only [minD, e]
/-- a comprehension, by the number of turns -/
theorem ok_lcX (P : Nat → List D → En → Prop) {g : D → M Unit} {tt : M Bool} {te : M R} {vs : List Nat} {x : Ex → En → Prop} {k : List D → En → Prop} {ds : List D} {en : En} (h0 : P 0 [] en) (hn : ds.length ≤ 1000000)
    (hs : ∀ i d, ds[i]? = some d → ∀ acc en, acc.length ≤ i → P i acc en → okE (g d) en (fun _ en1 => okE tt en1 (fun b en2 => bi b (okE te en2 (fun r en3 => okL (stoD r) fun y => P (i + 1) (acc ++ [y]) (wipeE vs en3)) fun _ _ => False) (P (i + 1) acc (wipeE vs en2))) fun _ _ => False) fun _ _ => False)
    (hd : ∀ acc en, acc.length ≤ ds.length → P ds.length acc en → k acc en) : okE (lcL g tt te vs ds []) en k x := by
  refine ok_lcL (fun pre r acc en => P pre.length acc en ∧ pre ++ r = ds ∧ acc.length ≤ pre.length) ds [] [] en ⟨h0, rfl, Nat.le_refl _⟩ ?_ ?_
  · rintro pre d r acc en ⟨h, hl, ha⟩
    have hlen : pre.length < ds.length := by rw [← hl]; simp
    have hg : ds[pre.length]? = some d := by rw [← hl]; simp
    have l' : (pre ++ [d]).length = pre.length + 1 := by simp
    refine oe_mono (hs _ d hg acc en ha h) (fun _ e1 h1 => oe_mono h1 (fun b e2 h2 => ?_) fun _ _ z => z) fun _ _ z => z
    cases b with
    | false => rw [bi_false] at h2 ⊢; exact ⟨by rw [l']; exact h2, by rw [← hl]; simp, by simp; omega⟩
    | true =>
      rw [bi_true] at h2 ⊢
      refine oe_mono h2 (fun r3 e3 h3 => ?_) fun _ _ z => z
      revert h3
      cases stoD r3 with
      | none => exact id
      | some y =>
        intro h3
        exact ⟨by omega, by rw [l']; exact h3, by rw [← hl]; simp, by simp; omega⟩
  · rintro pre acc en ⟨h, hl, ha⟩
    have e : pre = ds := by rw [← hl]; simp
    subst e
    exact hd acc en ha h
end PyD

namespace PyD
open PySem PySem.Spec L2 PyProof.Rows

/-! ### sorted(d), of a dict of any length -/
def pyK : Key → PyData
  | .inl i => .int i
  | .inr s => .str s
def sortK (ks : List Key) : List Key := ks.mergeSort (PySem.W.dataLe false pyK)
def rSortD : List V → Hp → VK → Prop := fun xs H Q => ∃ (a : Addr) (kvs : List (Key × V)), xs = [.ref a] ∧ Rd H a (.dK kvs) ∧ PySem.W.AllAlike ((kvs.map (·.1)).map pyK) ∧
  ∀ p, H p = none → Q (.ref p) (upd H p (.lst ((sortK (kvs.map (·.1))).map kV)))
theorem vals_each : ∀ {ks : List Key} {us : List Value}, Vals (ks.map kV) us → PySem.W.EachIs (fun (v : Value) (k : Key) => RelV (kV k) v) us ks
  | [], _, h => by cases h; exact .nil
  | k :: ks, _, h => by
    cases h with
    | cons r rs => exact .cons r (vals_each rs)
theorem each_valsK : ∀ {ks : List Key} {us : List Value}, PySem.W.EachIs (fun (v : Value) (k : Key) => RelV (kV k) v) us ks → Vals (ks.map kV) us
  | [], _, h => by cases h; exact .nil
  | k :: ks, _, h => by
    cases h with
    | cons r rs => exact .cons r (each_valsK rs)
theorem reads_key {h : Heap} {a : Addr} {k : Key} {v : Value} (r : RelV (kV k) v) : ∃ as, Reads h v (pyK k) as ∧ a ∉ as := by
  cases k with
  | inl i =>
    obtain ⟨t, rfl⟩ := r
    exact ⟨[], .int i t, by simp⟩
  | inr x =>
    obtain ⟨t, rfl⟩ := r
    exact ⟨[], .str x t, by simp⟩
theorem sortable_keys (ks : List Key) : PySem.W.Sortable (ks.map pyK) := by
  refine .inr fun d hd => ?_
  obtain ⟨k, _, rfl⟩ := List.mem_map.mp hd
  cases k with
  | inl i => exact ⟨fun z => by (cases z), fun _ z => by (cases z)⟩
  | inr i => exact ⟨fun z => by (cases z), fun _ z => by (cases z)⟩
theorem cr_sortedDK {X : Cx} (hcalm : X.calm = true) (hu : X.A.units + 64 < cLine) : CallR X (.builtin "sorted") rSortD := by
  intro pins s σ H xs us Q I r q
  obtain ⟨a, kvs, ex, hd, hal, q⟩ := q
  subst ex
  obtain ⟨u, eu, rx⟩ := vals1 r
  subst eu
  cases rx
  obtain ⟨z, lo, vs, rel, dd⟩ := dk_rd I.hok hd
  obtain ⟨ep, hat⟩ := dd.dictAt
  have hkeys : vs.map (·.1) = kvs.map (·.1) := rel.keys.symm
  have hl : vs.length = kvs.length := by
    have e := congrArg List.length hkeys
    rw [List.length_map, List.length_map] at e
    exact e
  have h16 : vs.length ≤ sizeLine := by rw [hl]; exact z
  refine Calls.call_function_entry PyProof.Rows.kind_sorted PyProof.Rows.plain_sorted PyProof.Rows.entry_sorted (PyProof.Rows.args_sorted1 _) ?_
  unfold Builtin.«sorted»
  refine wpAny_bind (m := checkCount "sorted" 1 1 _) (wpAny_pure ?_)
  refine wpAny_bind (PySem.W.kdu_collect (A := X.A.in1) (PySem.W.kdl_dict (knd := mixKind X.prog X.w) (kvs := vs) (ep := ep) lo) (I.ok.hd hcalm) hat h16 fun h' tk acc hk hacc => ?_)
  have hal2 : acc.toList.length = kvs.length := by rw [Array.length_toList, hacc.1, hl]
  have hvals : Vals ((kvs.map (·.1)).map kV) acc.toList := by
    have := keys_at (us := acc.toList) (vs := vs) (by rw [hal2, hl]) fun j v e => hacc.2 j v (by rw [← Array.getElem?_toList]; exact e)
    rw [← hkeys, List.map_map]
    exact this
  have I1 : Inv X pins σ H { s with heap := h', toks := tk } := I.kept hk
  refine wpAny_bind (wpAny_newList ?_ (by rw [hal2, ← hl]; exact h16))
  have hoL : (h'.push (seqObj "list" acc.toList.toArray 0)).get? h'.objs.size = some (seqObj "list" acc.toList.toArray 0) := Heap.get?_push_size _ rfl
  show wpAny _ _ _ _ _ { s with heap := h'.push (seqObj "list" acc.toList.toArray 0), toks := tk }
  have he := vals_each hvals
  refine wpAny_bind (wpAny_holding (PySem.W.list_sort_data (s := { s with heap := h'.push (seqObj "list" acc.toList.toArray 0), toks := tk }) (enc := pyK) hoL he (he.mono fun v k rv => reads_key rv) hal (sortable_keys _) (by rw [List.length_map]; rw [← hl]; exact h16) (fun k hk => ?_) fun out h1 h2 => ?_))
  · have : (pyK k).depth ≤ 1 := by cases k <;> simp [pyK, PyData.depth]
    have : X.A.in1.units ≤ X.A.units + 2 := by simp [Around.in1]
    have : X.A.in1.in1.units ≤ X.A.units + 2 := by simp [Around.in1]
    omega
  obtain ⟨e', he'⟩ := PyProof.Rows.sortedHeap_at (vs := acc.toList) (out := out.toArray) hoL
  have hlen : ((sortK (kvs.map (·.1))).map kV).length ≤ sizeLine := by
    rw [List.length_map, sortK, List.length_mergeSort, List.length_map, ← hl]
    exact h16
  refine wpAny_pure ⟨_, rfl, .ref h'.objs.size, upd H h'.objs.size (.lst ((sortK (kvs.map (·.1))).map kV)), I1.laid (t' := tk) (fun b u e => ?_) (Nat.le_refl _)
    (show ObjOk X.prog X.w _ _ _ (.lst ((sortK (kvs.map (·.1))).map kV)) from ⟨hlen, out, e', each_valsK h2, he'⟩), rfl, q _ (I1.hok.fresh (Nat.le_refl _))⟩
  have hb : b < h'.objs.size := Heap.lt_size e
  rw [PyProof.Rows.sortedHeap_old (Nat.ne_of_lt hb) (by rw [size_push']; exact Nat.lt_succ_of_lt hb)]
  exact Heap.get?_push_of_some _ e
/-! ### sorted(t), of a tuple of whole numbers -/
def rSortT (K : PySem.W.Frag) : List V → Hp → VK → Prop := fun xs H Q => ∃ (a : Addr) (ns : List Int), xs = [.ref a] ∧ SqT K H a (ns.map V.int) ∧
  ∀ p, H p = none → Q (.ref p) (upd H p (.lst ((sortK (ns.map Sum.inl)).map kV)))
theorem alike_ints (ns : List Int) : PySem.W.AllAlike (((ns.map Sum.inl : List Key)).map pyK) := by
  intro d hd d' hd'
  obtain ⟨p, hp, rfl⟩ := List.mem_map.mp hd
  obtain ⟨p', hp', rfl⟩ := List.mem_map.mp hd'
  obtain ⟨q, _, rfl⟩ := List.mem_map.mp hp
  obtain ⟨q', _, rfl⟩ := List.mem_map.mp hp'
  rfl
theorem cr_sortedT {X : Cx} (hu : X.A.units + 64 < cLine) : CallR X (.builtin "sorted") (rSortT X.K) := by
  intro pins s σ H xs us Q I r q
  obtain ⟨a, ns, ex, hs, q⟩ := q
  subst ex
  obtain ⟨its, rv, ⟨o, ho, hcls, n, hdat⟩, hz⟩ := I.tuple hs
  rw [Vals.ref1 r]
  have hl : its.length = ns.length := by
    have e := rv.length
    rw [List.length_map] at e
    omega
  have h16 : its.length ≤ sizeLine := by
    rw [List.length_map] at hz
    omega
  refine Calls.call_function_entry PyProof.Rows.kind_sorted PyProof.Rows.plain_sorted PyProof.Rows.entry_sorted (PyProof.Rows.args_sorted1 _) ?_
  unfold Builtin.«sorted»
  refine wpAny_bind (m := checkCount "sorted" 1 1 _) (wpAny_pure ?_)
  refine wpAny_bind (wpAny_collect_seq (A := X.A.in1) a (.inr rfl) ho hcls hdat (fun h' hk => ?_) (hsz := by simpa using h16))
  have I1 : Inv X pins σ H { s with heap := h' } := I.kept hk
  show wpAny _ _ (newList its >>= _) _ _ _
  refine wpAny_bind (wpAny_newList ?_ h16)
  have hoL : (h'.push (seqObj "list" its.toArray 0)).get? h'.objs.size = some (seqObj "list" its.toArray 0) := Heap.get?_push_size _ rfl
  have hvals : Vals (((ns.map Sum.inl : List Key)).map kV) its := by
    rw [List.map_map]
    exact rv
  show wpAny _ _ _ _ _ { s with heap := h'.push (seqObj "list" its.toArray 0) }
  have he := vals_each hvals
  refine wpAny_bind (wpAny_holding (PySem.W.list_sort_data (s := { s with heap := h'.push (seqObj "list" its.toArray 0) }) (enc := pyK) hoL he (he.mono fun v k rv => reads_key rv) (alike_ints ns) (sortable_keys _) (by rw [List.length_map, ← hl]; exact h16) (fun k hk => ?_) fun out h1 h2 => ?_))
  · have : (pyK k).depth ≤ 1 := by cases k <;> simp [pyK, PyData.depth]
    have : X.A.in1.units ≤ X.A.units + 2 := by simp [Around.in1]
    have : X.A.in1.in1.units ≤ X.A.units + 2 := by simp [Around.in1]
    omega
  obtain ⟨e', he'⟩ := PyProof.Rows.sortedHeap_at (vs := its) (out := out.toArray) hoL
  have hlen : ((sortK (ns.map Sum.inl)).map kV).length ≤ sizeLine := by
    rw [List.length_map, sortK, List.length_mergeSort, List.length_map, ← hl]
    exact h16
  refine wpAny_pure ⟨_, rfl, .ref h'.objs.size, upd H h'.objs.size (.lst ((sortK (ns.map Sum.inl)).map kV)), I1.laid (t' := s.toks) (fun b u e => ?_) (Nat.le_refl _)
    (show ObjOk X.prog X.w _ _ _ (.lst ((sortK (ns.map Sum.inl)).map kV)) from ⟨hlen, out, e', each_valsK h2, he'⟩), rfl, q _ (I1.hok.fresh (Nat.le_refl _))⟩
  have hb : b < h'.objs.size := Heap.lt_size e
  rw [PyProof.Rows.sortedHeap_old (Nat.ne_of_lt hb) (by rw [size_push']; exact Nat.lt_succ_of_lt hb)]
  exact Heap.get?_push_of_some _ e
/-! sorted of lists and dicts -/
def dK : Key → D
  | .inl i => .int i
  | .inr s => .str s
def sortUD : List D → Option (Bool × D)
  | [.lst ds] => sortD [.lst ds]
  | [.dic kvs] => if PySem.W.AllAlike ((kvs.map (·.1)).map pyK) then some (true, .lst ((sortK (kvs.map (·.1))).map dK)) else none
  | [.tup ds] => (asInts ds).map fun ns => (true, .lst ((sortK (ns.map Sum.inl)).map dK))
  | _ => none
theorem dK_rep {K : PySem.W.Frag} {U : Addr → Prop} {H : Hp} (k : Key) : Rep K U H (dK k) (kV k) := by
  cases k with
  | inl i => exact repInt
  | inr s => exact repStr
theorem dKs_rep {K : PySem.W.Frag} {U : Addr → Prop} {H : Hp} : ∀ ks : List Key, RepL K U H (ks.map dK) (ks.map kV)
  | [] => RepL.nil
  | k :: ks => RepL.cons (dK_rep k) (dKs_rep ks)
theorem RepK.keq {K : PySem.W.Frag} {U : Addr → Prop} {H : Hp} : ∀ {ds : List (Key × D)} {vs : List (Key × V)}, RepK K U H ds vs → vs.map (·.1) = ds.map (·.1)
  | [], vs, r => by rw [r.nil_inv]; rfl
  | (k, d) :: ds, vs, r => by
    obtain ⟨v, s, rfl, h, r'⟩ := r.inv
    rw [List.map_cons, List.map_cons, RepK.keq r']
theorem prim_sortU {K : PySem.W.Frag} : Prim K (fun xs H Q => rSortA K xs H Q ∨ rSortD xs H Q ∨ rSortT K xs H Q) sortUD := by
  intro U H ds vs Q b d hU ar e post
  unfold sortUD at e
  split at e
  · exact .inl (prim_sort U H _ vs Q b d hU ar e post)
  · split at e
    · rename_i hal
      cases e
      obtain ⟨v, rfl, h1⟩ := ar1 ar
      obtain ⟨p, ws, rfl, hp, r⟩ := arDic h1
      rename_i kvs
      have hk := r.keq
      refine .inr (.inl ⟨p, ws, rfl, .inl hp, by rw [hk]; exact hal, fun q hq => ?_⟩)
      rw [hk]
      exact post _ _ (ext_new hq) (fun z => by cases z) fun _ => newLst hq (dKs_rep _)
    · cases e
  · rename_i ds
    obtain ⟨v, rfl, h1⟩ := ar1 ar
    obtain ⟨p, ws, rfl, _, hp, r⟩ := arTup h1
    cases q : asInts ds with
    | none => rw [q] at e; cases e
    | some ns =>
      rw [q] at e
      cases e
      rw [asInts_of q] at r
      rw [r.ints] at hp
      exact .inr (.inr ⟨p, ns, rfl, SqT.of hp, fun q hq => post _ _ (ext_new hq) (fun z => by cases z) fun _ => newLst hq (dKs_rep _)⟩)
  · cases e
theorem cr_sortedU {X : Cx} (hc : X.calm = true) (hu : X.A.units + 64 < cLine) : CallR X (.builtin "sorted") (fun xs H Q => rSortA X.K xs H Q ∨ rSortD xs H Q ∨ rSortT X.K xs H Q) := CallR.or (cr_sortedA hu) (CallR.or (cr_sortedDK hc hu) (cr_sortedT hu))
end PyD

namespace PyD
open PySem PySem.Spec L2 PyProof.Rows

/-! ### min(xs) of a list of texts -/
def ltS (a b : Str) : Bool := decide (a.cps.toList < b.cps.toList)
def minS : Str → List Str → Str
  | m, [] => m
  | m, n :: ns => minS (if ltS n m = true then n else m) ns
theorem ltS_irr (a : Str) : ltS a a = false := by simp [ltS, List.lt_irrefl]
theorem ltS_trans {a b c : Str} (h : ltS a b = false) (h' : ltS b c = false) : ltS a c = false := by
  simp only [ltS, decide_eq_false_iff_not] at *
  exact fun z => (List.le_trans (List.not_lt.mp h') (List.not_lt.mp h)) z
theorem ltS_anti {a b : Str} (h : ltS a b = false) (h' : ltS b a = false) : a = b := by
  simp only [ltS, decide_eq_false_iff_not] at *
  have := List.le_antisymm (List.not_lt.mp h') (List.not_lt.mp h)
  cases a
  cases b
  congr 1
  exact Array.toList_inj.mp this
theorem ltS_asym {a b : Str} (h : ltS a b = true) : ltS b a = false := by
  simp only [ltS, decide_eq_true_eq, decide_eq_false_iff_not] at *
  exact List.lt_asymm h
theorem minS_spec : ∀ (ns : List Str) (m : Str), minS m ns ∈ m :: ns ∧ ltS m (minS m ns) = false ∧ ∀ y ∈ ns, ltS y (minS m ns) = false
  | [], m => ⟨by simp [minS], ltS_irr m, fun _ h => by cases h⟩
  | n :: ns, m => by
    obtain ⟨h1, h2, h3⟩ := minS_spec ns (if ltS n m = true then n else m)
    have e : minS m (n :: ns) = minS (if ltS n m = true then n else m) ns := rfl
    rw [e]
    by_cases hlt : ltS n m = true
    · rw [if_pos hlt] at h1 h2 h3 ⊢
      refine ⟨List.mem_cons_of_mem _ h1, ltS_trans (ltS_asym hlt) h2, fun y hy => ?_⟩
      rcases List.mem_cons.mp hy with rfl | hy
      · exact h2
      · exact h3 y hy
    · rw [if_neg hlt] at h1 h2 h3 ⊢
      have hlt : ltS n m = false := by simpa using hlt
      refine ⟨?_, h2, fun y hy => ?_⟩
      · rcases List.mem_cons.mp h1 with h1 | h1
        · rw [h1]; simp
        · exact List.mem_cons_of_mem _ (List.mem_cons_of_mem _ h1)
      · rcases List.mem_cons.mp hy with rfl | hy
        · exact ltS_trans hlt h2
        · exact h3 y hy
theorem argBest_ltS (val : Nat → Str) : ∀ k, PySem.argBest (fun i j => ltS (val i) (val j)) k ≤ k ∧ ∀ j, j ≤ k → ltS (val j) (val (PySem.argBest (fun i j => ltS (val i) (val j)) k)) = false
  | 0 => ⟨Nat.le_refl _, fun j hj => by
    have : j = 0 := by omega
    subst this
    exact ltS_irr _⟩
  | k + 1 => by
    obtain ⟨h1, h2⟩ := argBest_ltS val k
    unfold PySem.argBest
    split
    · rename_i h
      refine ⟨Nat.le_refl _, fun j hj => ?_⟩
      by_cases hjk : j = k + 1
      · subst hjk; exact ltS_irr _
      · exact ltS_trans (h2 j (by omega)) (ltS_asym h)
    · rename_i h
      have h : ltS (val (k + 1)) (val (PySem.argBest (fun i j => ltS (val i) (val j)) k)) = false := by simpa using h
      refine ⟨by omega, fun j hj => ?_⟩
      by_cases hjk : j = k + 1
      · subst hjk; exact h
      · exact h2 j (by omega)
section
variable {prog : Program} {w : World} {A : Around} {E : Value → Shared → Prop} {s : Shared} {l : Addr}
theorem cmp_strs {P : Nat → Value → Prop} (val : Nat → Str) (hval : ∀ i v, P i v → ∃ t, v = .str (val i) t) : PySem.CmpOf prog w A .Lt P (fun i j => ltS (val i) (val j)) := fun i j vi vj s Q E hi hj h => by
  obtain ⟨t, rfl⟩ := hval i vi hi
  obtain ⟨u, rfl⟩ := hval j vj hj
  show wpAny _ _ (compareOp .Lt (.str (val i) t) (.str (val j) u)) _ _ _
  exact lt_str h
theorem iter_list {xs : Array Value} {Q : Value → Shared → Prop} (hl : s.heap.IsList l xs)
    (h : ∀ s₂ : Shared, s₂ = { s with heap := s.heap.push { cls := .type "list_iterator", data := .fields #[.ref l, .int 0 0] } } →
      (s₂.heap.IsListIter s.heap.objs.size l 0 ∧ s₂.heap.IsList l xs) → (∀ b ∈ [s.heap.objs.size, l], b < s₂.heap.objs.size) → l ≠ s.heap.objs.size → Q (.ref s.heap.objs.size) s₂) :
    wpAny (model prog w) A (pyIter (.ref l)) Q E s := by
  have hlt : l < s.heap.objs.size := by obtain ⟨_, e, _⟩ := hl; exact Heap.lt_size e
  refine wpAny_pyIter_list hl (h _ rfl ⟨⟨_, Heap.get?_push_size _ rfl, rfl, rfl⟩, hl.push _⟩ (fun b hb => ?_) (Nat.ne_of_lt hlt))
  show b < (s.heap.push _).objs.size
  rw [Heap.size_push]
  rcases List.mem_cons.mp hb with rfl | hb
  · exact Nat.lt_succ_self _
  · rcases List.mem_cons.mp hb with rfl | hb
    · exact Nat.lt_succ_of_lt hlt
    · cases hb
theorem min_strs {xs : Array Value} {ss : List Str} {Q : Value → Shared → Prop} (hh : A.handled = none) (hl : s.heap.IsList l xs) (hn : xs.size = ss.length) (hv : ∀ (i : Nat) (v : Value), xs[i]? = some v → ∃ t, v = Value.str (ss.getD i ⟨#[]⟩) t) (hne : 0 < ss.length)
    (h : ∀ h' tk i t, (∀ b o, s.heap.get? b = some o → h'.get? b = some o) → i < ss.length → (∀ j, j < ss.length → ltS (ss.getD j ⟨#[]⟩) (ss.getD i ⟨#[]⟩) = false) → Q (.str (ss.getD i ⟨#[]⟩) t) { s with heap := h', toks := tk }) :
    wpAny (model prog w) A (call (.builtin "min") [.ref l]) Q E s := by
  refine PySem.call_min_walk (iter_list hl fun s₂ e st hfp hlI => ?_)
  subst e
  refine ⟨_, _, _, _, _, _, _, rfl, Walks.list (A := A.in1) hh _ l hlI xs, st, hfp, by omega, cmp_strs (fun i => ss.getD i ⟨#[]⟩) hv, fun v h' tk hP hk => ?_⟩
  obtain ⟨t, rfl⟩ := hv _ _ hP
  obtain ⟨h1, h2⟩ := argBest_ltS (fun i => ss.getD i ⟨#[]⟩) (xs.size - 1)
  refine h h' tk _ t (PySem.old_kept hk) (by omega) fun j hj => h2 j (by omega)
end
def rMinS (K : PySem.W.Frag) : List V → Hp → VK → Prop := fun vs H Q => ∃ (a : Addr) (m : Str) (ns : List Str), vs = [V.ref a] ∧ SqL K H a ((m :: ns).map V.str) ∧ Q (.str (minS m ns)) H
theorem vals_strs_at : ∀ {ss : List Str} {its : List Value}, Vals (ss.map V.str) its → ∀ (i : Nat) (v : Value), its[i]? = some v → ∃ t, v = Value.str (ss.getD i ⟨#[]⟩) t
  | [], _, h, i, v, e => by cases h; simp at e
  | s :: ss, _, h, i, v, e => by
    cases h with
    | cons r rs =>
      cases i with
      | zero =>
        obtain ⟨t, rfl⟩ := r
        exact ⟨t, by simpa using e.symm⟩
      | succ i =>
        have := vals_strs_at rs i v (by simpa using e)
        simpa using this
theorem cr_minS {X : Cx} (hc : X.calm = true) : CallR X (.builtin "min") (rMinS X.K) := by
  intro pins s σ H vs us Q I r h
  obtain ⟨a, m, ns, rfl, hs, q⟩ := h
  obtain ⟨its, rv, hl, _⟩ := I.list hs
  rw [Vals.ref1 r]
  have hlen : its.length = (m :: ns).length := by
    have := rv.length
    simpa using this.symm
  refine min_strs (ss := m :: ns) (I.ok.hd hc) hl.isList (by simpa using hlen) (fun i v e => vals_strs_at rv i v (by simpa using e)) (by simp) fun h' tk i t hk hi hle => ?_
  have e : (m :: ns).getD i ⟨#[]⟩ = minS m ns := by
    obtain ⟨h1, h2, h3⟩ := minS_spec ns m
    refine ltS_anti ?_ ?_
    · have hm : (m :: ns).getD i ⟨#[]⟩ ∈ m :: ns := by
        rw [List.getD_eq_getElem?_getD, List.getElem?_eq_getElem hi]
        exact List.getElem_mem hi
      rcases List.mem_cons.mp hm with z | z
      · rw [z]; exact h2
      · exact h3 _ z
    · obtain ⟨j, hj⟩ := List.getElem?_of_mem h1
      have hjl := (List.getElem?_eq_some_iff.mp hj).1
      have := hle j hjl
      rw [List.getD_eq_getElem?_getD, hj] at this
      exact this
  rw [e]
  exact ⟨.str _, H, I.kept hk, ⟨_, rfl⟩, q⟩
def minUD : List D → Option (Bool × D)
  | [.lst ds] => match asStrs ds with
    | some (n :: ns) => some (false, .str (minS n ns))
    | _ => minD [.lst ds]
  | _ => none
theorem prim_minU {K : PySem.W.Frag} : Prim K (fun xs H Q => rMin K xs H Q ∨ rMinS K xs H Q) minUD := by
  intro U H ds vs Q b d hU ar e post
  unfold minUD at e
  split at e
  · split at e
    · rename_i n ns hn
      obtain ⟨v, rfl, h1⟩ := ar1 ar
      obtain ⟨p, xs, rfl, hp, r⟩ := arLst h1
      cases e
      rw [asStrs_of hn] at r
      have r := r.strs
      subst r
      exact .inr ⟨p, n, ns, rfl, SqL.of hp, post _ H (Ext.refl H) (fun _ => repStr) (fun z => by cases z)⟩
    · exact .inl (prim_min U H _ vs Q b d hU ar e post)
  · cases e
theorem cr_minU {X : Cx} (hc : X.calm = true) : CallR X (.builtin "min") (fun xs H Q => rMin X.K xs H Q ∨ rMinS X.K xs H Q) := CallR.or (cr_min hc) (cr_minS hc)
/-! not in, of dicts too -/
theorem op_niV {X : Cx} (hu : X.A.units + 1 < cLine) : OpR X (compareOp .NotIn) (rInV X.K true) := by
  refine OpR.or op_niU ?_
  intro pins s σ H x y v u Q I rx ry h
  obtain ⟨a, ov, rfl, g, q⟩ := h
  obtain rfl : u = Value.ref a := ry
  exact d_notIn hu I g rx fun s3 I3 => ⟨.bl !ov.isSome, H, I3, rfl, by
    have e : (ov.isSome != true) = !ov.isSome := by cases ov <;> rfl
    rw [e] at q
    exact q⟩
end PyD

namespace PyD
open PySem PySem.Spec L2 PyProof.Rows

/-! ### a statement that is not reached -/
def badF : En → Fl := fun _ => .bad
theorem s_bad {X : Cx} {W : WX} {st : Stmt} : PS X st (RdS X.K W badF) := ps_imp ps_never fun D σ H ⟨B, en, G, m⟩ => m
theorem os_badF {en : En} {k : Fl → Prop} : okS badF en k = False := rfl

/-! ### x[::-1], x a text -/
theorem rev_idx (l : List Nat) : (Builtin.Str.strSliceIndices none none (-1) l.length).filterMap (l.toArray[·]?) = l.reverse := by
  have h1 : ¬ ((-1 : Int) > 0) := by decide
  have e : Builtin.Str.strSliceIndices none none (-1) l.length = (List.range l.length).map fun k => l.length - 1 - k := by
    unfold Builtin.Str.strSliceIndices sliceRange
    simp only [if_neg h1]
    have hc : (if ((l.length : Int) - 1) > -1 then (((l.length : Int) - 1) - -1 - -1 - 1) / (- -1) else 0).toNat = l.length := by
      by_cases hl : (l.length : Int) - 1 > -1
      · rw [if_pos hl]
        have : (((l.length : Int) - 1) - -1 - -1 - 1) / (- -1) = l.length := by
          show (((l.length : Int) - 1) - -1 - -1 - 1) / 1 = _
          rw [Int.ediv_one]
          omega
        rw [this]
        omega
      · rw [if_neg hl]
        have : l.length = 0 := by omega
        rw [this]
        rfl
    rw [hc]
    apply List.map_congr_left
    intro k hk
    have := List.mem_range.mp hk
    omega
  rw [e]
  apply List.ext_getElem?
  intro j
  have key : ∀ n, n ≤ l.length → ((List.range n).map fun k => l.length - 1 - k).filterMap (l.toArray[·]?) = l.reverse.take n := by
    intro n
    induction n with
    | zero => intro _; rfl
    | succ n ih =>
      intro hn
      rw [List.range_succ, List.map_append, List.filterMap_append, ih (by omega), List.take_succ]
      congr 1
      have h2 : l.toArray[l.length - 1 - n]? = l.reverse[n]? := by
        rw [List.getElem?_reverse (by omega)]
        simp
      show [l.length - 1 - n].filterMap (l.toArray[·]?) = _
      rw [List.filterMap_cons, h2]
      cases l.reverse[n]? <;> rfl
  rw [key l.length (Nat.le_refl _), List.take_of_length_le (by simp)]
def tRev (te : TE) (ts : TO) : TE := fun σ H Q => te σ H fun x H1 => ts σ H1 fun l H2 => ∃ z : Str, x = .str z ∧ l = some (-1) ∧ z.length ≤ sizeLine ∧ Q (.str ⟨z.cps.toList.reverse.toArray⟩) H2
theorem pe_rev {X : Cx} {te : TE} {ts : TO} {e st : Expr} {p2 pos : Pos} (he : PE X e te) (hst : PO X (some st) ts) : PE X (.Subscript e (.Slice none none (some st) p2) pos) (tRev te ts) := by
  refine ⟨fun pins s σ H Q I h => ?_⟩
  refine Subscript_ (thn (he.run pins s σ H _ I h) fun v s1 ⟨x, H1, I1, r1, q1⟩ => ?_)
  refine PySem.wpAny_Slice ?_
  rw [evalPart_none]
  refine wpAny_pure ?_
  refine wpAny_pure ?_
  refine thn (hst.run pins s1 σ H1 _ I1 q1) fun vt s2 ⟨l, H2, I2, pt, q2⟩ => ?_
  obtain ⟨z, rfl, rfl, hz, q⟩ := q2
  obtain ⟨t, rfl⟩ := r1
  obtain ⟨lt, rfl, hlt⟩ := IsPart.raw pt
  cases lt with
  | none => cases hlt
  | some lt =>
    obtain ⟨i, u⟩ := lt
    have hi : i = -1 := Option.some.inj hlt
    subst hi
    have I4 : Inv X pins σ H2 { s2 with heap := s2.heap.push { cls := .type "slice", data := .fields #[.none, .none, partValue (some (-1, u))] } } := I2.kept (t' := s2.toks) fun b ob q => Heap.get?_push_of_some _ q
    have hg : wpAny (model X.prog X.w) X.A (getItem (.str z t) (.ref s2.heap.objs.size)) (EP X pins σ Q) X.xe { s2 with heap := s2.heap.push { cls := .type "slice", data := .fields #[.none, .none, partValue (some (-1, u))] } } := by
      refine wpAny_getItem_str_slice (l := none) (u := none) (st := some (-1, u)) ⟨_, Heap.get?_push_size _ rfl, rfl, rfl⟩ rfl ?_
      have e : sliceMade z t none none (some (-1, u)) = Made.str ⟨z.cps.toList.reverse.toArray⟩ := by
        unfold sliceMade slicePicked
        show (if ((-1 : Int) == 1 && _) = true then _ else _) = _
        rw [if_neg (by simp)]
        have := rev_idx z.cps.toList
        rw [Array.length_toList] at this
        congr 3
      rw [e]
      exact ⟨by show (z.cps.toList.reverse.toArray).size ≤ _; rw [List.size_toArray, List.length_reverse, Array.length_toList]; exact hz, .str _, H2, I4.tok _, ⟨_, rfl⟩, q⟩
    show wpAny (model X.prog X.w) X.A (subscriptTail e (.Slice none none (some st) p2) (.str z t) (.ref s2.heap.objs.size)) (EP X pins σ Q) X.xe { s2 with heap := s2.heap.push { cls := .type "slice", data := .fields #[.none, .none, partValue (some (-1, u))] } }
    exact tail_any (ops := [.ref s2.heap.objs.size, .str z t]) (typeIs_str _ _ _) F.slot_str_getitem.lookup hg (by with_unfolding_all rfl)
def rRev : List V → Hp → VK → Prop := fun vs H Q => ∃ z : Str, vs = [.str z, .int (-1)] ∧ z.length ≤ sizeLine ∧ Q (.str ⟨z.cps.toList.reverse.toArray⟩) H
def revD : List D → Option (Bool × D)
  | [.str s, .int i] => if s.length ≤ sizeLine ∧ i = -1 then some (false, .str ⟨s.cps.toList.reverse.toArray⟩) else none
  | _ => none
theorem prim_rev {K : PySem.W.Frag} : Prim K rRev revD := by
  intro U H ds vs Q b d hU ar e post
  unfold revD at e
  split at e
  · split at e
    · rename_i h
      cases e
      obtain ⟨v, w, rfl, h1, h2⟩ := ar2 ar
      rw [arStr h1, arInt h2, h.2]
      exact ⟨_, rfl, h.1, post _ H (Ext.refl H) (fun _ => repStr) (fun z => by cases z)⟩
    · cases e
  · cases e
theorem e_rev {X : Cx} {W : WX} {e st : Expr} {f g : M R} {p2 pos : Pos} (he : PE X e (RdE X.K W f)) (hs : PE X st (RdE X.K W g)) : PE X (.Subscript e (.Slice none none (some st) p2) pos) (RdE X.K W (opF revD (two f g))) :=
  pe_imp (pe_rev he (po_some hs)) fun σ H Q m => by
    refine RdE.mono (fun v H1 h => ?_) (imp2 (opImp prim_rev m))
    refine RdE.mono (fun w H2 h => ?_) h
    obtain ⟨z, hz, h1, h2⟩ := h
    cases hz
    exact ⟨-1, rfl, z, rfl, rfl, h1, h2⟩
end PyD

section
set_option maxHeartbeats 4000000
namespace PyD
open PySem PySem.Spec L2 PyProof.Rows

/-! ### t * 1, t a tuple -/
theorem tuple_mul1 (l : Addr) (items : Array Value) (n : Nat) (dd : Option Addr) (sl : Array (Option Value)) (u : Tok) :
    Meets (Builtin.«tuple.__mul__» ⟨[.ref l, .int 1 u], []⟩) (fun _ R s => s.heap.get? l = some { cls := .type "tuple", dict := dd, data := .seq items n, slots := sl } ∧ R (.ok (.ret (Value.ref l))) s) :=
  .of_wp fun prog w A R s h => by
    obtain ⟨hp, g, d, tk, os⟩ := s
    obtain ⟨hl, h⟩ := h
    have f1 := AutoSeq1.idx_int
    have c1 : (items.isEmpty || (1 : Int) == 1) = true := by simp
    have c0 : (decide ((1 : Int) < -(2 ^ 63)) || decide ((1 : Int) ≥ 2 ^ 63)) = false := by decide
    wp_walk using wpAny_loadPart' hl
    repeat (first
      | (refine wpAny_ite_false (decide_eq_false (by rw [c0]; exact Bool.false_ne_true)) ?_; wp_walk using wpAny_loadPart' hl)
      | (refine wpAny_ite_true (decide_eq_true (by rw [c1])) ?_; wp_walk using wpAny_loadPart' hl))
    exact ⟨_, rfl, h⟩
def rRep1 (K : PySem.W.Frag) : R2 := fun x y H Q => ∃ l xs, x = .ref l ∧ y = .int 1 ∧ SqT K H l xs ∧ Q (.ref l) H
theorem op_repT1 {X : Cx} : OpR X (binaryOp .Mult) (rRep1 X.K) := by
  intro pins s σ H x y v u Q I rx ry h
  obtain ⟨l, xs, rfl, rfl, hT, q⟩ := h
  cases rx
  obtain ⟨t, rfl⟩ := ry
  obtain ⟨its, r, ⟨⟨cls, dd, data, sl⟩, ho, hc, n, hd⟩, hs⟩ := I.tuple hT
  simp only at hc hd
  subst hc hd
  refine wpAny_binaryOp_repeat_ref (T := "tuple") (U := "int") (by decide) ⟨_, ho, rfl⟩ (fun s' => typeIs_int s' 1 t) noFill_tuple_mul F.fills_int_mul F.slot_int_rmul repeat_tuple F.slot_int_index.lookup
    (call_meets F.slot_int_rmul (typeIs_int s 1 t) F.entry_int_rmul (F.args_int_rmul_2 _ _) (int_rmul_tuple 1 t l its.toArray n dd sl)
      ⟨ho, rfl, ⟨_, ho, rfl⟩, call_meets F.slot_tuple_mul ⟨_, ho, rfl⟩ F.entry_tuple_mul (F.args_tuple_mul_2 _ _) (tuple_mul1 l its.toArray n dd sl t) ⟨ho, ?_⟩⟩)
  exact ⟨.ref l, H, I, rfl, q⟩
def mulVD : List D → Option (Bool × D)
  | [.tup a, .int k] => if k = 1 then some (false, .tup a) else mulD [.tup a, .int k]
  | ds => mulD ds
def rMulV (K : PySem.W.Frag) : R2 := fun x y H Q => rMulU K x y H Q ∨ rRep1 K x y H Q
theorem op_mulV {X : Cx} : OpR X (binaryOp .Mult) (rMulV X.K) := OpR.or op_mulU op_repT1
theorem prim_mulV {K : PySem.W.Frag} : Prim K (r2 (rMulV K)) mulVD := by
  intro U H ds vs Q b d hU ar e post
  unfold mulVD at e
  split at e
  · split at e
    · rename_i hk
      cases e
      obtain ⟨v, w, rfl, h1, h2⟩ := ar2 ar
      have h1' := h1
      obtain ⟨p1, xs, rfl, n1, q1, r1⟩ := arTup h1
      rw [arInt h2, hk]
      exact ⟨_, _, rfl, .inr ⟨p1, xs, rfl, rfl, SqT.of q1, post _ H (Ext.refl H) (fun _ => h1') (fun z => by cases z)⟩⟩
    · obtain ⟨x, y, e1, q⟩ := prim_mul (K := K) U H _ vs Q b d hU ar e post
      exact ⟨x, y, e1, .inl q⟩
  · obtain ⟨x, y, e1, q⟩ := prim_mul (K := K) U H _ vs Q b d hU ar e post
    exact ⟨x, y, e1, .inl q⟩
theorem mulV_int {a b : Int} : mulVD [.int a, .int b] = if mulOk a b then some (false, .int (a * b)) else none := rfl
end PyD

end

section
set_option maxHeartbeats 4000000
namespace PyD
open PySem PySem.Spec L2

/-! ### a, (b, c) = .. -/
def prD : D → Option (D × List D)
  | .tup [x, .tup ys] => some (x, ys)
  | _ => none
theorem prD_some {d x : D} {ys : List D} (h : prD d = some (x, ys)) : d = .tup [x, .tup ys] := by
  unfold prD at h
  split at h
  · cases h; rfl
  · cases h
def gPq (i : Nat) (is : List Nat) : D → M Unit := fun d en => match prD d with
  | some p => (match freeAt en i with
    | true => gNms is p.2 (en.set i (.v p.1))
    | false => .bad)
  | none => .bad
section
variable {K : PySem.W.Frag} {B : Addr → Prop} {H : Hp} {σ : L2.St} {en : En} {v : V}
theorem gPqImp {i : Nat} {is : List Nat} {Q : L2.St → Hp → Prop} (m : RdG K (gPq i is) v σ H Q) : gTup K 2 (gCons (gName i) (gCons (gTup K is.length (gNames is)) gNil)) v σ H Q := by
  obtain ⟨B, en, d, G, r, m⟩ := m
  unfold gPq at m
  cases hd : prD d with
  | none => rw [hd] at m; exact m.elim
  | some p =>
  obtain ⟨x, ys⟩ := p
  rw [hd] at m
  obtain rfl := prD_some hd
  dsimp only at m
  unfold Rep at r
  obtain ⟨a, vs, e1, nu, ha, r⟩ := r
  obtain ⟨v1, us, rfl, r1, r2⟩ := r.inv
  obtain ⟨v2, us2, rfl, r3, r4⟩ := r2.inv
  obtain rfl := r4.nil_inv
  cases hf : freeAt en i with
  | false => rw [hf] at m; exact m.elim
  | true =>
    rw [hf] at m
    dsimp only at m
    have st : Stp σ en H (σ.set i (some v1)) (en.set i (.v x)) H := Stp.set_v hf
    have G1 : Good K B H (σ.set i (some v1)) (en.set i (.v x)) := G.set_v (fun _ h => h) (freeAt_lt hf).1 r1
    have r5 : Rep K (Un B (σ.set i (some v1)) (en.set i (.v x))) H (.tup ys) v2 := Rep.to (stepTo st (Bx.refl B σ en H)) _ _ r3
    refine ⟨a, _, e1, SqT.of ha, rfl, v1, _, rfl, ?_⟩
    refine ⟨v2, _, rfl, ?_⟩
    refine gTpImp ⟨B, en.set i (.v x), .tup ys, G1, r5, ?_⟩
    unfold gTp
    cases e : gNms is ys (en.set i (.v x)) with
    | ok u en2 =>
      rw [e] at m
      dsimp only at m
      show match gNms is ys (en.set i (.v x)) with | .ok _ en' => _ | _ => False
      rw [e]
      exact fun σ' H' g s => ⟨rfl, m σ' H' g (st.trans s)⟩
    | exc x en2 => rw [e] at m; exact m.elim
    | bad => rw [e] at m; exact m.elim
end
theorem g_pq {X : Cx} {i : Nat} {is : List Nat} {es : List Expr} {x : Str} {k k2 : Nat} {pos pos2 pos3 : Pos} (hc : X.calm = true) (hN : X.N.Nodup) (h2 : PGs X es (gNames is)) (hi : X.N[i]? = some x := by rfl) (hx : Loc X.env.scope x := by first | exact Or.inl rfl | exact Or.inr rfl)
    (hf : X.fn x = true ∨ X.env.scope.names.lookup x = some .local := by first | exact .inl rfl | exact .inr rfl | assumption)
    (hn : (assignEach es X.env).length = is.length := by rfl) (hst : (assignEach es X.env).findIdx? (·.1) = none := by rfl)
    (hs1 : (assignEach [.Tuple es k2 pos2] X.env).map (·.2) = assign (.Tuple es k2 pos2) X.env :: (assignEach [] X.env).map (·.2) := by rfl)
    (hs2 : (assignEach [.Name x pos3, .Tuple es k2 pos2] X.env).map (·.2) = assign (.Name x pos3) X.env :: (assignEach [.Tuple es k2 pos2] X.env).map (·.2) := by rfl)
    (hn3 : (assignEach [.Name x pos3, .Tuple es k2 pos2] X.env).length = 2 := by rfl) (hst3 : (assignEach [.Name x pos3, .Tuple es k2 pos2] X.env).findIdx? (·.1) = none := by rfl) :
    PG X (.Tuple [.Name x pos3, .Tuple es k2 pos2] k pos) (RdG X.K (gPq i is)) :=
  pg_imp (pg_tup hc (pgs_cons (pg_name hN hi hx hf) (pgs_cons (pg_tup hc h2 hn hst) pgs_nil hs1) hs2) hn3 hst3) fun v σ H Q m => gPqImp m
theorem ok_gPq {i : Nat} {is : List Nat} {d : D} {ds : List D} {en : En} {k : Unit → En → Prop} {x : Ex → En → Prop} : okE (gPq i is (.tup [d, .tup ds])) en k x = (freeAt en i = true ∧ okE (gNms is ds) (en.set i (.v d)) k x) := by
  unfold okE gPq
  have e : prD (.tup [d, .tup ds]) = some (d, ds) := rfl
  rw [e]
  cases freeAt en i <;> simp

/-! ### reversed(range(n)) -/
def rrgD : List D → Option (List D)
  | [.int j] => if -(2 ^ 62) ≤ j ∧ j < 2 ^ 62 then some (stepL (j.toNat - 1) (-1) j.toNat) else none
  | _ => none
def rRrg : List V → Hp → (It → Hp → Prop) → Prop := fun vs H1 R => ∃ b : Int, vs = [.int b] ∧ -(2 ^ 62) ≤ b ∧ b < 2 ^ 62 ∧ R (Itc ((b.toNat : Int) - 1) (-1) b.toNat) H1
theorem prim_rrg {K : PySem.W.Frag} : PrimI K rRrg rrgD := by
  intro U H ds vs out Rr hU rl e q
  unfold rrgD at e
  split at e
  · obtain ⟨v, rfl, r⟩ := rl1 rl
    unfold Rep at r
    subst r
    rename_i j
    by_cases hc : -(2 ^ 62) ≤ j ∧ j < 2 ^ 62
    · rw [if_pos hc] at e
      cases e
      exact ⟨j, rfl, hc.1, hc.2, q _ wd_step⟩
    · rw [if_neg hc] at e; cases e
  · cases e
theorem i_rrg {X : Cx} {W : WX} {a : Expr} {fa : M R} {tg : Expr} {p p2 pos pos2 : Pos} (hg : Gl X "reversed") (hm : X.mg "reversed" = none) (hg2 : Gl X "range") (hm2 : X.mg "range" = none) (ha : PE X a (RdE X.K W fa))
    (na : starEach [a] X.env = (false, eval a X.env) :: starEach [] X.env := by rfl) (nb : starEach [.Call (.Name "range" p2) [a] [] pos2] X.env = (false, eval (.Call (.Name "range" p2) [a] [] pos2) X.env) :: starEach [] X.env := by rfl) :
    PI X tg (.Call (.Name "reversed" p) [.Call (.Name "range" p2) [a] [] pos2] [] pos) (RdI X.K W (itA rrgD (one fa))) :=
  pi_imp (pi_revR hg hm (prg_1 hg2 hm2 ha na) nb) fun σ H Rr m => RdE.mono (fun v H1 h => by
    obtain ⟨b, e, h1, h2, h3⟩ := h
    cases e
    refine ⟨b, rfl, by omega, by omega, h1, h2, ?_⟩
    rw [show (b - 0).toNat = b.toNat by rw [Int.sub_zero], show (0 : Int) + (b.toNat : Int) - 1 = (b.toNat : Int) - 1 by omega]
    exact h3) (imp1 (itAImp prim_rrg m))
theorem rrg {j : Int} : rrgD [.int j] = if -(2 ^ 62) ≤ j ∧ j < 2 ^ 62 then some (stepL (j.toNat - 1) (-1) j.toNat) else none := rfl

/-! ### abs, text.index -/
def absD : List D → Option (Bool × D)
  | [.int i] => some (false, .int (if i < 0 then -i else i))
  | _ => none
theorem prim_abs {K : PySem.W.Frag} : Prim K (fun xs H Q => ∃ i, xs = [.int i] ∧ Q (.int (if i < 0 then -i else i)) H) absD := by
  intro U H ds vs Q b d hU ar e post
  unfold absD at e
  split at e
  · obtain ⟨v, rfl, h1⟩ := ar1 ar
    cases e
    rw [arInt h1]
    exact ⟨_, rfl, post _ H (Ext.refl H) (fun _ => repInt) (fun z => by cases z)⟩
  · cases e
theorem abs_int {i : Int} : absD [.int i] = some (false, .int (if i < 0 then -i else i)) := rfl
def indexD : List D → Option (Bool × D)
  | [.str a, .str b] => match Builtin.Str.occurrences a b 0 a.length 1 with
    | i :: _ => some (false, .int (i : Nat))
    | [] => none
  | _ => none
theorem prim_index {K : PySem.W.Frag} : Prim K (rM (fun x xs H Q => ∃ a b i rest, x = .str a ∧ xs = [.str b] ∧ Builtin.Str.occurrences a b 0 a.length 1 = i :: rest ∧ Q (.int (i : Nat)) H)) indexD := by
  intro U H ds vs Q b d hU ar e post
  unfold indexD at e
  split at e
  · obtain ⟨v, w, rfl, h1, h2⟩ := ar2 ar
    rw [arStr h1, arStr h2]
    split at e
    · rename_i i r ho
      cases e
      exact ⟨_, _, rfl, _, _, i, r, rfl, rfl, ho, post _ H (Ext.refl H) (fun _ => repInt) (fun z => by cases z)⟩
    · cases e
  · cases e
end PyD

end

section
set_option maxHeartbeats 4000000
namespace PyD
open PySem PySem.Spec L2 PyProof.Rows
/-! sorted(set(x)), x a list or a tuple of whole numbers -/
def dedI : List Int → List Int
  | [] => []
  | a :: r => if a ∈ r then dedI r else a :: dedI r
theorem dedI_mem {k : Int} : ∀ {ns : List Int}, k ∈ dedI ns ↔ k ∈ ns
  | [] => Iff.rfl
  | a :: r => by
    unfold dedI
    split
    · rename_i h
      rw [dedI_mem, List.mem_cons]
      exact ⟨.inr, fun z => z.elim (fun e => e ▸ h) id⟩
    · rw [List.mem_cons, List.mem_cons, dedI_mem]
theorem dedI_nodup : ∀ ns : List Int, (dedI ns).Nodup
  | [] => List.nodup_nil
  | a :: r => by
    unfold dedI
    split
    · exact dedI_nodup r
    · rename_i h
      exact List.nodup_cons.mpr ⟨fun z => h (dedI_mem.mp z), dedI_nodup r⟩
def leI (a b : Int) : Bool := decide (a ≤ b)
def ssort (ns : List Int) : List Int := (dedI ns).mergeSort leI
theorem leI_trans : ∀ a b c : Int, leI a b = true → leI b c = true → leI a c = true := fun a b c h h' => by
  unfold leI at *
  rw [decide_eq_true_eq] at *
  omega
theorem leI_total : ∀ a b : Int, (leI a b || leI b a) = true := fun a b => by
  unfold leI
  rw [Bool.or_eq_true, decide_eq_true_eq, decide_eq_true_eq]
  omega
theorem leI_key (a b : Int) : leI a b = PySem.W.dataLe false pyK (.inl a) (.inl b) := by
  show _ = !(PyProof.Rows.listOrd PyProof.Rows.itemOrd).blt [.inl b] [.inl a]
  have l2 : ∀ x y : Int, PyProof.Rows.itemOrd.blt (.inl x) (.inl y) = decide (x < y) := fun _ _ => rfl
  show _ = !PyProof.Rows.lexLt PyProof.Rows.itemOrd [.inl b] [.inl a]
  unfold PyProof.Rows.lexLt
  rw [l2, l2]
  unfold leI
  by_cases h : a ≤ b
  · rw [decide_eq_true h, decide_eq_false (show ¬ b < a by omega)]
    by_cases h2 : a < b
    · rw [decide_eq_true h2]; rfl
    · rw [decide_eq_false h2]; rfl
  · rw [decide_eq_false h, decide_eq_true (show b < a by omega)]
    rfl
theorem sortK_ints {out ns : List Int} (nd : out.Nodup) (hm : ∀ k, k ∈ out ↔ k ∈ ns) : (sortK (out.map Sum.inl)).map kV = (ssort ns).map V.int := by
  unfold sortK ssort
  rw [← List.map_mergeSort (r := leI) (s := PySem.W.dataLe false pyK) (f := Sum.inl) (fun a _ b _ => leI_key a b), List.map_map]
  have p : out.Perm (dedI ns) := (List.perm_ext_iff_of_nodup nd (dedI_nodup ns)).mpr fun k => by rw [hm, dedI_mem]
  have e : out.mergeSort leI = (dedI ns).mergeSort leI := by
    refine List.Perm.eq_of_pairwise (le := fun a b => leI a b = true) (fun a b _ _ x y => ?_) (List.pairwise_mergeSort leI_trans leI_total _) (List.pairwise_mergeSort leI_trans leI_total _) (((List.mergeSort_perm _ _).trans p).trans (List.mergeSort_perm _ _).symm)
    unfold leI at x y
    rw [decide_eq_true_eq] at x y
    omega
  rw [e]
  rfl
section
variable {P : Program} {w : World} {A : Around} {E : Value → Shared → Prop} {s : Shared}
theorem set_of_list {m : Addr} {xs : Array Value} (ks : List Int) {Q : Value → Shared → Prop} (h0 : A.handled = none) (hm : s.heap.IsList m xs) (hx : IntsAre xs.toList ks) (hk : ks.length + 1 < scanBound)
    (post : ∀ (g : Heap) (tk c : Nat), SetR w g s.heap.objs.size (fun j => decide (j ∈ ks)) c → c ≤ ks.length → (∀ b o, s.heap.get? b = some o → g.get? b = some o) → Q (.ref s.heap.objs.size) { s with heap := g, toks := tk }) :
    wpAny (model P w) A (call (.type "set") [.ref m]) Q E s := by
  have hsz : xs.size = ks.length := by rw [← hx.length, Array.length_toList]
  obtain ⟨cc, tl, hmro⟩ := F.called_set.mro
  have c1 := F.called_set.made
  have c2 := F.called_set.sub
  refine wpAny_call (codeAny_of_tree ?_)
  show wpAny _ _ (callAny (.type "set") _) _ _ _
  refine wpAny_pure ⟨Code.quiet_builtin _ (by decide +kernel), codeAny_builtin F.entry_type_call ?_⟩
  rw [Around.under_plain (weight_type_call_type "set" [.ref m] []) rfl]
  have c3 := F.called_set.notType
  have c4 := F.called_set.canCreate
  have c5 := F.typeCall_set_1 (.ref m)
  repeat (any_goals (first | assumption | wp_step))
  refine codeAny_mono (code_set_led1 (.ref m) (E := E) (Q₁ := fun ob t => ob = .ref s.heap.objs.size ∧ t = { s with heap := s.heap.push ({ cls := .type "set", dict := none, data := .set #[] 0 (.fresh 0 0 (!w.params.followText "set-order")) } : Obj) }) ⟨rfl, rfl⟩) fun r t hr => ?_
  cases r with
  | error e => exact hr
  | ok fl =>
    cases fl with
    | ret ob =>
      obtain ⟨rfl, rfl⟩ := hr
      have d1 : (s.heap.push ({ cls := .type "set", dict := none, data := .set #[] 0 (.fresh 0 0 (!w.params.followText "set-order")) } : Obj)).get? s.heap.objs.size = some ({ cls := .type "set", dict := none, data := .set #[] 0 (.fresh 0 0 (!w.params.followText "set-order")) } : Obj) := Heap.get?_push_size _ rfl
      have d2 : Shared.TypeIs { s with heap := s.heap.push ({ cls := .type "set", dict := none, data := .set #[] 0 (.fresh 0 0 (!w.params.followText "set-order")) } : Obj) } (.ref s.heap.objs.size) "set" := ⟨_, d1, rfl⟩
      have d3 := F.called_set.init.lookup
      have d4 := F.called_set.init.bind (.ref s.heap.objs.size)
      repeat (any_goals (first | assumption | wp_step))
      refine codeAny_mono (codeAny_call_builtin (R := wants (fun r t => r = .none ∧ ∃ g tk c, t = { s with heap := g, toks := tk } ∧ SetR w g s.heap.objs.size (fun j => decide (j ∈ ks)) c ∧ c ≤ ks.length ∧ ∀ b o, s.heap.get? b = some o → g.get? b = some o) E) F.called_set.init.plain F.entry_set_init (check_set_init_1 d2 ?_)) fun r2 t2 hr2 => ?_
      · obtain ⟨om, hom, e1, nm, e2⟩ := hm
        obtain ⟨mcls, mdict, mdata, mslots⟩ := om
        simp only at e1 e2
        subst e1; subst e2
        have hom2 : (s.heap.push ({ cls := .type "set", dict := none, data := .set #[] 0 (.fresh 0 0 (!w.params.followText "set-order")) } : Obj)).get? m = some { cls := .type "list", dict := mdict, data := .seq xs nm, slots := mslots } := Heap.get?_push_of_some _ hom
        have f1 := F.sub_list_set
        have f2 := F.sub_list_frozenset
        have f3 : (Value.type "list" == Value.type "dict") = false := by decide
        have f4 : (s.heap.push ({ cls := .type "set", dict := none, data := .set #[] 0 (.fresh 0 0 (!w.params.followText "set-order")) } : Obj)).IsList m xs := ⟨_, hom2, rfl, nm, rfl⟩
        unfold Builtin.«set.__init__» noKeywords Builtin.Frozenset.updateFrom
        generalize hIt : pyIter = IT
        wp_walk
        subst hIt
        refine wpAny_pyIter_list f4 ?_
        refine wpAny_bind (wpAny_runValue ?_)
        have hml : m < s.heap.objs.size := Heap.lt_size hom
        have h3 : A.in1.in1.in1.handled = none := by simp [h0]
        have hps : (s.heap.push ({ cls := .type "set", dict := none, data := .set #[] 0 (.fresh 0 0 (!w.params.followText "set-order")) } : Obj)).objs.size = s.heap.objs.size + 1 := Heap.size_push ..
        have hmI : m ≠ (s.heap.push ({ cls := .type "set", dict := none, data := .set #[] 0 (.fresh 0 0 (!w.params.followText "set-order")) } : Obj)).objs.size := Nat.ne_of_lt (by rw [hps]; exact Nat.lt_succ_of_lt hml)
        have hSI : s.heap.objs.size ∉ [(s.heap.push ({ cls := .type "set", dict := none, data := .set #[] 0 (.fresh 0 0 (!w.params.followText "set-order")) } : Obj)).objs.size, m] := fun z => by
          rcases List.mem_cons.mp z with z | z
          · exact absurd (z.trans hps) (Nat.ne_of_lt (Nat.lt_succ_self _))
          · exact absurd (List.mem_singleton.mp z) (Nat.ne_of_gt hml)
        have hv : ∀ (i : Nat) (v : Value), xs[i]? = some v → ∃ k t, ks[i]? = some k ∧ v = .int k t := fun i v q => by
          have hi : i < ks.length := by rw [← hsz]; exact (Array.getElem?_eq_some_iff.mp q).1
          obtain ⟨t, e⟩ := PyProof.Rows.IntsAre.int_at hx i v (by rw [Array.getElem?_toList]; exact q)
          exact ⟨ks[i], t, List.getElem?_eq_getElem hi, by rw [e, List.getD_eq_getElem?_getD, List.getElem?_eq_getElem hi]; rfl⟩
        refine set_update_ints ((Walks.list h3 _ m hmI xs).toS) s.heap.objs.size hSI ks hsz hk hv (xs.size - 0) 0 _ (by omega) (Nat.zero_le _) ⟨⟨_, Heap.get?_push_size _ rfl, rfl, rfl⟩, (f4.push _)⟩ ?pa ?pb
        case pa =>
          exact ⟨0, Nat.le_refl 0, setR_new_at (Heap.get?_push_of_some _ d1)⟩
        case pb =>
          intro t c hmv hc hS
          obtain ⟨g, gg, dd, tk, oo⟩ := t
          obtain rfl : gg = s.gens := hmv.gens
          obtain rfl : dd = s.drawn := hmv.drawn
          obtain rfl : oo = s.os := hmv.os
          show wpAny _ _ _ _ _ _
          refine wpAny_pure ?_
          show wpAny _ _ (ret Value.none) _ _ _
          refine wpAny_pure ⟨rfl, g, tk, c, rfl, hS, by rw [← hsz]; exact hc, fun b o q => ?_⟩
          have hb : b < s.heap.objs.size := Heap.lt_size q
          refine hmv.heap b o (fun z => ?_) (Heap.get?_push_of_some _ (Heap.get?_push_of_some _ q))
          rcases List.mem_cons.mp z with z | z
          · exact absurd z (Nat.ne_of_lt hb)
          · exact absurd ((List.mem_singleton.mp z).trans hps) (Nat.ne_of_lt (Nat.lt_succ_of_lt hb))
      · cases r2 with
        | error e => exact hr2
        | ok fl2 =>
          cases fl2 with
          | ret r =>
            obtain ⟨rfl, g, tk, c, rfl, hS, hc, hkp⟩ := hr2
            repeat (any_goals (first | assumption | wp_step))
            exact post _ _ _ hS hc hkp
          | _ => exact hr2.elim
    | _ => exact hr.elim
end
end PyD

end

section
set_option maxHeartbeats 4000000
namespace PyD
open PySem PySem.Spec L2 PyProof.Rows
theorem sorted_of_set {X : Cx} (hc : X.calm = true) (hu : X.A.units + 64 < cLine) {pins : List (Addr × Obj)} {s : Shared} {σ : L2.St} {H : Hp} {Q : VK} {g : Heap} {tk c : Nat} {a : Addr} {ks : List Int} (I : Inv X pins σ H s)
    (hk : ∀ b o, s.heap.get? b = some o → g.get? b = some o) (R : SetR X.w g a (fun j => decide (j ∈ ks)) c) (q : ∀ p, H p = none → Q (.ref p) (upd H p (.lst ((ssort ks).map V.int)))) :
    wpAny (model X.prog X.w) X.A (call (.builtin "sorted") [.ref a]) (EP X pins σ Q) X.xe { s with heap := g, toks := tk } := by
  obtain ⟨o, es, ep, t, ho, hex, hdt, gd, nd, hm, hb, hf, hn, hr, hl⟩ := R
  refine Calls.call_function_entry PyProof.Rows.kind_sorted PyProof.Rows.plain_sorted PyProof.Rows.entry_sorted (PyProof.Rows.args_sorted1 _) ?_
  unfold Builtin.«sorted»
  refine wpAny_bind (m := checkCount "sorted" 1 1 _) (wpAny_pure ?_)
  refine wpAny_bind (collect_set (A := X.A.in1) (s := { s with heap := g, toks := tk }) (I.ok.hd hc) ⟨o, ho, hex.1, hdt⟩ hf hb hr hl fun s2 out k2 z2 g2 o2 hp => ?_)
  have kall : ∀ b u, s.heap.get? b = some u → s2.heap.get? b = some u := fun b u e => k2 b u (hk b u e)
  have I2 : Inv X pins σ H s2 := I.call' (ch := []) o2 (Un.kept kall) (I.hok.kept kall) (by rw [g2]; exact I.bare) (fun _ z => nomatch z)
  have hv : ∀ v ∈ out, ∃ k t, v = Value.int k t := fun v hv => by
    obtain ⟨e, he, ev⟩ := List.mem_map.mp (hp.mem_iff.mp hv)
    obtain ⟨kk, tt, e2, _⟩ := gd e he
    exact ⟨kk, tt, ev.symm.trans e2⟩
  have hpk : (out.map L2.vInt).Perm (es.toList.map L2.keyOf) := by
    have z := hp.map L2.vInt
    rw [List.map_map] at z
    rw [show es.toList.map L2.keyOf = es.toList.map (L2.vInt ∘ fun x => x.2) from List.map_congr_left fun e _ => L2.key_vInt e]
    exact z
  have hnd : (out.map L2.vInt).Nodup := hpk.nodup_iff.mpr nd
  have hmm : ∀ k, k ∈ out.map L2.vInt ↔ k ∈ ks := fun k => by rw [hpk.mem_iff, ← hm k, decide_eq_true_eq]
  have h16 : out.length ≤ sizeLine := by
    rw [hp.length_eq, List.length_map, Array.length_toList]
    exact fits_of_scanBound hb
  have hvals : Vals (((out.map L2.vInt).map Sum.inl : List Key).map kV) out := by
    clear hp hpk hnd hmm h16
    induction out with
    | nil => exact .nil
    | cons v r ih =>
      obtain ⟨k, t, rfl⟩ := hv v (by simp)
      exact .cons ⟨t, rfl⟩ (ih fun v hv' => hv v (by simp [hv']))
  show wpAny _ _ (newList out >>= _) _ _ s2
  refine wpAny_bind (wpAny_newList ?_ h16)
  have hoL : (s2.heap.push (seqObj "list" out.toArray 0)).get? s2.heap.objs.size = some (seqObj "list" out.toArray 0) := Heap.get?_push_size _ rfl
  have he := vals_each hvals
  show wpAny _ _ _ _ _ { s2 with heap := s2.heap.push (seqObj "list" out.toArray 0) }
  refine wpAny_bind (wpAny_holding (PySem.W.list_sort_data (s := { s2 with heap := s2.heap.push (seqObj "list" out.toArray 0) }) (enc := pyK) hoL he (he.mono fun v k rv => reads_key rv) (alike_ints (out.map L2.vInt)) (sortable_keys _) (by rw [List.length_map, List.length_map]; exact h16) (fun k hk => ?_) fun out2 h1 h2 => ?_))
  · have : (pyK k).depth ≤ 1 := by cases k <;> simp [pyK, PyData.depth]
    have : X.A.in1.units ≤ X.A.units + 2 := by simp [Around.in1]
    have : X.A.in1.in1.units ≤ X.A.units + 2 := by simp [Around.in1]
    omega
  obtain ⟨e', he'⟩ := PyProof.Rows.sortedHeap_at (vs := out) (out := out2.toArray) hoL
  have hrel : Vals ((ssort ks).map V.int) out2 := by
    have := each_valsK h2
    rw [← sortK_ints hnd hmm]
    exact this
  have hlen : ((ssort ks).map V.int).length ≤ sizeLine := by
    rw [← sortK_ints hnd hmm, List.length_map, sortK, List.length_mergeSort, List.length_map, List.length_map]
    exact h16
  refine wpAny_pure ⟨_, rfl, .ref s2.heap.objs.size, upd H s2.heap.objs.size (.lst ((ssort ks).map V.int)), I2.laid (t' := s2.toks) (fun b u e => ?_) (Nat.le_refl _)
    (show ObjOk X.prog X.w _ _ _ (.lst ((ssort ks).map V.int)) from ⟨hlen, out2, e', hrel, he'⟩), rfl, q _ (I2.hok.fresh (Nat.le_refl _))⟩
  have hb : b < s2.heap.objs.size := Heap.lt_size e
  rw [PyProof.Rows.sortedHeap_old (Nat.ne_of_lt hb) (by rw [size_push']; exact Nat.lt_succ_of_lt hb)]
  exact Heap.get?_push_of_some _ e
def rSS (K : PySem.W.Frag) : List V → Hp → VK → Prop := fun xs H Q => ∃ (p : Addr) (ks : List Int), xs = [.ref p] ∧ (SqL K H p (ks.map V.int) ∨ SqT K H p (ks.map V.int)) ∧ ks.length ≤ 4000 ∧ ∀ q, H q = none → Q (.ref q) (upd H q (.lst ((ssort ks).map V.int)))
theorem pe_sortset {X : Cx} {x y : Str} {e : Expr} {p p2 pos pos2 : Pos} {ta : TA} (hc : X.calm = true) (hu : X.A.units + 64 < cLine) (hg : Gl X "sorted") (hm : X.mg "sorted" = none) (hg2 : Gl X "set") (hm2 : X.mg "set" = none) (ha : PA X [e] ta)
    (hs : starEach [e] X.env = [(false, eval e X.env)] := by rfl)
    (hs2 : starEach [.Call (.Name "set" p2) [e] [] pos2] X.env = [(false, eval (.Call (.Name "set" p2) [e] [] pos2) X.env)] := by rfl) : PE X (.Call (.Name "sorted" p) [.Call (.Name "set" p2) [e] [] pos2] [] pos) (tCB (rSS X.K) ta) := by
  refine ⟨fun pins s σ H Q I h => ?_⟩
  refine wpAny_Call_Name_kw (ld_blt I hg hm PyProof.Rows.boot_sorted ?_)
  refine PyProof.Rows.callWith_builtin1 ?_ hs2 rfl
  rw [hs2]
  show wpAny _ _ (spliced ((false, eval (.Call (.Name "set" p2) [e] [] pos2) X.env) :: [])) _ _ s
  refine Calls.spliced_cons ?_
  refine wpAny_Call_Name_kw (ld_blt I hg2 hm2 PyProof.Rows.boot_set ?_)
  refine PyProof.Rows.callWith_type1 (thn (ha.run pos2 pins s σ H _ I h) fun us s1 ⟨vs, H1, I1, r1, q1⟩ => ?_) hs rfl
  obtain ⟨a, ks, rfl, hq, hl, q⟩ := q1
  rw [Vals.ref1 r1]
  have h0 := I1.ok.hd hc
  rcases hq with hq | hq
  · obtain ⟨its, rv, pl, hz⟩ := I1.list hq
    refine set_of_list ks h0 pl.isList (ints_of_vals rv) (by unfold scanBound; omega) fun g tk c R hcn k => ?_
    exact Calls.spliced_nil (sorted_of_set hc hu I1 k R q)
  · obtain ⟨its, rv, pt, hz⟩ := I1.tuple hq
    refine call_set_tupI ks h0 (show s1.heap.IsTuple a its.toArray from pt) (ints_of_vals rv) (by unfold scanBound; omega) fun g tk c R hcn k => ?_
    exact Calls.spliced_nil (sorted_of_set hc hu I1 k R q)
/-! as a meaning -/
def sortsetD : List D → Option (Bool × D)
  | [.lst ds] => (asInts ds).bind fun ks => if ks.length ≤ 4000 then some (true, .lst ((ssort ks).map D.int)) else none
  | [.tup ds] => (asInts ds).bind fun ks => if ks.length ≤ 4000 then some (true, .lst ((ssort ks).map D.int)) else none
  | _ => none
theorem ints_rep {K : PySem.W.Frag} {U : Addr → Prop} {H : Hp} : ∀ ks : List Int, RepL K U H (ks.map D.int) (ks.map V.int)
  | [] => RepL.nil
  | k :: ks => RepL.cons repInt (ints_rep ks)
theorem prim_sortset {K : PySem.W.Frag} : Prim K (rSS K) sortsetD := by
  intro U H ds vs Q b d hU ar e post
  unfold sortsetD at e
  split at e
  · rename_i ds
    obtain ⟨v, rfl, h1⟩ := ar1 ar
    obtain ⟨p, ws, rfl, hp, r⟩ := arLst h1
    cases q : asInts ds with
    | none => rw [q] at e; cases e
    | some ns =>
      rw [q, Option.bind_some] at e
      split at e
      · rename_i hn
        cases e
        rw [asInts_of q] at r
        rw [r.ints] at hp
        exact ⟨p, ns, rfl, .inl (SqL.of hp), hn, fun q hq => post _ _ (ext_new hq) (fun z => by cases z) fun _ => newLst hq (ints_rep _)⟩
      · cases e
  · rename_i ds
    obtain ⟨v, rfl, h1⟩ := ar1 ar
    obtain ⟨p, ws, rfl, _, hp, r⟩ := arTup h1
    cases q : asInts ds with
    | none => rw [q] at e; cases e
    | some ns =>
      rw [q, Option.bind_some] at e
      split at e
      · rename_i hn
        cases e
        rw [asInts_of q] at r
        rw [r.ints] at hp
        exact ⟨p, ns, rfl, .inr (SqT.of hp), hn, fun q hq => post _ _ (ext_new hq) (fun z => by cases z) fun _ => newLst hq (ints_rep _)⟩
      · cases e
  · cases e
theorem e_sortset {X : Cx} {W : WX} {e : Expr} {p p2 pos pos2 : Pos} {fs : M (List R)} (hc : X.calm = true) (hu : X.A.units + 64 < cLine) (hg : Gl X "sorted") (hm : X.mg "sorted" = none) (hg2 : Gl X "set") (hm2 : X.mg "set" = none) (ha : PA X [e] (RdA X.K W fs))
    (hs : starEach [e] X.env = [(false, eval e X.env)] := by rfl)
    (hs2 : starEach [.Call (.Name "set" p2) [e] [] pos2] X.env = [(false, eval (.Call (.Name "set" p2) [e] [] pos2) X.env)] := by rfl) :
    PE X (.Call (.Name "sorted" p) [.Call (.Name "set" p2) [e] [] pos2] [] pos) (RdE X.K W (opF sortsetD fs)) :=
  pe_imp (pe_sortset (x := "") (y := "") hc hu hg hm hg2 hm2 ha hs hs2) fun σ H Q m => opImp prim_sortset m
theorem ss_lst {ds : List D} {ks : List Int} (h : asInts ds = some ks) (hl : ks.length ≤ 4000) : sortsetD [.lst ds] = some (true, .lst ((ssort ks).map D.int)) := by
  show (asInts ds).bind _ = _
  rw [h, Option.bind_some, if_pos hl]
theorem ss_tup {ds : List D} {ks : List Int} (h : asInts ds = some ks) (hl : ks.length ≤ 4000) : sortsetD [.tup ds] = some (true, .lst ((ssort ks).map D.int)) := by
  show (asInts ds).bind _ = _
  rw [h, Option.bind_some, if_pos hl]
end PyD

end

namespace PyD
open PySem PySem.Spec L2 PyProof.Rows
/-! x[::-1], x a text or a list -/
theorem down_idx (n : Nat) : sliceRange ((n : Int) - 1) (-1) (-1) = (List.range n).map fun k => n - 1 - k := by
  have h1 : ¬ ((-1 : Int) > 0) := by decide
  unfold sliceRange
  simp only [if_neg h1]
  have hc : (if ((n : Int) - 1) > -1 then (((n : Int) - 1) - -1 - -1 - 1) / (- -1) else 0).toNat = n := by
    by_cases hl : (n : Int) - 1 > -1
    · rw [if_pos hl]
      have : (((n : Int) - 1) - -1 - -1 - 1) / (- -1) = n := by
        show (((n : Int) - 1) - -1 - -1 - 1) / 1 = _
        rw [Int.ediv_one]
        omega
      rw [this]
      omega
    · rw [if_neg hl]
      have : n = 0 := by omega
      rw [this]
      rfl
  rw [hc]
  apply List.map_congr_left
  intro k hk
  have := List.mem_range.mp hk
  omega
theorem down_pick (l : List Value) : slicePick l.toArray none none (some (-1)) = l.reverse.toArray := by
  unfold slicePick
  congr 1
  have e : sliceRange (sliceBounds none none (some (-1)) l.toArray.size).1 (sliceBounds none none (some (-1)) l.toArray.size).2.1 (sliceBounds none none (some (-1)) l.toArray.size).2.2 = (List.range l.length).map fun k => l.length - 1 - k := by
    rw [← down_idx]
    simp [sliceBounds]
  rw [e]
  have key : ∀ n, n ≤ l.length → ((List.range n).map fun k => l.length - 1 - k).filterMap (l.toArray[·]?) = l.reverse.take n := by
    intro n
    induction n with
    | zero => intro _; rfl
    | succ n ih =>
      intro hn
      rw [List.range_succ, List.map_append, List.filterMap_append, ih (by omega), List.take_succ]
      congr 1
      have h2 : l.toArray[l.length - 1 - n]? = l.reverse[n]? := by
        rw [List.getElem?_reverse (by omega)]
        simp
      show [l.length - 1 - n].filterMap (l.toArray[·]?) = _
      rw [List.filterMap_cons, h2]
      cases l.reverse[n]? <;> rfl
  rw [key l.length (Nat.le_refl _), List.take_of_length_le (by simp)]
theorem vals_rev : ∀ {xs : List V} {us : List Value}, Vals xs us → Vals xs.reverse us.reverse
  | _, _, .nil => .nil
  | _, _, .cons r rs => by
    rw [List.reverse_cons, List.reverse_cons]
    exact (vals_rev rs).append (.cons r .nil)
def tRevL (K : PySem.W.Frag) (te : TE) (ts : TO) : TE := fun σ H Q => te σ H fun x H1 => ts σ H1 fun l H2 => l = some (-1) ∧ ((∃ z : Str, x = .str z ∧ z.length ≤ sizeLine ∧ Q (.str ⟨z.cps.toList.reverse.toArray⟩) H2) ∨
  ∃ (a : Addr) (xs : List V), x = .ref a ∧ SqL K H2 a xs ∧ ∀ p, H2 p = none → Q (.ref p) (upd H2 p (.lst xs.reverse)))
theorem pe_revL {X : Cx} {te : TE} {ts : TO} {e st : Expr} {p2 pos : Pos} (he : PE X e te) (hst : PO X (some st) ts) : PE X (.Subscript e (.Slice none none (some st) p2) pos) (tRevL X.K te ts) := by
  refine ⟨fun pins s σ H Q I h => ?_⟩
  refine Subscript_ (thn (he.run pins s σ H _ I h) fun v s1 ⟨x, H1, I1, r1, q1⟩ => ?_)
  refine PySem.wpAny_Slice ?_
  rw [evalPart_none]
  refine wpAny_pure ?_
  refine wpAny_pure ?_
  refine thn (hst.run pins s1 σ H1 _ I1 q1) fun vt s2 ⟨l, H2, I2, pt, q2⟩ => ?_
  obtain ⟨rfl, q2⟩ := q2
  obtain ⟨lt, rfl, hlt⟩ := IsPart.raw pt
  cases lt with
  | none => cases hlt
  | some lt =>
    obtain ⟨i, u⟩ := lt
    have hi : i = -1 := Option.some.inj hlt
    subst hi
    have I4 : Inv X pins σ H2 { s2 with heap := s2.heap.push { cls := .type "slice", data := .fields #[.none, .none, partValue (some (-1, u))] } } := I2.kept (t' := s2.toks) fun b ob q => Heap.get?_push_of_some _ q
    rcases q2 with ⟨z, rfl, hz, q⟩ | ⟨a, xs, rfl, hs, q⟩
    · obtain ⟨t, rfl⟩ := r1
      have hg : wpAny (model X.prog X.w) X.A (getItem (.str z t) (.ref s2.heap.objs.size)) (EP X pins σ Q) X.xe { s2 with heap := s2.heap.push { cls := .type "slice", data := .fields #[.none, .none, partValue (some (-1, u))] } } := by
        refine wpAny_getItem_str_slice (l := none) (u := none) (st := some (-1, u)) ⟨_, Heap.get?_push_size _ rfl, rfl, rfl⟩ rfl ?_
        have e : sliceMade z t none none (some (-1, u)) = Made.str ⟨z.cps.toList.reverse.toArray⟩ := by
          unfold sliceMade slicePicked
          show (if ((-1 : Int) == 1 && _) = true then _ else _) = _
          rw [if_neg (by simp)]
          have := rev_idx z.cps.toList
          rw [Array.length_toList] at this
          congr 3
        rw [e]
        exact ⟨by show (z.cps.toList.reverse.toArray).size ≤ _; rw [List.size_toArray, List.length_reverse, Array.length_toList]; exact hz, .str _, H2, I4.tok _, ⟨_, rfl⟩, q⟩
      show wpAny (model X.prog X.w) X.A (subscriptTail e (.Slice none none (some st) p2) (.str z t) (.ref s2.heap.objs.size)) (EP X pins σ Q) X.xe { s2 with heap := s2.heap.push { cls := .type "slice", data := .fields #[.none, .none, partValue (some (-1, u))] } }
      exact tail_any (ops := [.ref s2.heap.objs.size, .str z t]) (typeIs_str _ _ _) F.slot_str_getitem.lookup hg (by with_unfolding_all rfl)
    · cases r1
      obtain ⟨its, r, ht, hz⟩ := I4.list hs
      have hlen := r.length
      have hg : wpAny (model X.prog X.w) X.A (getItem (.ref a) (.ref s2.heap.objs.size)) (EP X pins σ Q) X.xe { s2 with heap := s2.heap.push { cls := .type "slice", data := .fields #[.none, .none, partValue (some (-1, u))] } } := by
        refine wpAny_getItem_list_slice (vl := .none) (vu := .none) (vs := partValue (some (-1, u))) (lo := none) (hi := none) (st := some (-1)) ht.isList ⟨_, Heap.get?_push_size _ rfl, rfl, rfl⟩ .none .none pt (by decide) ?_ (by rw [List.size_toArray]; omega)
        rw [down_pick]
        refine ⟨.ref (s2.heap.push { cls := .type "slice", data := .fields #[.none, .none, partValue (some (-1, u))] }).objs.size, _, I4.laid (t' := s2.toks) (o := .lst xs.reverse) (fun b ob q => Heap.get?_push_of_some _ q) (Nat.le_refl _) ?_, rfl, q _ (I4.hok.fresh (Nat.le_refl _))⟩
        exact ⟨by rw [List.length_reverse]; exact hz, its.reverse, 0, vals_rev r, Heap.get?_push_size _ rfl⟩
      show wpAny (model X.prog X.w) X.A (subscriptTail e (.Slice none none (some st) p2) (.ref a) (.ref s2.heap.objs.size)) (EP X pins σ Q) X.xe { s2 with heap := s2.heap.push { cls := .type "slice", data := .fields #[.none, .none, partValue (some (-1, u))] } }
      exact tail_any (ops := [.ref a, .ref s2.heap.objs.size]) ht.isList.typeIs slot_list_getitem.lookup hg (by with_unfolding_all rfl)
def rRevL (K : PySem.W.Frag) : List V → Hp → VK → Prop := fun vs H Q => (∃ z : Str, vs = [.str z, .int (-1)] ∧ z.length ≤ sizeLine ∧ Q (.str ⟨z.cps.toList.reverse.toArray⟩) H) ∨
  ∃ (a : Addr) (xs : List V), vs = [.ref a, .int (-1)] ∧ SqL K H a xs ∧ ∀ p, H p = none → Q (.ref p) (upd H p (.lst xs.reverse))
def revLD : List D → Option (Bool × D)
  | [.str s, .int i] => if s.length ≤ sizeLine ∧ i = -1 then some (false, .str ⟨s.cps.toList.reverse.toArray⟩) else none
  | [.lst ds, .int i] => if i = -1 then some (true, .lst ds.reverse) else none
  | _ => none
theorem repL_rev {K : PySem.W.Frag} {U : Addr → Prop} {H : Hp} : ∀ {ds : List D} {vs : List V}, RepL K U H ds vs → RepL K U H ds.reverse vs.reverse
  | [], vs, h => by
    rw [h.nil_inv]
    exact RepL.nil
  | d :: ds, vs, h => by
    obtain ⟨v, r, rfl, h1, h2⟩ := h.inv
    rw [List.reverse_cons, List.reverse_cons]
    exact RepL.app (repL_rev h2) (RepL.cons h1 RepL.nil)
theorem prim_revL {K : PySem.W.Frag} : Prim K (rRevL K) revLD := by
  intro U H ds vs Q b d hU ar e post
  unfold revLD at e
  split at e
  · split at e
    · rename_i h
      cases e
      obtain ⟨v, w, rfl, h1, h2⟩ := ar2 ar
      rw [arStr h1, arInt h2, h.2]
      exact .inl ⟨_, rfl, h.1, post _ H (Ext.refl H) (fun _ => repStr) (fun z => by cases z)⟩
    · cases e
  · split at e
    · rename_i h
      cases e
      obtain ⟨v, w, rfl, h1, h2⟩ := ar2 ar
      obtain ⟨p, ys, rfl, hp, r⟩ := arLst h1
      rw [arInt h2, h]
      exact .inr ⟨p, ys, rfl, SqL.of hp, fun q hq => post _ _ (ext_new hq) (fun z => by cases z) (fun _ => newLst hq (repL_rev r))⟩
    · cases e
  · cases e
theorem e_revL {X : Cx} {W : WX} {e st : Expr} {f g : M R} {p2 pos : Pos} (he : PE X e (RdE X.K W f)) (hs : PE X st (RdE X.K W g)) : PE X (.Subscript e (.Slice none none (some st) p2) pos) (RdE X.K W (opF revLD (two f g))) :=
  pe_imp (pe_revL he (po_some hs)) fun σ H Q m => by
    refine RdE.mono (fun v H1 h => ?_) (imp2 (opImp prim_revL m))
    refine RdE.mono (fun w H2 h => ?_) h
    rcases h with ⟨z, hz, h1, h2⟩ | ⟨a, xs, hz, h1, h2⟩
    · cases hz
      exact ⟨-1, rfl, rfl, .inl ⟨z, rfl, h1, h2⟩⟩
    · cases hz
      exact ⟨-1, rfl, rfl, .inr ⟨a, xs, rfl, h1, h2⟩⟩
theorem revL_lst {ds : List D} : revLD [.lst ds, .int (-1)] = some (true, .lst ds.reverse) := rfl
theorem revL_tx {l : List Nat} (h : l.length ≤ 16777216) : revLD [.str (tx l), .int (-1)] = some (false, .str (tx l.reverse)) := by
  show (if (tx l).length ≤ 16777216 ∧ (-1 : Int) = -1 then _ else _) = _
  rw [if_pos ⟨by rw [tx_len]; exact h, rfl⟩]
  simp [tx]
end PyD

section
set_option maxHeartbeats 4000000
/-! enumerate of a tuple -/
namespace PySem
open Sem (wp)
open AutoSeq1 (wpAny_loadPart')
theorem enum_new_tup (p : Addr) (xs : Array Value) (m : Nat) (dd : Option Addr) (ss : Array (Option Value)) :
    Meets (Builtin.«enumerate.__new__» ⟨[.type "enumerate", .ref p], []⟩) (fun _ R s => s.heap.get? p = some { cls := .type "tuple", dict := dd, data := .seq xs m, slots := ss } ∧
      R (.ok (.ret (.ref (s.heap.push { cls := .type "tuple_iterator", data := .fields #[.ref p, .int 0 0] }).objs.size))) { s with heap := (s.heap.push { cls := .type "tuple_iterator", data := .fields #[.ref p, .int 0 0] }).push { cls := .type "enumerate", data := .fields #[.none, .bool false, .ref s.heap.objs.size, rawInt 0, .none, .none] } }) :=
  .of_wp fun prog w A R s h => by
    obtain ⟨h0, g0, d0, t0, o0⟩ := s; obtain ⟨hp, h⟩ := h
    have hsb := sub_enumerate
    have hT : Heap.IsTuple (Shared.heap ⟨h0, g0, d0, t0, o0⟩) p xs := ⟨_, hp, rfl, m, rfl⟩
    wp_walk using wpAny_loadPart' hp
    refine wpAny_stack_any fun st => wpAny_pure ?_
    split
    · rename_i c _ _ _ _ _
      cases (c == Value.type "enumerate")
      · wp_walk using wpAny_loadPart' hp, wpAny_pyIter_tuple hT
        exact ⟨_, rfl, h⟩
      · wp_walk using wpAny_loadPart' hp, wpAny_pyIter_tuple hT
        exact ⟨_, rfl, h⟩
    · wp_walk using wpAny_loadPart' hp, wpAny_pyIter_tuple hT
      exact ⟨_, rfl, h⟩
theorem call_enum_tup {prog : Program} {w : World} {A : Around} {E : Value → Shared → Prop} {s : Shared} {p : Addr} {xs : Array Value} {Q : Value → Shared → Prop} (hT : s.heap.IsTuple p xs)
    (q : ∀ g, IsEnum g (s.heap.objs.size + 1) s.heap.objs.size 0 .none → g.IsTupleIter s.heap.objs.size p 0 → (∀ b o, s.heap.get? b = some o → g.get? b = some o) → Q (.ref (s.heap.objs.size + 1)) { s with heap := g }) :
    wpAny (model prog w) A (call (.type "enumerate") [.ref p]) Q E s := by
  obtain ⟨⟨c, dd, dt, ss⟩, hp, e1, m, e2⟩ := hT
  replace e1 : c = .type "tuple" := e1
  replace e2 : dt = .seq xs m := e2
  subst e1 e2
  refine callType_new F.called_enumerate (by decide) (F.typeCall_enumerate_1 _) (F.newCall_enumerate_1 _) (fun ob => F.args_object_init_2 ob _) F.entry_enumerate_new (enum_new_tup p xs m dd ss) ⟨hp, ?_⟩
  have hz : (s.heap.push { cls := .type "tuple_iterator", data := .fields #[.ref p, .int 0 0] }).objs.size = s.heap.objs.size + 1 := Heap.size_push ..
  show _ ∧ _
  rw [hz]
  have he : IsEnum ((s.heap.push { cls := .type "tuple_iterator", data := .fields #[.ref p, .int 0 0] }).push { cls := .type "enumerate", data := .fields #[.none, .bool false, .ref s.heap.objs.size, rawInt 0, .none, .none] }) (s.heap.objs.size + 1) s.heap.objs.size 0 .none := by
    have z := Heap.get?_push_size (s.heap.push { cls := .type "tuple_iterator", data := .fields #[.ref p, .int 0 0] }) (o := { cls := .type "enumerate", data := .fields #[.none, .bool false, .ref s.heap.objs.size, rawInt 0, .none, .none] }) rfl
    rw [hz] at z; exact z
  exact ⟨⟨_, he, rfl⟩, q _ he ⟨_, Heap.get?_push_of_some _ (Heap.get?_push_size _ rfl), rfl, rfl⟩ fun b o z => Heap.get?_push_of_some _ (Heap.get?_push_of_some _ z)⟩
end PySem
namespace PyD
open PySem PySem.Spec L2 PyProof.Rows
theorem done_enumT {prog : Program} {w : World} {A : Around} {E : Value → Shared → Prop} {s : Shared} {e it t : Addr} {i : Nat} {items : Array Value} {old : Value} {Q : Option Value → Shared → Prop} (hh : A.handled = none)
    (he : IsEnum s.heap e it i old) (hit : s.heap.IsTupleIter it t i) (ht : s.heap.IsTuple t items) (hx : items[i]? = none) (hne : t ≠ it)
    (q : ∀ g, Heap.ExtBut it s.heap g → Q none { s with heap := g }) : wpAny (model prog w) A (pyNext (.ref e)) Q E s := by
  have hh1 : A.in1.handled = none := by simp [hh]
  have D : Draws prog w A.in1 it [it, t] i (fun _ _ => True) (fun j h => j = i ∧ h.IsTupleIter it t i ∧ h.IsTuple t items) :=
    { live := fun _ _ st => let ⟨o, ho, _⟩ := st.2.1; ⟨o, ho⟩
      frame := fun _ _ _ st hk => ⟨st.1, st.2.1.at fun o e => hk it (by simp) o e, st.2.2.at fun o e => hk t (by simp) o e⟩
      item := fun j s Q E hj st hQ => absurd st.1 (Nat.ne_of_lt hj)
      done := fun s Q E st hE => wpAny_nextOf_tuple_end hh1 st.2.1 st.2.2 hx hE }
  exact wpAny_pyNext_enum_endD D he ⟨rfl, hit, ht⟩ q
def IteT (K : PySem.W.Frag) (a : Addr) : It :=
  ⟨fun i H => ∃ (xs : List V) (x : V), SqT K H a xs ∧ xs[i]? = some x, fun i H v H' => ∃ T x, v = .ref T ∧ H T = none ∧ H' = upd H T (.tup [.int (i : Nat), x]) ∧ ∀ xs, SqT K H a xs → xs[i]? = some x, fun i H => ∃ xs : List V, SqT K H a xs ∧ xs.length ≤ i⟩
theorem turn_enumT {P : Program} {w : World} {K : PySem.W.Frag} {elts : List Expr} {kk : Nat} {tpos : Pos} (a e it : Addr) :
    Turn P w K (.Tuple elts kk tpos) (IteT K a) [e, it] e (fun i h => (∃ old, IsEnum h e it ((i : Nat) : Int) old) ∧ h.IsTupleIter it a i ∧ e ≠ it) where
  mem := by simp
  obj := fun i h st b hb => by
    obtain ⟨⟨old, he⟩, ⟨o, ho, hc, hd⟩, _⟩ := st
    have e' : b = e ∨ b = it := by simpa using hb
    rcases e' with z | z
    · rw [z]; exact ⟨_, he, fun v q => nomatch q⟩
    · rw [z]; exact ⟨o, ho, fun v q => by rw [hd] at q; cases q⟩
  keep := fun i h h' st k => let ⟨⟨old, he⟩, hi, hne⟩ := st; ⟨⟨old, k e (by simp) _ he⟩, hi.at fun o q => k it (by simp) o q, hne⟩
  item := by
    intro X hP hw hK hc i pins s σ H E I hf st hg
    subst hP hw hK
    obtain ⟨⟨old, he⟩, hit, hne⟩ := st
    obtain ⟨xs, x, hq, hx⟩ := hg
    obtain ⟨its, rv, p, hz⟩ := I.tuple hq
    obtain ⟨u, hu, ru⟩ := rv.get hx
    have hel : e < s.heap.objs.size := Heap.lt_size he
    have hil : it < s.heap.objs.size := by obtain ⟨_, q, _⟩ := hit; exact Heap.lt_size q
    have pt : s.heap.IsTuple a its.toArray := p
    have hai : a ≠ it := fun z => by
      obtain ⟨o1, q1, c1, _⟩ := pt
      obtain ⟨o2, q2, c2, _⟩ := hit
      rw [z, q2] at q1
      cases q1
      rw [c2] at c1
      exact absurd (Value.type.inj c1) (by decide)
    have hae : a ≠ e := fun z => by
      obtain ⟨o1, q1, c1, _⟩ := pt
      have q2 := he
      unfold IsEnum at q2
      rw [z, q2] at q1
      cases q1
      exact absurd (Value.type.inj c1) (by decide)
    have hh : X.A.in1.handled = none := by
      have := I.ok.hd hc
      simp [this]
    refine wpAny_pyNext_enum_itemD (Draws.tuple (prog := X.prog) (w := X.w) hh it a hai its.toArray) he ⟨hit, pt⟩ (by rw [List.size_toArray]; exact (List.getElem?_eq_some_iff.mp hu).1) hne (fun z => ?_) fun y h' tk hy ho st' hT hsz hk => ?_
    · rcases List.mem_cons.mp z with z | z
      · exact hne z
      · exact hae (List.mem_singleton.mp z).symm
    have hyu : y = u := by
      have hy : its.toArray[i]? = some y := hy
      rw [List.getElem?_toArray, hu] at hy
      exact (Option.some.inj hy).symm
    subst hyu
    refine ⟨_, rfl, wpAny_letOwnedTupleGo_enum (s := { s with heap := h', toks := tk + 1 }) ho fun h'' he' sb => ?_⟩
    have hT2 : h''.get? s.heap.objs.size = some { cls := .type "tuple", data := .seq #[.int i tk, y] } := (sb.2 _ (Nat.ne_of_gt hel)).trans hT
    have new : ObjOk X.prog X.w (upd H s.heap.objs.size (.tup [.int (i : Nat), x])) h'' s.heap.objs.size (.tup [.int (i : Nat), x]) :=
      ⟨by show 2 ≤ sizeLine; decide, [.int i tk, y], .cons ⟨_, rfl⟩ (.cons ru .nil), ⟨_, hT2, rfl, _, rfl⟩⟩
    have I1 : Inv X pins σ (upd H s.heap.objs.size (.tup [.int (i : Nat), x])) { s with heap := h'', toks := tk + 1 } :=
      I.turnedNew (ch := [e, it]) (fun b ob hb q => (sb.2 b (fun z => hb (by simp [z]))).trans (hk b ob (fun z => hb (by simp [z])) (fun z => hb (by simp [z])) q)) hf (Nat.le_refl _) new
    refine ⟨.ref s.heap.objs.size, _, I1, rfl, ⟨_, x, rfl, I.hok.fresh (Nat.le_refl _), rfl, fun ys hy => by rw [I.tuple_inj hy hq]; exact hx⟩, ⟨⟨y, ?_⟩, st'.1.at fun o q => (sb.2 it (Ne.symm hne)).trans q, hne⟩, fun b hb => ?_⟩
    · rw [show ((i + 1 : Nat) : Int) = (i : Int) + 1 by omega]; exact he'
    · have hb' : b < s.heap.objs.size := by
        have e' : b = e ∨ b = it := by simpa using hb
        rcases e' with z | z
        · rw [z]; exact hel
        · rw [z]; exact hil
      rw [upd_ne (Nat.ne_of_lt hb')]
      exact (hf b hb).1
  done := by
    intro X hP hw hK hc i pins s σ H E I hf st hg
    subst hP hw hK
    obtain ⟨⟨old, he⟩, hit, hne⟩ := st
    obtain ⟨xs, hq, hx⟩ := hg
    obtain ⟨its, rv, p, hz⟩ := I.tuple hq
    obtain ⟨f0, f1, f2, f3, f4, f5⟩ := hf it (by simp)
    have hlen := rv.length
    have pt : s.heap.IsTuple a its.toArray := p
    have hai : a ≠ it := fun z => by
      obtain ⟨o1, q1, c1, _⟩ := pt
      obtain ⟨o2, q2, c2, _⟩ := hit
      rw [z, q2] at q1
      cases q1
      rw [c2] at c1
      exact absurd (Value.type.inj c1) (by decide)
    exact done_enumT (I.ok.hd hc) he hit pt (by simp; omega) hai fun h' eb => ⟨rfl, I.turned (t' := s.toks) (fun b o hb q => eb b o hb q) f0 f1 f3 f4 f5⟩
  self := fun A i s Q E st h => let ⟨⟨_, he⟩, _⟩ := st; wpAny_pyIter_enum he h
def iEnumT (K : PySem.W.Frag) (ta : TA) : TI := fun σ H R => ta σ H fun vs H1 => ∃ a xs, vs = [.ref a] ∧ ((SqL K H1 a xs ∧ R (Ite K a) H1) ∨ (SqT K H1 a xs ∧ R (IteT K a) H1))
theorem pi_enumT {X : Cx} {e : Expr} {ta : TA} {p pos tpos : Pos} {elts : List Expr} {kk : Nat} (hg : Gl X "enumerate") (hm : X.mg "enumerate" = none) (ha : PA X [e] ta) (hs : starEach [e] X.env = [(false, eval e X.env)] := by rfl) :
    PI X (.Tuple elts kk tpos) (.Call (.Name "enumerate" p) [e] [] pos) (iEnumT X.K ta) := by
  refine ⟨fun pins s σ H R I h => ?_⟩
  refine Call_ (ld_blt I hg hm boot_enumerate (PyProof.Rows.callWith_type1 (thn (ha.run pos pins s σ H _ I h) fun us s1 ⟨vs, H1, I1, r1, q1⟩ => ?_) hs rfl))
  obtain ⟨a, xs, rfl, hq⟩ := q1
  rw [Vals.ref1 r1]
  have two : ∀ b, b ∈ [s1.heap.objs.size + 1, s1.heap.objs.size] → s1.heap.objs.size ≤ b := fun b hb => by
    have e' : b = s1.heap.objs.size + 1 ∨ b = s1.heap.objs.size := by simpa using hb
    rcases e' with z | z
    · rw [z]; exact Nat.le_add_right _ _
    · rw [z]; exact Nat.le_refl _
  rcases hq with ⟨hq, q⟩ | ⟨hq, q⟩
  · obtain ⟨its, rv, p', hz⟩ := I1.list hq
    refine call_enumerate_list p'.isList fun g he hit hsz hk => wpAny_pyIter_enum he ?_
    exact ⟨s1.heap.objs.size + 1, [s1.heap.objs.size + 1, s1.heap.objs.size], _, _, H1, rfl, I1.kept (t' := s1.toks) hk, turn_enum a (s1.heap.objs.size + 1) s1.heap.objs.size, ⟨⟨.none, he⟩, hit, Nat.succ_ne_self _⟩, fun b hb => I1.fpOk (two b hb) (I1.hok.fresh (two b hb)), q⟩
  · obtain ⟨its, rv, p', hz⟩ := I1.tuple hq
    refine call_enum_tup (show s1.heap.IsTuple a its.toArray from p') fun g he hit hk => wpAny_pyIter_enum he ?_
    exact ⟨s1.heap.objs.size + 1, [s1.heap.objs.size + 1, s1.heap.objs.size], _, _, H1, rfl, I1.kept (t' := s1.toks) hk, turn_enumT a (s1.heap.objs.size + 1) s1.heap.objs.size, ⟨⟨.none, he⟩, hit, Nat.succ_ne_self _⟩, fun b hb => I1.fpOk (two b hb) (I1.hok.fresh (two b hb)), q⟩
end PyD

end

namespace PyD
open PySem PySem.Spec L2 PyProof.Rows
theorem wd_enumT {K : PySem.W.Frag} {U : Addr → Prop} {H : Hp} {ds : List D} {a : Addr} {vs : List V} (q : ∀ H1, Kp U H H1 → SqT K H1 a vs) (r : RepL K U H ds vs) : WalkD K U H (IteT K a) (enumL ds) where
  go := fun i H1 k hi => by
    have hl := r.len
    have hi' : i < ds.length := by simpa [enumL] using hi
    exact ⟨vs, vs[i], q H1 k, by simp [hl, hi']⟩
  stop := fun H1 k => ⟨vs, q H1 k, by rw [r.len]; simp [enumL]⟩
  yld := fun i H1 x H2 d k e y => by
    obtain ⟨T, x0, rfl, hT, rfl, y⟩ := y
    obtain ⟨d0, e0, rfl⟩ := enumL_get e
    obtain ⟨v, ev, rv⟩ := r.get e0
    have := y vs (q _ k)
    rw [ev] at this
    cases this
    exact ⟨ext_new hT, fun U1 h1 h2 => pair_rep hT h2 repInt (wd_rep k rv h1)⟩
def enumTD : List D → Option (List D)
  | [.lst ds] => some (enumL ds)
  | [.scr ns] => some (enumL (ns.map .int))
  | [.tup ds] => some (enumL ds)
  | _ => none
def rEnumT (K : PySem.W.Frag) : List V → Hp → (It → Hp → Prop) → Prop := fun vs H1 R => ∃ a xs, vs = [.ref a] ∧ ((SqL K H1 a xs ∧ R (Ite K a) H1) ∨ (SqT K H1 a xs ∧ R (IteT K a) H1))
theorem prim_enumT {K : PySem.W.Frag} : PrimI K (rEnumT K) enumTD := by
  intro U H ds vs out Rr hU rl e q
  unfold enumTD at e
  split at e
  · obtain ⟨v, rfl, r⟩ := rl1 rl
    unfold Rep at r
    obtain ⟨a, us, rfl, nu, ha, r⟩ := r
    cases e
    exact ⟨a, us, rfl, .inl ⟨SqL.of ha, q _ (wd_enum (fun H1 k => SqL.of (k a _ ha nu)) r)⟩⟩
  · obtain ⟨v, rfl, r⟩ := rl1 rl
    obtain ⟨p, rfl, s⟩ := scr_sq r
    cases e
    exact ⟨p, _, rfl, .inl ⟨s H (Kp.refl U H), q _ (wd_enum s (RepL.ofInts _))⟩⟩
  · obtain ⟨v, rfl, r⟩ := rl1 rl
    unfold Rep at r
    obtain ⟨a, us, rfl, nu, ha, r⟩ := r
    cases e
    exact ⟨a, us, rfl, .inr ⟨SqT.of ha, q _ (wd_enumT (fun H1 k => SqT.of (k a _ ha nu)) r)⟩⟩
  · cases e
theorem i_enumT {X : Cx} {W : WX} {e : Expr} {fs : M (List R)} {p pos tpos : Pos} {elts : List Expr} {kk : Nat} (hg : Gl X "enumerate") (hm : X.mg "enumerate" = none) (ha : PA X [e] (RdA X.K W fs)) (hs : starEach [e] X.env = [(false, eval e X.env)] := by rfl) :
    PI X (.Tuple elts kk tpos) (.Call (.Name "enumerate" p) [e] [] pos) (RdI X.K W (itA enumTD fs)) :=
  pi_imp (pi_enumT hg hm ha hs) fun σ H Rr m => itAImp prim_enumT m
theorem enumT_lst {ds : List D} : enumTD [.lst ds] = some (enumL ds) := rfl
theorem enumT_tup {ds : List D} : enumTD [.tup ds] = some (enumL ds) := rfl
end PyD

section
set_option maxHeartbeats 4000000
/-! zip of a tuple with a list -/
namespace PyD
open PySem PySem.Spec L2 PyProof.Rows
def ItzM (K : PySem.W.Frag) (a b : Addr) : It :=
  ⟨fun i H => ∃ (xs ys : List V) (x y : V), SqT K H a xs ∧ SqL K H b ys ∧ xs[i]? = some x ∧ ys[i]? = some y, fun i H v H' => ∃ T x y, v = .ref T ∧ H T = none ∧ H' = upd H T (.tup [x, y]) ∧ (∀ xs, SqT K H a xs → xs[i]? = some x) ∧ ∀ ys, SqL K H b ys → ys[i]? = some y,
    fun i H => ∃ xs ys : List V, SqT K H a xs ∧ SqL K H b ys ∧ i ≤ xs.length ∧ i ≤ ys.length ∧ (i = xs.length ∨ i = ys.length)⟩
theorem turn_zipM {P : Program} {w : World} {K : PySem.W.Frag} {elts : List Expr} {kk : Nat} {tpos : Pos} {a b z TI TO i1 i2 : Addr} (D : ZipSep2 z TI TO i1 i2 [i1, a] [i2, b]) (ha : a ≠ i1) (hb : b ≠ i2) :
    Turn P w K (.Tuple elts kk tpos) (ItzM K a b) [z, TI, TO, i1, i2] z (fun i h => IsZip h z TI TO .none ∧ IsTupOf2 h TI (.ref i1) (.ref i2) ∧ (∃ x y, IsTupOf2 h TO x y) ∧ h.IsTupleIter i1 a i ∧ h.IsListIter i2 b i) where
  mem := by simp
  obj := fun i h st c hc => by
    obtain ⟨hz, hTI, ⟨x, y, hTO⟩, ⟨o1, e1, _, d1⟩, ⟨o2, e2, _, d2⟩⟩ := st
    have e' : c = z ∨ c = TI ∨ c = TO ∨ c = i1 ∨ c = i2 := by simpa using hc
    rcases e' with q | q | q | q | q
    · rw [q]; exact ⟨_, hz, fun v q => nomatch q⟩
    · rw [q]; exact ⟨_, hTI, fun v q => nomatch q⟩
    · rw [q]; exact ⟨_, hTO, fun v q => nomatch q⟩
    · rw [q]; exact ⟨o1, e1, fun v q => by rw [d1] at q; cases q⟩
    · rw [q]; exact ⟨o2, e2, fun v q => by rw [d2] at q; cases q⟩
  keep := fun i h h' st k => by
    obtain ⟨hz, hTI, ⟨x, y, hTO⟩, h1, h2⟩ := st
    exact ⟨k z (by simp) _ hz, k TI (by simp) _ hTI, ⟨x, y, k TO (by simp) _ hTO⟩, h1.at fun o q => k i1 (by simp) o q, h2.at fun o q => k i2 (by simp) o q⟩
  item := by
    intro X hP hw hK hc i pins s σ H E I hf st hg
    subst hP hw hK
    obtain ⟨hz, hTI, ⟨x0, y0, hTO⟩, h1, h2⟩ := st
    obtain ⟨xs, ys, x, y, hqx, hqy, hx, hy⟩ := hg
    obtain ⟨its, rv, p, _⟩ := I.tuple hqx
    obtain ⟨its2, rv2, p2, _⟩ := I.list hqy
    obtain ⟨u, hu, ru⟩ := rv.get hx
    obtain ⟨u2, hu2, ru2⟩ := rv2.get hy
    have hzl : z < s.heap.objs.size := Heap.lt_size hz
    have hh : X.A.in1.handled = none := by
      have := I.ok.hd hc
      simp [this]
    refine wpAny_pyNext_zipD2_item D (Draws.tuple (prog := X.prog) (w := X.w) hh i1 a ha its.toArray) (Draws.list (prog := X.prog) (w := X.w) hh i2 b hb its2.toArray) hz hTI hTO ⟨h1, p⟩ ⟨h2, p2.isList⟩ (by rw [List.size_toArray]; exact (List.getElem?_eq_some_iff.mp hu).1) (by rw [List.size_toArray]; exact (List.getElem?_eq_some_iff.mp hu2).1) fun v1 v2 h' tk e1 e2 z' TO' st1 st2 hT hsz hk => ?_
    have ev1 : v1 = u := by
      have e1 : its.toArray[i]? = some v1 := e1
      rw [List.getElem?_toArray, hu] at e1
      exact (Option.some.inj e1).symm
    have ev2 : v2 = u2 := by
      have e2 : its2.toArray[i]? = some v2 := e2
      rw [List.getElem?_toArray, hu2] at e2
      exact (Option.some.inj e2).symm
    subst ev1 ev2
    refine ⟨_, rfl, wpAny_letOwnedTupleGo_zip (s := { s with heap := h', toks := tk }) z' fun h'' z'' sb => ?_⟩
    have hT2 : h''.get? s.heap.objs.size = some { cls := .type "tuple", data := .seq #[v1, v2] } := (sb.2 _ (Nat.ne_of_gt hzl)).trans hT
    have new : ObjOk X.prog X.w (upd H s.heap.objs.size (.tup [x, y])) h'' s.heap.objs.size (.tup [x, y]) :=
      ⟨by show 2 ≤ sizeLine; decide, [v1, v2], .cons ru (.cons ru2 .nil), ⟨_, hT2, rfl, _, rfl⟩⟩
    have I1 : Inv X pins σ (upd H s.heap.objs.size (.tup [x, y])) { s with heap := h'', toks := tk } :=
      I.turnedNew (t' := tk) (ch := [z, TI, TO, i1, i2]) (fun c o hb q => (sb.2 c (fun q' => hb (by simp [q']))).trans (hk c o (fun q' => hb (by simp [q'])) (fun q' => hb (by simp [q'])) (fun q' => hb (by simp [q'])) (fun q' => hb (by simp [q'])) q)) hf (Nat.le_refl _) new
    refine ⟨.ref s.heap.objs.size, _, I1, rfl, ⟨_, x, y, rfl, I.hok.fresh (Nat.le_refl _), rfl, fun l hl => by rw [I.tuple_inj hl hqx]; exact hx, fun l hl => by rw [I.list_inj hl hqy]; exact hy⟩, ⟨z'', ?_, ⟨v1, v2, ?_⟩, ?_, ?_⟩, fun c hcm => ?_⟩
    · exact (sb.2 _ D.TIz).trans (hk _ _ D.TIz D.TITO D.TIi1 D.TIi2 hTI)
    · exact (sb.2 _ D.TOz).trans TO'
    · exact st1.1.at fun o q => (sb.2 _ (Ne.symm D.zi1)).trans q
    · exact st2.1.at fun o q => (sb.2 _ (Ne.symm D.zi2)).trans q
    · have hlt : c < s.heap.objs.size := by
        have e' : c = z ∨ c = TI ∨ c = TO ∨ c = i1 ∨ c = i2 := by simpa using hcm
        rcases e' with q | q | q | q | q
        · rw [q]; exact hzl
        · rw [q]; exact Heap.lt_size hTI
        · rw [q]; exact Heap.lt_size hTO
        · rw [q]; obtain ⟨_, e1, _⟩ := h1; exact Heap.lt_size e1
        · rw [q]; obtain ⟨_, e2, _⟩ := h2; exact Heap.lt_size e2
      rw [upd_ne (Nat.ne_of_lt hlt)]
      exact (hf c hcm).1
  done := by
    intro X hP hw hK hc i pins s σ H E I hf st hg
    subst hP hw hK
    obtain ⟨hz, hTI, ⟨x0, y0, hTO⟩, h1, h2⟩ := st
    obtain ⟨xs, ys, hqx, hqy, hi1, hi2, hend⟩ := hg
    obtain ⟨its, rv, p, _⟩ := I.tuple hqx
    obtain ⟨its2, rv2, p2, _⟩ := I.list hqy
    have l1 := rv.length
    have l2 := rv2.length
    have hh : X.A.in1.handled = none := by
      have := I.ok.hd hc
      simp [this]
    exact wpAny_pyNext_zipD2_end D (Draws.tuple (prog := X.prog) (w := X.w) hh i1 a ha its.toArray) (Draws.list (prog := X.prog) (w := X.w) hh i2 b hb its2.toArray) hz hTI hTO ⟨h1, p⟩ ⟨h2, p2.isList⟩ (by rw [List.size_toArray]; omega) (by rw [List.size_toArray]; omega) (by rw [List.size_toArray, List.size_toArray]; omega) fun h' tk hk => ⟨rfl, I.turnedL (t' := tk) (ch := [z, TI, TO, i1, i2]) (fun c o hb q =>
      hk c o (fun q' => hb (by simp [q'])) (fun q' => hb (by simp [q'])) (fun q' => hb (by simp [q'])) (fun q' => hb (by simp [q'])) q) hf⟩
  self := fun A i s Q E st h => wpAny_pyIter_zip st.1 h
def iZipM (K : PySem.W.Frag) (ta : TA) : TI := fun σ H R => ta σ H fun vs H1 => ∃ a b xs ys, vs = [.ref a, .ref b] ∧ SqT K H1 a xs ∧ SqL K H1 b ys ∧ R (ItzM K a b) H1
theorem pi_zipM {X : Cx} {e e2 : Expr} {ta : TA} {p pos tpos : Pos} {elts : List Expr} {kk : Nat} (hg : Gl X "zip") (hm : X.mg "zip" = none) (ha : PA X [e, e2] ta)
    (hs : starEach [e, e2] X.env = (false, eval e X.env) :: starEach [e2] X.env := by rfl) (hpl : (backTo pos (starEach [e2] X.env)).any (·.1) = false := by rfl) :
    PI X (.Tuple elts kk tpos) (.Call (.Name "zip" p) [e, e2] [] pos) (iZipM X.K ta) := by
  refine ⟨fun pins s σ H R I h => ?_⟩
  refine Call_ (ld_blt I hg hm PyProof.Rows.boot_zip (PyProof.Rows.callWith_type1 (thn (ha.run pos pins s σ H _ I h) fun us s1 ⟨vs, H1, I1, r1, q1⟩ => ?_) hs hpl))
  obtain ⟨a, b, xs, ys, rfl, hqx, hqy, q⟩ := q1
  cases r1 with
  | cons r rr =>
    cases rr with
    | cons r' rr =>
      cases rr
      cases r
      cases r'
      obtain ⟨its, rv, p1, _⟩ := I1.tuple hqx
      obtain ⟨its2, rv2, p2, _⟩ := I1.list hqy
      obtain ⟨o1, ho1, _⟩ := id p1
      have la : a < s1.heap.objs.size := Heap.lt_size ho1
      have lb : b < s1.heap.objs.size := p2.lt
      have sep := zip_sep2 (N := s1.heap.objs.size) (fp1 := [a]) (fp2 := [b]) (fun c hc => by rw [List.mem_singleton.mp hc]; exact la) (fun c hc => by rw [List.mem_singleton.mp hc]; exact lb)
      refine zip_begins2 (begins_tuple a its.toArray) (begins_list b its2.toArray) (show s1.heap.IsTuple a its.toArray from p1) p2.isList fun g hz hTI hTO h1 h2 hsz hk => wpAny_pyIter_zip hz ?_
      refine ⟨s1.heap.objs.size + 4, [s1.heap.objs.size + 4, s1.heap.objs.size + 2, s1.heap.objs.size + 3, s1.heap.objs.size, s1.heap.objs.size + 1], _, _, H1, rfl, I1.kept (t' := s1.toks) hk, turn_zipM sep (Nat.ne_of_lt la) (Nat.ne_of_lt (Nat.lt_succ_of_lt lb)), ⟨hz, hTI, ⟨_, _, hTO⟩, ⟨_, h1, rfl, rfl⟩, ⟨_, h2, rfl, rfl⟩⟩, fun c hcm => ?_, q⟩
      have hle : s1.heap.objs.size ≤ c := by
        have e' : c = s1.heap.objs.size + 4 ∨ c = s1.heap.objs.size + 2 ∨ c = s1.heap.objs.size + 3 ∨ c = s1.heap.objs.size ∨ c = s1.heap.objs.size + 1 := by simpa using hcm
        rcases e' with w | w | w | w | w
        · rw [w]; exact Nat.le_add_right _ _
        · rw [w]; exact Nat.le_add_right _ _
        · rw [w]; exact Nat.le_add_right _ _
        · rw [w]; exact Nat.le_refl _
        · rw [w]; exact Nat.le_add_right _ _
      exact I1.fpOk hle (I1.hok.fresh hle)
theorem wd_zipM {K : PySem.W.Frag} {U : Addr → Prop} {H : Hp} {a b : Addr} {as bs : List D} {vs us : List V} (q : ∀ H1, Kp U H H1 → SqT K H1 a vs) (q' : ∀ H1, Kp U H H1 → SqL K H1 b us) (r : RepL K U H as vs) (r' : RepL K U H bs us) : WalkD K U H (ItzM K a b) (zipL as bs) where
  go := fun i H1 k hi => by
    have hl := r.len
    have hl' := r'.len
    have hi' : i < as.length ∧ i < bs.length := by simp [zipL] at hi; omega
    exact ⟨vs, us, vs[i], us[i], q H1 k, q' H1 k, by simp [hl, hi'.1], by simp [hl', hi'.2]⟩
  stop := fun H1 k => ⟨vs, us, q H1 k, q' H1 k, by rw [r.len]; simp [zipL]; omega, by rw [r'.len]; simp [zipL]; omega, by rw [r.len, r'.len]; simp [zipL]; omega⟩
  yld := fun i H1 x H2 d k e y => by
    obtain ⟨T, x0, y0, rfl, hT, rfl, y, y'⟩ := y
    obtain ⟨d0, d1, e0, e1, rfl⟩ := zipL_get e
    obtain ⟨v, ev, rv⟩ := r.get e0
    obtain ⟨v', ev', rv'⟩ := r'.get e1
    have h := y vs (q _ k)
    rw [ev] at h
    cases h
    have h := y' us (q' _ k)
    rw [ev'] at h
    cases h
    exact ⟨ext_new hT, fun U1 h1 h2 => pair_rep hT h2 (wd_rep k rv h1) (wd_rep k rv' h1)⟩
def zipMD : List D → Option (List D)
  | [.tup as, .lst bs] => some (zipL as bs)
  | _ => none
def rZipM (K : PySem.W.Frag) : List V → Hp → (It → Hp → Prop) → Prop := fun vs H1 R => ∃ a b xs ys, vs = [.ref a, .ref b] ∧ SqT K H1 a xs ∧ SqL K H1 b ys ∧ R (ItzM K a b) H1
theorem prim_zipM {K : PySem.W.Frag} : PrimI K (rZipM K) zipMD := by
  intro U H ds vs out Rr hU rl e q
  unfold zipMD at e
  split at e
  · obtain ⟨v, w, rfl, r, r'⟩ := rl2 rl
    unfold Rep at r r'
    obtain ⟨a, us, rfl, nu, ha, r⟩ := r
    obtain ⟨b, us', rfl, nu', hb, r'⟩ := r'
    cases e
    exact ⟨a, b, us, us', rfl, SqT.of ha, SqL.of hb, q _ (wd_zipM (fun H1 k => SqT.of (k a _ ha nu)) (fun H1 k => SqL.of (k b _ hb nu')) r r')⟩
  · cases e
theorem i_zipM {X : Cx} {W : WX} {e e2 : Expr} {fs : M (List R)} {p pos tpos : Pos} {elts : List Expr} {kk : Nat} (hg : Gl X "zip") (hm : X.mg "zip" = none) (ha : PA X [e, e2] (RdA X.K W fs)) (hs : starEach [e, e2] X.env = (false, eval e X.env) :: starEach [e2] X.env := by rfl) (hpl : (backTo pos (starEach [e2] X.env)).any (·.1) = false := by rfl) :
    PI X (.Tuple elts kk tpos) (.Call (.Name "zip" p) [e, e2] [] pos) (RdI X.K W (itA zipMD fs)) :=
  pi_imp (pi_zipM hg hm ha hs hpl) fun σ H Rr m => itAImp prim_zipM m
theorem zipM_ok {as bs : List D} : zipMD [.tup as, .lst bs] = some (zipL as bs) := rfl
end PyD

end

namespace PyD
open PySem PySem.Spec L2 PyProof.Rows
/-! an own thing read on as a shared one -/
theorem set_eqs : ∀ {σ : L2.St} {i : Nat} {v : Option V}, σ[i]? = some v → σ.set i v = σ
  | [], i, v, h => by simp at h
  | a :: r, 0, v, h => by
    rw [List.getElem?_cons_zero] at h
    rw [List.set_cons_zero, Option.some.inj h]
  | a :: r, i + 1, v, h => by
    rw [List.getElem?_cons_succ] at h
    rw [List.set_cons_succ, set_eqs h]
theorem e_dm {X : Cx} {W : WX} {pos : Pos} (i : Nat) {x : Str} (hN : X.N[i]? = some x := by rfl) (hv : Vis X.env.scope x := by first | exact Or.inl rfl | exact Or.inr (Or.inl rfl) | exact Or.inr (Or.inr rfl)) (hd : (x == ("__debug__" : Str)) = false := by decide)
    (hcd : (x == ("__classdict__" : Str)) = false := by decide) : PE X (.Name x pos) (RdE X.K W (dmF i)) := by
  refine pe_imp (pe_var (i := i) hN hv hd hcd) fun σ H Q ⟨B, en, G, m⟩ => ?_
  unfold dmF at m
  revert m
  cases e : en[i]? with
  | none => exact fun m => m.elim
  | some s =>
    cases s with
    | e => exact fun m => m.elim
    | v d =>
      intro m
      obtain ⟨v, s, r⟩ := G.rep i d e
      exact ⟨v, s, m v H ⟨B, Bx.refl B σ en H, G, r, trivial⟩ (Stp.refl σ en H)⟩
    | o b d =>
      cases b with
      | true => exact fun m => m.elim
      | false =>
        intro m
        obtain ⟨p, s, n, c⟩ := G.own i false d e
        have hi : i < (en.set i .e).length := by rw [List.length_set]; exact (List.getElem?_eq_some_iff.mp e).1
        have t : ∀ a, Un B σ (en.set i .e) a → Un B σ en a := fun a h => h.imp id own_set_e
        have np : ¬ Un B σ (en.set i .e) p := fun h => by
          rcases h with h | h
          · exact n h
          · exact (own_drop G e s (fun _ _ z => by cases z) h).2 rfl
        have r : Rep X.K (Un B σ (en.set i .e)) H d (.ref p) := Cont.rep np (Cont.to (fun a o x n => ⟨x, fun z => n (t a z)⟩) (fun _ x => x) c)
        have G2 := Good.set_v (G.moved e s) (B := B) (fun a h => .inl h) hi r
        rw [set_eqs s, List.set_set] at G2
        have ov : ∀ {a}, Own σ (en.set i (.v d)) a → Own σ en a := fun {a} h => (own_drop G e s (fun _ _ z => by cases z) h).1
        have r2 : Rep X.K (Un B σ (en.set i (.v d))) H d (.ref p) := by
          obtain ⟨v, s2, r2⟩ := G2.rep i d (by rw [List.getElem?_set_self (by rw [← List.length_set (i := i) (a := Sl.e)]; exact hi)])
          rw [s] at s2
          cases s2
          exact r2
        exact ⟨.ref p, s, m (.ref p) H ⟨B, Bx.refl B σ en H, G2, r2, trivial⟩ (Stp.drop (fun b d z => by cases z) (fun d' z => by rw [e] at z; cases z) fun a z => ov z)⟩
end PyD

section
set_option maxHeartbeats 4000000
namespace PyD
open PySem PySem.Spec L2 PyProof.Rows
/-! a dict written out: texts to texts -/
def dispF (kvs : List (Str × Str)) : M R := fun en => .ok (.fr (.dic (kvs.map fun p => ((Sum.inr p.1 : Key), D.str p.2)))) en
def cps (kvs : List (Str × Str)) : List (TE × TE) := kvs.map fun p => (tC (.str p.1), tC (.str p.2))
theorem tPairs_c : ∀ (kvs : List (Str × Str)) (σ : L2.St) (H : Hp) (Q : List (V × V) → Hp → Prop), Q (kvs.map fun p => (V.str p.1, V.str p.2)) H → tPairs (cps kvs) σ H Q
  | [], σ, H, Q, h => h
  | p :: r, σ, H, Q, h => tPairs_c r σ H (fun ps H3 => Q ((.str p.1, .str p.2) :: ps) H3) h
theorem putK_snoc {k : Key} {v : V} : ∀ {kvs : List (Key × V)}, ¬ k ∈ kvs.map (·.1) → putK kvs k v = kvs ++ [(k, v)] := fun {kvs} h => by
  refine putK_new v ?_
  induction kvs with
  | nil => rfl
  | cons p r ih =>
    rw [List.map_cons, List.mem_cons, not_or] at h
    rw [valV_neg (fun z => h.1 z.symm)]
    exact ih h.2
theorem mergeK_nd : ∀ (kvs acc : List (Key × V)), ((acc ++ kvs).map (·.1)).Nodup → mergeK acc kvs = acc ++ kvs
  | [], acc, _ => by simp [mergeK]
  | p :: r, acc, h => by
    have h0 := h
    rw [List.map_append, List.nodup_append] at h
    have hn : ¬ p.1 ∈ acc.map (·.1) := fun z => (h.2.2 _ z _ (by simp)) rfl
    show mergeK (putK acc p.1 p.2) r = _
    rw [putK_snoc hn, mergeK_nd r _ (by simpa using h0)]
    simp
theorem repK_disp {K : PySem.W.Frag} {U : Addr → Prop} {H : Hp} : ∀ (kvs : List (Str × Str)), RepK K U H (kvs.map fun p => ((Sum.inr p.1 : Key), D.str p.2)) (kvs.map fun p => ((Sum.inr p.1 : Key), V.str p.2))
  | [] => RepK.nil
  | p :: r => RepK.cons repStr (repK_disp r)
theorem nd_inr {l : List Str} (h : l.Nodup) : (l.map fun x => (Sum.inr x : Key)).Nodup := by
  induction l with
  | nil => simp
  | cons a r ih =>
    rw [List.nodup_cons] at h
    rw [List.map_cons, List.nodup_cons]
    refine ⟨fun z => ?_, ih h.2⟩
    obtain ⟨x, hx, e⟩ := List.mem_map.mp z
    cases e
    exact h.1 hx
theorem e_disp {X : Cx} {W : WX} {pos : Pos} {keys : List (Option Expr)} {values : List Expr} (kvs : List (Str × Str)) (h : PPs X pos keys values (cps kvs)) (hall : keys.all (·.isSome) = true) (hl : keys.length = values.length) (h0 : keys ≠ []) (h15 : keys.length ≤ 15)
    (hk : kvs.length ≤ 15) (hd : (kvs.map (·.1)).Nodup) : PE X (.Dict keys values pos) (RdE X.K W (dispF kvs)) :=
  pe_imp (pe_disp h hall hl h0 h15) fun σ H Q m => by
    obtain ⟨B, en, G, m⟩ := m
    intro p hp
    refine tPairs_c kvs _ _ _ (And.intro upd_same (Exists.intro (kvs.map fun p => ((Sum.inr p.1 : Key), V.str p.2)) (And.intro (by simp [kV]) (And.intro (by simpa using hk) ?_))))
    have e : mergeK [] (kvs.map fun p => ((Sum.inr p.1 : Key), V.str p.2)) = kvs.map fun p => ((Sum.inr p.1 : Key), V.str p.2) := by
      rw [mergeK_nd _ _ (by
        have := nd_inr hd
        simpa [Function.comp_def] using this)]
      rfl
    have e2 : ∀ o : HO, upd (upd H p (.dK [])) p o = upd H p o := fun o => by
      funext a
      by_cases z : a = p
      · rw [z, upd_same, upd_same]
      · rw [upd_ne z, upd_ne z, upd_ne z]
    rw [e, e2]
    refine m _ _ ⟨_, bxNew hp, newOwn hp G, ⟨p, rfl, .inr rfl, _, upd_same, repK_disp kvs⟩, ?_⟩ (Stp.ext (ext_new hp))
    intro q eq
    cases eq
    exact .inl hp
theorem pps_c {X : Cx} {pos : Pos} {k v k' v' : Str} {j j' p p'} {ks : List (Option Expr)} {vs : List Expr} {kvs : List (Str × Str)} (hk : k = k') (hv : v = v') (h : PPs X pos ks vs (cps kvs)) :
    PPs X pos (some (.Constant (.str k) j p) :: ks) (.Constant (.str v) j' p' :: vs) (cps ((k', v') :: kvs)) := by
  subst hk hv
  exact pps_cons pe_str pe_str h
theorem okE_disp {kvs : List (Str × Str)} {k : R → En → Prop} {x : Ex → En → Prop} {en : En} : okE (dispF kvs) en k x = k (.fr (.dic (kvs.map fun p => ((Sum.inr p.1 : Key), D.str p.2)))) en := rfl
end PyD

end

section
set_option maxHeartbeats 4000000
namespace PyD
open PySem PySem.Spec L2 PyProof.Rows
/-! len(set(x)), x a text -/
def dedS : List Nat → List Nat
  | [] => []
  | a :: r => if a ∈ r then dedS r else a :: dedS r
theorem dedS_mem {k : Nat} : ∀ {l : List Nat}, k ∈ dedS l ↔ k ∈ l
  | [] => Iff.rfl
  | a :: r => by
    unfold dedS
    split
    · rename_i h
      rw [dedS_mem, List.mem_cons]
      exact ⟨.inr, fun z => z.elim (fun e => e ▸ h) id⟩
    · rw [List.mem_cons, List.mem_cons, dedS_mem]
theorem dedS_nodup : ∀ l : List Nat, (dedS l).Nodup
  | [] => List.nodup_nil
  | a :: r => by
    unfold dedS
    split
    · exact dedS_nodup r
    · rename_i h
      exact List.nodup_cons.mpr ⟨fun z => h (dedS_mem.mp z), dedS_nodup r⟩
theorem dedS_len {l m : List Nat} (nd : m.Nodup) (h : ∀ k, k ∈ m ↔ k ∈ l) : m.length = (dedS l).length :=
  ((List.perm_ext_iff_of_nodup nd (dedS_nodup l)).mpr fun k => by rw [h, dedS_mem]).length_eq
theorem dedS_le : ∀ l : List Nat, (dedS l).length ≤ l.length
  | [] => Nat.le_refl _
  | a :: r => by
    have := dedS_le r
    unfold dedS
    split <;> simp <;> omega
/-- the signs met so far -/
def SgSet (P : Program) (w : World) (h : Heap) (a : Addr) (l : List Nat) : Prop := ∃ m : List Nat, m.Nodup ∧ (∀ k, k ∈ m ↔ k ∈ l) ∧ h.SetOf (PySem.strKind P w) a (fun t => decide (t ∈ m.map fun c => (⟨#[c]⟩ : Str))) m.length
theorem sg_inj {a b : Nat} (e : (⟨#[a]⟩ : Str) = ⟨#[b]⟩) : a = b := by
  injection e with e
  have := congrArg Array.toList e
  exact (List.cons.inj this).1
theorem sg_mem {m : List Nat} {c : Nat} : (⟨#[c]⟩ : Str) ∈ (m.map fun c => (⟨#[c]⟩ : Str)) ↔ c ∈ m :=
  ⟨fun h => by
    obtain ⟨b, hb, e⟩ := List.mem_map.mp h
    exact (sg_inj e) ▸ hb, fun h => List.mem_map.mpr ⟨c, h, rfl⟩⟩
section
variable {P : Program} {w : World} {A : Around} {E : Value → Shared → Prop} {s : Shared}
theorem sg_update {I : Addr} {fp wr : List Addr} {G : Array GenState → Array GenState → Prop} {n : Nat} {St : Nat → Shared → Prop} {R : Result → Shared → Prop} {x : Str}
    (W : WalksS P w A.in1 I fp wr G n (SignAt x) St) (S : Addr) (hSf : S ∉ fp) (hn : n = x.cps.size) (hb : n + 1 < scanBound) :
    ∀ (k i : Nat) (s : Shared), n - i = k → i ≤ n → St i s → SgSet P w s.heap S (x.cps.toList.take i) →
      (∀ s', Moved (S :: wr) G s s' → SgSet P w s'.heap S x.cps.toList → R (.ok (.ret .none)) s') →
      codeAny (model P w) A (.builtin "set.update.loop" ⟨[.ref S, .ref I], []⟩) R s := by
  have hSw : S ∉ wr := fun h => hSf (W.sub _ h)
  have up : ∀ b ∈ wr, b ∈ S :: wr := fun b hb => List.mem_cons_of_mem _ hb
  have at_ : ∀ {h h' : Heap} {l : List Nat}, SgSet P w h S l → (∀ o, h.get? S = some o → h'.get? S = some o) → SgSet P w h' S l := fun {h h' l} ⟨m, h1, h2, o, es, ep, tb, ho, rest⟩ k => ⟨m, h1, h2, o, es, ep, tb, k _ ho, rest⟩
  intro k
  induction k with
  | zero =>
    intro i s hk' hi hst hS hR
    obtain rfl : i = n := by omega
    refine codeAny_builtin F.entry_set_update_loop ?_
    rw [Around.under_plainId F.plain_set_update_loop _]
    show wpAny _ A.in1 (pyNext (.ref I) >>= _) _ _ s
    refine wpAny_bind (W.done s _ _ hst fun s' hm => ?_)
    have e : x.cps.toList.take i = x.cps.toList := List.take_of_length_le (by rw [Array.length_toList]; omega)
    rw [e] at hS
    exact wpAny_pure (hR s' (hm.mono up) (at_ hS fun o e => hm.heap S o hSw e))
  | succ k ih =>
    intro i s hk' hi hst hS hR
    have hlt : i < n := by omega
    refine codeAny_builtin F.entry_set_update_loop ?_
    rw [Around.under_plainId F.plain_set_update_loop _]
    show wpAny _ A.in1 (pyNext (.ref I) >>= _) _ _ s
    refine wpAny_bind (W.item i s _ _ hlt hst fun v s' hP hst' hm => ?_)
    obtain ⟨c, t, hz, rfl⟩ := hP
    obtain ⟨m, hm1, hm2, hS'⟩ := at_ hS fun o e => hm.heap S o hSw e
    have hml : m.length ≤ i := by
      rw [dedS_len hm1 hm2]
      refine Nat.le_trans (dedS_le _) ?_
      rw [List.length_take]
      exact Nat.min_le_left ..
    show wpAny _ A.in1 (holding [Value.str ⟨#[c]⟩ t] (setAdd S (.str ⟨#[c]⟩ t)) >>= _) _ _ s'
    refine wpAny_bind (wpAny_holding ?_)
    unfold setAdd
    refine wpAny_holding ?_
    refine wpAny_bind ((PySem.strKind P w).pyHash (k := ⟨#[c]⟩) (strKind_is _ _ _ _) ?_)
    refine wpAny_setAddHashed_of (knd := PySem.strKind P w) (s := { s' with toks := s'.toks + 1 }) (strKind_is _ _ _ _) rfl hS' (by omega) fun h' hsb hS2 => ?_
    have hz' : x.cps.toList[i]? = some c := by rw [Array.getElem?_toList]; exact hz
    have hS3 : SgSet P w h' S (x.cps.toList.take (i + 1)) := by
      rw [List.take_add_one, hz']
      by_cases hc : c ∈ m
      · refine ⟨m, hm1, fun k => ?_, SetOf_congr hS2 (fun t => ?_) ?_⟩
        · rw [hm2 k, List.mem_append]
          refine ⟨.inl, fun z => z.elim id fun z => ?_⟩
          rw [show k = c by simpa using z]
          exact (hm2 c).mp hc
        · by_cases e : t = ⟨#[c]⟩
          · rw [e, decide_eq_true (sg_mem.mpr hc)]; rfl
          · rw [decide_eq_false e, Bool.or_false]
        · rw [decide_eq_true (sg_mem.mpr hc)]; rfl
      · refine ⟨c :: m, List.nodup_cons.mpr ⟨hc, hm1⟩, fun k => ?_, SetOf_congr hS2 (fun t => ?_) ?_⟩
        · rw [List.mem_cons, hm2 k, List.mem_append, or_comm]
          simp
        · rw [List.map_cons]
          by_cases e : t = ⟨#[c]⟩
          · rw [e, decide_eq_true (show (⟨#[c]⟩ : Str) = ⟨#[c]⟩ from rfl), Bool.or_true]
            exact (decide_eq_true (List.mem_cons_self)).symm
          · rw [decide_eq_false e, Bool.or_false]
            congr 1
            rw [List.mem_cons]
            exact propext ⟨.inr, fun z => z.elim (fun z => absurd z e) id⟩
        · rw [decide_eq_false (fun z => hc (sg_mem.mp z))]; rfl
    refine wpAny_pure ⟨plainId_quiet F.plain_set_update_loop _, ih (i + 1) _ (by omega) hlt (W.frame _ s' _ _ hst' (Nat.le_succ _) fun b hb o e => ?_) hS3 fun s'' hm'' hS'' => ?_⟩
    · exact (hsb.2 b (fun h => hSf (h ▸ hb))).trans e
    · refine hR s'' (Moved.trans W.gtrans ((hm.mono up).then_heap (Nat.le_succ _) fun b o hb e => ?_) hm'') hS''
      exact (hsb.2 b (fun h => hb (h ▸ List.mem_cons_self))).trans e
theorem sg_nil {h : Heap} {a : Addr} {led : Bool} (ho : h.get? a = some { cls := .type "set", dict := none, data := .set #[] 0 (.fresh 0 0 led) }) : SgSet P w h a [] :=
  ⟨[], List.nodup_nil, fun _ => Iff.rfl, SetOf_congr ((setObjOf_fresh (knd := PySem.strKind P w) led).setOf ho (by decide)) (fun _ => rfl) rfl⟩
end
end PyD

end

section
set_option maxHeartbeats 1000000
namespace PyD
open PySem PySem.Spec L2 PyProof.Rows
section
variable {P : Program} {w : World} {A : Around} {E : Value → Shared → Prop} {s : Shared}
theorem set_of_str {x : Str} {tt : Tok} {Q : Value → Shared → Prop} (h0 : A.handled = none) (hk : x.cps.size + 1 < scanBound)
    (post : ∀ (g : Heap) (tk : Nat), SgSet P w g s.heap.objs.size x.cps.toList → (∀ b o, s.heap.get? b = some o → g.get? b = some o) → Q (.ref s.heap.objs.size) { s with heap := g, toks := tk }) :
    wpAny (model P w) A (call (.type "set") [.str x tt]) Q E s := by
  obtain ⟨cc, tl, hmro⟩ := F.called_set.mro
  have c1 := F.called_set.made
  have c2 := F.called_set.sub
  refine wpAny_call (codeAny_of_tree ?_)
  show wpAny _ _ (callAny (.type "set") _) _ _ _
  refine wpAny_pure ⟨Code.quiet_builtin _ (by decide +kernel), codeAny_builtin F.entry_type_call ?_⟩
  rw [Around.under_plain (weight_type_call_type "set" [.str x tt] []) rfl]
  have c3 := F.called_set.notType
  have c4 := F.called_set.canCreate
  have c5 := F.typeCall_set_1 (.str x tt)
  repeat (any_goals (first | assumption | wp_step))
  refine codeAny_mono (code_set_led1 (.str x tt) (E := E) (Q₁ := fun ob t => ob = .ref s.heap.objs.size ∧ t = { s with heap := s.heap.push ({ cls := .type "set", dict := none, data := .set #[] 0 (.fresh 0 0 (!w.params.followText "set-order")) } : Obj) }) ⟨rfl, rfl⟩) fun r t hr => ?_
  cases r with
  | error e => exact hr
  | ok fl =>
    cases fl with
    | ret ob =>
      obtain ⟨rfl, rfl⟩ := hr
      have d1 : (s.heap.push ({ cls := .type "set", dict := none, data := .set #[] 0 (.fresh 0 0 (!w.params.followText "set-order")) } : Obj)).get? s.heap.objs.size = some ({ cls := .type "set", dict := none, data := .set #[] 0 (.fresh 0 0 (!w.params.followText "set-order")) } : Obj) := Heap.get?_push_size _ rfl
      have d2 : Shared.TypeIs { s with heap := s.heap.push ({ cls := .type "set", dict := none, data := .set #[] 0 (.fresh 0 0 (!w.params.followText "set-order")) } : Obj) } (.ref s.heap.objs.size) "set" := ⟨_, d1, rfl⟩
      have d3 := F.called_set.init.lookup
      have d4 := F.called_set.init.bind (.ref s.heap.objs.size)
      repeat (any_goals (first | assumption | wp_step))
      refine codeAny_mono (codeAny_call_builtin (R := wants (fun r t => r = .none ∧ ∃ g tk, t = { s with heap := g, toks := tk } ∧ SgSet P w g s.heap.objs.size x.cps.toList ∧ ∀ b o, s.heap.get? b = some o → g.get? b = some o) E) F.called_set.init.plain F.entry_set_init (check_set_init_1 d2 ?_)) fun r2 t2 hr2 => ?_
      · have f3 : (Value.type "str" == Value.type "dict") = false := by decide
        have f1 : isSubtype (.type "str") (.type "set") = pure false := by rw [isSubtype_type]; kernel_rfl
        have f2 : isSubtype (.type "str") (.type "frozenset") = pure false := by rw [isSubtype_type]; kernel_rfl
        have f4 : Shared.TypeIs { s with heap := s.heap.push ({ cls := .type "set", dict := none, data := .set #[] 0 (.fresh 0 0 (!w.params.followText "set-order")) } : Obj) } (.str x tt) "str" := typeIs_str _ _ _
        unfold Builtin.«set.__init__» noKeywords Builtin.Frozenset.updateFrom
        generalize hIt : pyIter = IT
        wp_walk
        subst hIt
        refine wpAny_pyIter_str fun oi St hW hst => ?_
        refine wpAny_bind (wpAny_runValue ?_)
        have h3 : A.in1.in1.in1.handled = none := by simp [h0]
        have hps : (s.heap.push ({ cls := .type "set", dict := none, data := .set #[] 0 (.fresh 0 0 (!w.params.followText "set-order")) } : Obj)).objs.size = s.heap.objs.size + 1 := Heap.size_push ..
        have hSI : s.heap.objs.size ∉ [(s.heap.push ({ cls := .type "set", dict := none, data := .set #[] 0 (.fresh 0 0 (!w.params.followText "set-order")) } : Obj)).objs.size] := fun z =>
          absurd ((List.mem_singleton.mp z).trans hps) (Nat.ne_of_lt (Nat.lt_succ_self _))
        refine sg_update ((hW _ h3).toS) s.heap.objs.size hSI rfl hk (x.cps.size - 0) 0 _ (by omega) (Nat.zero_le _) hst ?pa ?pb
        case pa => exact sg_nil (Heap.get?_push_of_some _ d1)
        case pb =>
          intro t hmv hS
          obtain ⟨g, gg, dd, tk, oo⟩ := t
          obtain rfl : gg = s.gens := hmv.gens
          obtain rfl : dd = s.drawn := hmv.drawn
          obtain rfl : oo = s.os := hmv.os
          show wpAny _ _ _ _ _ _
          refine wpAny_pure ?_
          show wpAny _ _ (ret Value.none) _ _ _
          refine wpAny_pure ⟨rfl, g, tk, rfl, hS, fun b o q => ?_⟩
          have hb : b < s.heap.objs.size := Heap.lt_size q
          refine hmv.heap b o (fun z => ?_) (Heap.get?_push_of_some _ (Heap.get?_push_of_some _ q))
          rcases List.mem_cons.mp z with z | z
          · exact absurd z (Nat.ne_of_lt hb)
          · exact absurd ((List.mem_singleton.mp z).trans hps) (Nat.ne_of_lt (Nat.lt_succ_of_lt hb))
      · cases r2 with
        | error e => exact hr2
        | ok fl2 =>
          cases fl2 with
          | ret r =>
            obtain ⟨rfl, g, tk, rfl, hS, hkp⟩ := hr2
            repeat (any_goals (first | assumption | wp_step))
            exact post _ _ hS hkp
          | _ => exact hr2.elim
    | _ => exact hr.elim
end
def rLenSet : List V → Hp → VK → Prop := fun xs H Q => ∃ x : Str, xs = [.str x] ∧ x.cps.size ≤ 4000 ∧ Q (.int ((dedS x.cps.toList).length : Nat)) H
theorem pe_lenset {X : Cx} {e : Expr} {p p2 pos pos2 : Pos} {ta : TA} (hc : X.calm = true) (hg : Gl X "len") (hm : X.mg "len" = none) (hg2 : Gl X "set") (hm2 : X.mg "set" = none) (ha : PA X [e] ta)
    (hs : starEach [e] X.env = [(false, eval e X.env)] := by rfl)
    (hs2 : starEach [.Call (.Name "set" p2) [e] [] pos2] X.env = [(false, eval (.Call (.Name "set" p2) [e] [] pos2) X.env)] := by rfl) : PE X (.Call (.Name "len" p) [.Call (.Name "set" p2) [e] [] pos2] [] pos) (tCB rLenSet ta) := by
  refine ⟨fun pins s σ H Q I h => ?_⟩
  refine wpAny_Call_Name_kw (ld_blt I hg hm PySem.boot_len ?_)
  refine PyProof.Rows.callWith_builtin1 ?_ hs2 rfl
  rw [hs2]
  show wpAny _ _ (spliced ((false, eval (.Call (.Name "set" p2) [e] [] pos2) X.env) :: [])) _ _ s
  refine Calls.spliced_cons ?_
  refine wpAny_Call_Name_kw (ld_blt I hg2 hm2 PyProof.Rows.boot_set ?_)
  refine PyProof.Rows.callWith_type1 (thn (ha.run pos2 pins s σ H _ I h) fun us s1 ⟨vs, H1, I1, r1, q1⟩ => ?_) hs rfl
  obtain ⟨x, rfl, hl, q⟩ := q1
  obtain ⟨u, rfl, ru⟩ : ∃ u, us = [u] ∧ RelV (V.str x) u := by cases r1 with | cons a b => cases b; exact ⟨_, rfl, a⟩
  obtain ⟨t, rfl⟩ := ru
  refine set_of_str (I1.ok.hd hc) (by unfold scanBound; omega) fun g tk R k => ?_
  obtain ⟨m, hm1, hm2, o, es, ep, tb, ho, hex, hd, hel, hmem, hb, hf, hn⟩ := R
  refine Calls.spliced_nil ?_
  refine call_len_set (s := { s1 with heap := g, toks := tk }) ho hex hd hf (by unfold scanBound at hb; omega) ?_
  have I2 : Inv X pins σ H1 { s1 with heap := g, toks := tk } := I1.kept (t' := tk) k
  refine ⟨.int (es.size : Nat), H1, I2.tok _, ⟨_, rfl⟩, ?_⟩
  rw [hn, dedS_len hm1 hm2]
  exact q
def lensetD : List D → Option (Bool × D)
  | [.str x] => if x.cps.size ≤ 4000 then some (false, .int ((dedS x.cps.toList).length : Nat)) else none
  | _ => none
theorem prim_lenset {K : PySem.W.Frag} : Prim K rLenSet lensetD := by
  intro U H ds vs Q b d hU ar e post
  unfold lensetD at e
  split at e
  · split at e
    · rename_i h
      cases e
      obtain ⟨v, rfl, h1⟩ := ar1 ar
      rw [arStr h1]
      exact ⟨_, rfl, h, post _ H (Ext.refl H) (fun _ => repInt) (fun z => by cases z)⟩
    · cases e
  · cases e
theorem e_lenset {X : Cx} {W : WX} {e : Expr} {p p2 pos pos2 : Pos} {fs : M (List R)} (hc : X.calm = true) (hg : Gl X "len") (hm : X.mg "len" = none) (hg2 : Gl X "set") (hm2 : X.mg "set" = none) (ha : PA X [e] (RdA X.K W fs))
    (hs : starEach [e] X.env = [(false, eval e X.env)] := by rfl)
    (hs2 : starEach [.Call (.Name "set" p2) [e] [] pos2] X.env = [(false, eval (.Call (.Name "set" p2) [e] [] pos2) X.env)] := by rfl) :
    PE X (.Call (.Name "len" p) [.Call (.Name "set" p2) [e] [] pos2] [] pos) (RdE X.K W (opF lensetD fs)) :=
  pe_imp (pe_lenset hc hg hm hg2 hm2 ha hs hs2) fun σ H Q m => opImp prim_lenset m
theorem lenset_tx {l : List Nat} (h : l.length ≤ 4000) : lensetD [.str (tx l)] = some (false, .int ((dedS l).length : Nat)) := by
  show (if (tx l).cps.size ≤ 4000 then _ else _) = _
  rw [if_pos (by simpa [tx] using h)]
  simp [tx]
end PyD

end

section
set_option maxHeartbeats 4000000
namespace PyD
open PySem PySem.Spec L2 PyProof.Rows
/-! repr(x), x of nothings, truths, numbers, texts, tuples and lists -/
mutual
def pyOf : D → Option PyData
  | .non => some .none
  | .bl b => some (.bool b)
  | .int i => some (.int i)
  | .str s => some (.str s)
  | .tup ds => (pyOfL ds).map .tuple
  | .lst ds => (pyOfL ds).map .list
  | .dic _ => none
  | .obj _ _ => none
  | .scr _ => none
  | .exn _ _ => none
def pyOfL : List D → Option (List PyData)
  | [] => some []
  | d :: r => (pyOf d).bind fun a => (pyOfL r).map fun b => a :: b
end
mutual
theorem pyOf_nd : ∀ (d : D) (p : PyData), pyOf d = some p → p.hasDict = false
  | .non, p, h => by cases h; simp only [PyData.hasDict]
  | .bl _, p, h => by cases h; simp only [PyData.hasDict]
  | .int _, p, h => by cases h; simp only [PyData.hasDict]
  | .str _, p, h => by cases h; simp only [PyData.hasDict]
  | .tup ds, p, h => by
    unfold pyOf at h
    obtain ⟨ps, e, rfl⟩ := Option.map_eq_some_iff.mp h
    simp only [PyData.hasDict]
    exact pyOfL_nd ds ps e
  | .lst ds, p, h => by
    unfold pyOf at h
    obtain ⟨ps, e, rfl⟩ := Option.map_eq_some_iff.mp h
    simp only [PyData.hasDict]
    exact pyOfL_nd ds ps e
  | .dic _, p, h => by cases h
  | .obj _ _, p, h => by cases h
  | .scr _, p, h => by cases h
  | .exn _ _, p, h => by cases h
theorem pyOfL_nd : ∀ (ds : List D) (ps : List PyData), pyOfL ds = some ps → PyData.hasDictAll ps = false
  | [], ps, h => by cases h; simp only [PyData.hasDictAll]
  | d :: r, ps, h => by
    unfold pyOfL at h
    obtain ⟨a, e1, h⟩ := Option.bind_eq_some_iff.mp h
    obtain ⟨b, e2, rfl⟩ := Option.map_eq_some_iff.mp h
    simp only [PyData.hasDictAll, pyOf_nd d a e1, pyOfL_nd r b e2, Bool.or_self]
end
section
variable {X : Cx} {pins : List (Addr × Obj)} {σ : L2.St} {H : Hp} {s : Shared} {U : Addr → Prop}
mutual
theorem reads_of (I : Inv X pins σ H s) : ∀ (d : D) (v : V) (p : PyData) (u : Value), pyOf d = some p → Rep X.K U H d v → RelV v u → ∃ as, Reads s.heap u p as
  | .non, v, p, u, h, r, q => by
    cases h
    unfold Rep at r
    subst r
    obtain rfl : u = .none := q
    exact ⟨_, .none⟩
  | .bl b, v, p, u, h, r, q => by
    cases h
    unfold Rep at r
    subst r
    obtain rfl : u = .bool b := q
    exact ⟨_, .bool b⟩
  | .int i, v, p, u, h, r, q => by
    cases h
    unfold Rep at r
    subst r
    obtain ⟨t, rfl⟩ := q
    exact ⟨_, .int i t⟩
  | .str x, v, p, u, h, r, q => by
    cases h
    unfold Rep at r
    subst r
    obtain ⟨t, rfl⟩ := q
    exact ⟨_, .str x t⟩
  | .tup ds, v, p, u, h, r, q => by
    unfold pyOf at h
    obtain ⟨ps, e, rfl⟩ := Option.map_eq_some_iff.mp h
    unfold Rep at r
    obtain ⟨a, vs, rfl, _, ha, rl⟩ := r
    obtain rfl : u = .ref a := q
    obtain ⟨its, rv, ⟨o, ho, hcls, n, hdat⟩, hz⟩ := I.tuple (SqT.of ha)
    obtain ⟨as, rs⟩ := reads_ofL I ds vs ps its e rl rv
    exact ⟨_, .tuple ho hcls hdat rs⟩
  | .lst ds, v, p, u, h, r, q => by
    unfold pyOf at h
    obtain ⟨ps, e, rfl⟩ := Option.map_eq_some_iff.mp h
    unfold Rep at r
    obtain ⟨a, vs, rfl, _, ha, rl⟩ := r
    obtain rfl : u = .ref a := q
    obtain ⟨its, rv, pl, hz⟩ := I.list (SqL.of ha)
    obtain ⟨o, ho, hcls, n, hdat⟩ := pl.isList
    obtain ⟨as, rs⟩ := reads_ofL I ds vs ps its e rl rv
    exact ⟨_, .list ho hcls hdat rs⟩
  | .dic _, _, _, _, h, _, _ => by cases h
  | .obj _ _, _, _, _, h, _, _ => by cases h
  | .scr _, _, _, _, h, _, _ => by cases h
  | .exn _ _, _, _, _, h, _, _ => by cases h
theorem reads_ofL (I : Inv X pins σ H s) : ∀ (ds : List D) (vs : List V) (ps : List PyData) (us : List Value), pyOfL ds = some ps → RepL X.K U H ds vs → Vals vs us → ∃ as, ReadsAll s.heap us ps as
  | [], vs, ps, us, h, r, q => by
    cases h
    rw [r.nil_inv] at q
    cases q
    exact ⟨_, .nil⟩
  | d :: ds, vs, ps, us, h, r, q => by
    unfold pyOfL at h
    obtain ⟨a, e1, h⟩ := Option.bind_eq_some_iff.mp h
    obtain ⟨b, e2, rfl⟩ := Option.map_eq_some_iff.mp h
    obtain ⟨v, vs', rfl, r1, r2⟩ := r.inv
    cases q with
    | cons q1 q2 =>
      obtain ⟨as, k1⟩ := reads_of I d v a _ e1 r1 q1
      obtain ⟨bs, k2⟩ := reads_ofL I ds vs' b _ e2 r2 q2
      exact ⟨_, .cons k1 k2⟩
end
end
def okPy (p : PyData) : Bool := p.showable && (decide (p.depth ≤ 50) && decide (p.shown.length ≤ 16777216))
def rRepr (K : PySem.W.Frag) : List V → Hp → VK → Prop := fun xs H Q => ∃ (U : Addr → Prop) (d : D) (v : V) (p : PyData), xs = [v] ∧ pyOf d = some p ∧ ARep K U H d v ∧ okPy p = true ∧ Q (.str p.shown) H
theorem cr_repr {X : Cx} (hg : X.A.guards = some []) (hu : X.A.units + 64 < cLine) : CallR X (.builtin "repr") (rRepr X.K) := by
  intro pins s σ H xs us Q I r h
  obtain ⟨U, d, v, p, rfl, hp, ra, ho, q⟩ := h
  unfold okPy at ho
  rw [Bool.and_eq_true, Bool.and_eq_true, decide_eq_true_eq, decide_eq_true_eq] at ho
  obtain ⟨h1, h2, h3⟩ := ho
  obtain ⟨u, rfl, ru⟩ : ∃ u, us = [u] ∧ RelV v u := by cases r with | cons a b => cases b; exact ⟨_, rfl, a⟩
  have nd := pyOf_nd d p hp
  have big : ∀ (a : Addr) (as : List Addr), Reads s.heap (.ref a) p as → wpAny (model X.prog X.w) X.A (call (.builtin "repr") [.ref a]) (EP X pins σ Q) X.xe s := fun a as rd =>
    repr_of_reads' (h₀ := s.heap) rd h1 (PyData.noDict_hsm nd) hg (by omega) (fun _ _ e => e) (fun h' u tk hk => ⟨.str p.shown, H, I.kept (t' := tk) hk, ⟨u, rfl⟩, q⟩) h3
  cases d with
  | non =>
    cases hp
    obtain rfl := arNon ra
    obtain rfl : u = .none := ru
    rw [PyData.shown_none] at q
    exact PySem.P.repr_of_none ⟨.str _, H, I.tok _, ⟨_, rfl⟩, q⟩
  | bl b =>
    cases hp
    obtain rfl : v = .bl b := ra
    obtain rfl : u = .bool b := ru
    rw [PyData.shown_bool] at q
    cases b
    · exact PySem.P.repr_of_bool ⟨.str _, H, I.tok _, ⟨_, rfl⟩, q⟩
    · exact PySem.P.repr_of_bool ⟨.str _, H, I.tok _, ⟨_, rfl⟩, q⟩
  | int i =>
    cases hp
    obtain rfl := arInt ra
    obtain ⟨t, rfl⟩ := ru
    rw [PyData.shown_int] at q
    exact PySem.P.repr_of_int (by simpa [PyData.showable] using h1) ⟨.str _, H, I.tok _, ⟨_, rfl⟩, q⟩
  | str x =>
    cases hp
    obtain rfl := arStr ra
    obtain ⟨t, rfl⟩ := ru
    rw [PyData.shown_str] at q h3
    exact PySem.P.repr_of_str ⟨.str _, H, I.tok _, ⟨_, rfl⟩, q⟩ h3
  | tup ds =>
    obtain ⟨a, vs, rfl, _, ha, rl⟩ := arTup ra
    obtain rfl : u = .ref a := ru
    obtain ⟨as, rd⟩ := reads_of (U := U) I (.tup ds) (.ref a) p (.ref a) hp ra rfl
    exact big a as rd
  | lst ds =>
    unfold pyOf at hp
    obtain ⟨ps, e, rfl⟩ := Option.map_eq_some_iff.mp hp
    obtain ⟨a, vs, rfl, ha, rl⟩ := arLst ra
    obtain rfl : u = .ref a := ru
    obtain ⟨its, rv, pl, hz⟩ := I.list (SqL.of ha)
    obtain ⟨o, ho, hcls, n, hdat⟩ := pl.isList
    obtain ⟨as, rs⟩ := reads_ofL I ds vs ps its e rl rv
    exact big a _ (.list ho hcls hdat rs)
  | dic _ => cases hp
  | obj _ _ => cases hp
  | scr _ => cases hp
  | exn _ _ => cases hp
def reprD : List D → Option (Bool × D)
  | [d] => (pyOf d).bind fun p => if okPy p = true then some (false, .str p.shown) else none
  | _ => none
theorem prim_repr {K : PySem.W.Frag} : Prim K (rRepr K) reprD := by
  intro U H ds vs Q b d hU ar e post
  unfold reprD at e
  split at e
  · rename_i d0
    obtain ⟨p, hp, e⟩ := Option.bind_eq_some_iff.mp e
    split at e
    · rename_i ho
      cases e
      obtain ⟨v, rfl, h1⟩ := ar1 ar
      exact ⟨U, d0, v, p, rfl, hp, h1, ho, post _ H (Ext.refl H) (fun _ => repStr) (fun z => by cases z)⟩
    · cases e
  · cases e
/-! two texts that repr told -/
def eqSD (n : Bool) : List D → Option (Bool × D)
  | [.str a, .str b] => some (false, .bl (decide (a = b) != n))
  | _ => none
theorem dec_str {a b : Str} : decide (V.str a = V.str b) = decide (a = b) := by
  by_cases h : a = b
  · subst h
    rw [decide_eq_true rfl, decide_eq_true rfl]
  · rw [decide_eq_false h, decide_eq_false fun z => h (V.str.inj z)]
theorem prim_eqS {K : PySem.W.Frag} : Prim K (r2 rEq) (eqSD false) := by
  intro U H ds vs Q b d hU ar e post
  unfold eqSD at e
  split at e
  · rename_i x y
    cases e
    obtain ⟨v, w, rfl, h1, h2⟩ := ar2 ar
    rw [arStr h1, arStr h2]
    refine ⟨_, _, rfl, rfl, ?_⟩
    rw [dec_str]
    have := post (.bl (decide (x = y))) H (Ext.refl H) (fun _ => by rw [Bool.bne_false]; unfold Rep; rfl) (fun z => by cases z)
    exact this
  · cases e
theorem prim_neS {K : PySem.W.Frag} : Prim K (r2 rNe) (eqSD true) := by
  intro U H ds vs Q b d hU ar e post
  unfold eqSD at e
  split at e
  · rename_i x y
    cases e
    obtain ⟨v, w, rfl, h1, h2⟩ := ar2 ar
    rw [arStr h1, arStr h2]
    refine ⟨_, _, rfl, rfl, ?_⟩
    rw [dec_str]
    have := post (.bl (!decide (x = y))) H (Ext.refl H) (fun _ => by rw [Bool.bne_true]; unfold Rep; rfl) (fun z => by cases z)
    exact this
  · cases e
theorem eqS_self {n : Bool} {x : Str} : eqSD n [.str x, .str x] = some (false, .bl (!n)) := by
  show some (false, D.bl (decide (x = x) != n)) = _
  rw [decide_eq_true rfl]
  cases n <;> rfl
end PyD

end

section
set_option maxHeartbeats 4000000
namespace PyD
open PySem PySem.Spec L2 PyProof.Rows
/-! defs that may call repr: nobody around them shows anything -/
structure RoomG (k : Nat) (A : Around) : Prop extends Room k A where
  gd : A.guards = some []
theorem RoomG.mono {j k : Nat} {A : Around} (r : RoomG k A) (h : j ≤ k) : RoomG j A := ⟨r.toRoom.mono h, r.gd⟩
theorem RoomG.deeper {k : Nat} {A : Around} (r : RoomG (k + 1) A) (env : Env) : RoomG k (A.deeper env) := ⟨r.toRoom.deeper env, r.gd⟩
structure FnG (P : Program) (w : World) (K : PySem.W.Frag) (mg : Str → Option Value) (base : Heap) (k : Nat) (f : Addr) (fd : FuncData) (ps : List Str) (sp : Sp) : Prop where
  many : ∀ vs H Q E, sp vs H Q E → vs.length = ps.length
  goes : ∀ (A : Around) (os : List Env) (s : Shared) (H : Hp) (ar : Args) (us : List Value) (vs : List V) (Q : VK) (E : XK), RoomG k A → Env0 P w K mg base A os s H →
    BindsTo s fd ar (ps.zip us) → Vals vs us → sp vs H Q E → codeAny (model P w) A (.call (.ref f) ar) (CR (L2.CX P w) os P w H s Q E) s
section
variable {P : Program} {w : World} {K : PySem.W.Frag} {mg : Str → Option Value} {base : Heap}
theorem FnG.mono {j k : Nat} {f : Addr} {fd : FuncData} {ps : List Str} {sp : Sp} (F : FnG P w K mg base j f fd ps sp) (h : j ≤ k) : FnG P w K mg base k f fd ps sp :=
  ⟨F.many, fun A os s H ar us vs Q E hr => F.goes A os s H ar us vs Q E (hr.mono h)⟩
/-- a def by its body -/
theorem fnG {x qual : Str} {st : Stmt} {f : Addr} {fd : FuncData} {N ps : List Str} {k : Nat} {sp : Sp} (F : Fun K x qual st f fd) (S : FnScope N ps (defScope st)) (many : ∀ vs H Q E, sp vs H Q E → vs.length = ps.length)
    (body : ∀ (cdv : Value) (A : Around) (os : List Env) (s : Shared) (H : Hp) (vs : List V) (Q : VK) (E : XK), RoomG k (A.deeper (envOfC qual (defScope st) s.heap.objs.size f cdv)) → sp vs H Q E →
      ∃ t, PSs (cxOf (L2.CX P w) P w K mg base N qual (defScope st) f cdv A os s H E) (defBody st) t ∧ t { nx := fun _ H' => Q .non H', rt := Q } (start N vs) H) : FnG P w K mg base (k + 1) f fd ps sp := by
  obtain ⟨oc, od, kV, doc, pm, an, cdv, ct, osl, rfl, lk, hcd⟩ := F.ex
  refine ⟨many, fun A os s H ar us vs Q E room e0 bs rv hq => ?_⟩
  have lenV := many _ _ _ _ hq
  have inK : K.In s.heap := e0.mod.kin.keeps fun b o e => (e0.bs b o e).1
  have noL : s.heap.NoLimit := e0.mod.nolimit.keeps fun b o e => (e0.bs b o e).1
  refine codeAny_call_function room.depth (inK _ _ lk) rfl S.co S.gen rfl (PySem.W.codeRec_of inK hcd) (bs _ _ _ _ (wpAny_newFunctionEnv_cells S.kind ?_ ?_))
  · intro ⟨n, v⟩ hy
    have q := S.par n (List.of_mem_zip hy).1
    exact q.imp id fun q => ⟨q, PySem.W.cellsFrom_some _ _ _ (.inl q)⟩
  · intro env he s1 x
    subst he
    obtain ⟨t, ht, h⟩ := body cdv A os s H vs Q E (room.deeper _) hq
    have J0 : Inv (cxOf (L2.CX P w) P w K mg base N qual (defScope st) f cdv A os s H E) [] (start N vs) H s1 := inv_start S room.hd e0 lenV rv x
    refine ⟨noL.keeps x.toInCall.keep, codeAny_func (wpAny_mono (ht.run [] s1 (start N vs) H _ J0 h) ?_ fun e s' hs => hs)⟩
    intro fl s' hs
    cases fl with
    | brk => obtain ⟨_, _, _, no⟩ := hs; exact no.elim
    | cont => obtain ⟨_, _, _, no⟩ := hs; exact no.elim
    | next => obtain ⟨σ', H', J, q⟩ := hs; exact ⟨V.non, H', J.os, J.bare, J.base, J.hok, rfl, q⟩
    | ret u => obtain ⟨v, σ', H', J, r, q⟩ := hs; exact ⟨v, H', J.os, J.bare, J.base, J.hok, r, q⟩
theorem ok_defG {x qual : Str} {st : Stmt} {f : Addr} {fd : FuncData} {N ps : List Str} {lev k : Nat} {io : List Bool} {b : En → Fl} (F : Fun K x qual st f fd) (S : FnScope N ps (defScope st)) (hps : io.length = ps.length) (hN : N.length = ps.length + k)
    (hb : ∀ (cdv : Value) (A : Around) (outer : List Env) (s : Shared) (H : Hp) (E : XK), RoomG lev (A.deeper (PyProof.Rows.envOfC qual (defScope st) s.heap.objs.size f cdv)) → PSs (cxOf (L2.CX P w) P w K mg base N qual (defScope st) f cdv A outer s H E) (defBody st) (RdS K (fun cls d _ H => E cls d H) b)) :
    FnG P w K mg base (lev + 1) f fd ps (spD K io (runF io k b)) := by
  refine fnG F S (fun vs H Q E ⟨B, ds, h1, h2, _⟩ => h2.trans hps) fun cdv A outer s H vs Q E hr h => ⟨_, hb cdv A outer s H E hr, ?_⟩
  obtain ⟨B, ds, h1, h2, G, m⟩ := h
  have hst : L2.start N vs = vs.map some ++ List.replicate k none := by
    unfold L2.start
    rw [hN, h2, hps, Nat.add_sub_cancel_left]
  rw [hst]
  refine ⟨B, _, G.app k, ?_⟩
  unfold runF at m
  cases e : b (mkE io ds ++ List.replicate k .e) with
  | nx en' =>
    rw [e] at m
    intro σ' H' g s
    obtain ⟨b1, g1, s1, un⟩ := back_to h1 h2 G g (Bx.refl B _ _ H) s
    exact m .non H' ⟨B, b1, g1, fun _ => (by unfold Rep; rfl), fun z => (by cases z)⟩ s1
  | bk en' => rw [e] at m; exact m.elim
  | ct en' => rw [e] at m; exact m.elim
  | rt r en' =>
    rw [e] at m
    intro v σ' H' ⟨B', bx, g, ra, n⟩ s
    obtain ⟨b1, g1, s1, un⟩ := back_to h1 h2 G g bx s
    cases r with
    | sh d => exact m v H' ⟨B', b1, g1, fun _ => Rep.to (fun a o x n => ⟨x, fun z => n (un a z)⟩) _ _ ra, fun z => (by cases z)⟩ s1
    | fr d =>
      obtain ⟨p, e1, bp, c⟩ := ra
      refine m v H' ⟨B', b1, g1, fun z => (by cases z), fun _ => ⟨p, e1, ?_, bp, Cont.to (fun a o x n => ⟨x, fun z => n (un a z)⟩) (fun _ x => x) c⟩⟩ s1
      rcases n p e1 with q | q
      · exact q
      · obtain ⟨i, d', e2, s2⟩ := q
        rcases app_get e2 with e2 | e2
        · obtain ⟨b2, d2, _, _, h4⟩ := mkE_get e2
          obtain ⟨_, z2, _⟩ := slIn_o h4.symm
          cases z2
        · cases e2
    | sl i => exact m.elim
  | exc x en' =>
    rw [e] at m
    intro c od σ' H' ex g s
    obtain ⟨b1, g1, s1, un⟩ := back_to h1 h2 G g (Bx.refl B _ _ H) s
    exact m c od H' (ex.mono un) g1 s1
  | bad => rw [e] at m; exact m.elim
end
/-! the call -/
section
variable {X : Cx} {k : Nat} {f : Addr} {fd : FuncData} {ps : List Str} {sp : Sp} {E : L2.St → XK} {x : Str} {p pos : Pos} {e : Expr} {es : List Expr} {t : TA}
theorem pe_callG (F : FnG X.prog X.w X.K X.mg X.base k f fd ps sp) (room : RoomG k X.A) (hg : Gl X x) (hm : X.mg x = some (.ref f)) (kp : PySem.W.keepIn X.K (.ref f) = true) (bs : Binds X.K fd ps []) (px : ∀ σ, PassesAt (L2.CX X.prog X.w) X σ (E σ))
    (ha : PA X (e :: es) t) (nd : (x == ("__debug__" : Str)) = false) (one : starEach (e :: es) X.env = (false, eval e X.env) :: starEach es X.env) (pl : (backTo pos (starEach es X.env)).any (·.1) = false) :
    PE X (.Call (.Name x p) (e :: es) [] pos) (tCallS sp E t) := by
  constructor
  intro pins s σ H Q I h
  refine wpAny_Call_Name_kw (ld_glob I hg hm (PySem.W.callWith_K (h₀ := X.base) I.ok.mod.kin kp (thn (ha.run pos pins s σ H _ I h) ?_) one pl) nd)
  rintro us s1 ⟨vs, H1, I1, rv, q⟩
  refine ⟨I1.kIn, wpAny_call ?_⟩
  have q : sp vs H1 Q (E σ) := q
  have same : (us ++ ([] : List Value)).length = ps.length := by
    rw [List.append_nil, ← rv.length]
    exact F.many _ _ _ _ q
  have b0 : BindsTo s1 fd ⟨us, []⟩ (ps.zip us) := by simpa using bs s1 us I1.kIn same
  refine codeAny_mono (F.goes X.A X.stack s1 H1 ⟨us, []⟩ us vs Q (E σ) room I1.env0 b0 rv q) ?_
  rintro (er | fl) s' z
  · exact px σ pins H1 s1 er s' I1 z
  · cases fl with
    | ret u => exact I1.after z
    | _ => exact False.elim z
end
section
variable {X : Cx} {W : WX} {io : List Bool} {φ : List D → Out} {fs : M (List R)}
def DefAtG (P : Program) (w : World) (K : PySem.W.Frag) (mg : Str → Option Value) (base : Heap) (x : Str) (lev : Nat) (ps : List Str) (io : List Bool) (φ : List D → Out) : Prop :=
  ∃ (f : Addr) (fd : FuncData), FnG P w K mg base lev f fd ps (spD K io φ) ∧ mg x = some (.ref f) ∧ PySem.W.keepIn K (.ref f) = true ∧ Binds K fd ps []
theorem e_callG {k : Nat} {ps : List Str} {x : Str} {p pos : Pos} {e : Expr} {es : List Expr} (h : DefAtG X.prog X.w X.K X.mg X.base x k ps io φ) (hr : RoomG k X.A) (tk : Takes X W)
    (ha : PA X (e :: es) (RdA X.K W fs)) (hg : Gl X x := by rfl) (hdb : (x == ("__debug__" : Str)) = false := by decide) (he : starEach (e :: es) X.env = (false, eval e X.env) :: starEach es X.env := by rfl) (hpl : (backTo pos (starEach es X.env)).any (·.1) = false := by rfl) :
    PE X (.Call (.Name x p) (e :: es) [] pos) (RdE X.K W (callF io φ fs)) := by
  obtain ⟨f, fd, F, hm, hk, hb⟩ := h
  exact pe_imp (pe_callG (E := WE W) F hr hg hm hk hb (fun σ => passAt tk σ) ha hdb he hpl) fun σ H Q m => callImp m
end
section
variable {P : Program} {w : World} {K : PySem.W.Frag} {mg : Str → Option Value} {base : Heap}
theorem DefAtG.mk {x : Str} {st : Stmt} {f : Addr} {fd : FuncData} {N ps : List Str} {lev k : Nat} {io : List Bool} {b : En → Fl} {φ : List D → Out} (F : Fun K x x st f fd) (hm : mg x = some (.ref f)) (bd : Binds K fd ps []) (S : FnScope N ps (defScope st)) (hps : io.length = ps.length) (hN : N.length = ps.length + k)
    (hb : ∀ (cdv : Value) (A : Around) (outer : List Env) (s : Shared) (H : Hp) (E : XK), RoomG lev (A.deeper (PyProof.Rows.envOfC x (defScope st) s.heap.objs.size f cdv)) → PSs (cxOf (L2.CX P w) P w K mg base N x (defScope st) f cdv A outer s H E) (defBody st) (RdS K (fun cls d _ H => E cls d H) b)) (e : φ = runF io k b) :
    DefAtG P w K mg base x (lev + 1) ps io φ := by
  subst e
  exact ⟨f, fd, ok_defG F S hps hN hb, hm, F.kp, bd⟩
theorem DefAtG.bad {x : Str} {st : Stmt} {f : Addr} {fd : FuncData} {ps : List Str} {io : List Bool} {k : Nat} (F : Fun K x x st f fd) (hm : mg x = some (.ref f)) (bd : Binds K fd ps []) : DefAtG P w K mg base x k ps io fun _ => .bad := by
  have no : ∀ vs H Q E, spD K io (fun _ => Out.bad) vs H Q E → False := fun vs H Q E h => by
    obtain ⟨_, _, _, _, _, h⟩ := h
    exact h
  exact ⟨f, fd, ⟨fun vs H Q E h => (no vs H Q E h).elim, fun A outer s H args us vs Q E hr he hb hv h => (no vs H Q E h).elim⟩, hm, F.kp, bd⟩
end
/-! the law's own call -/
section
variable {P : Program} {w : World} {K : PySem.W.Frag} {mg mb : Str → Option Value} {k : Nat} {fa a : Addr} {fd : FuncData} {x : Str} {sp : Sp} {s₁ : Shared} {xs : List Value} {ns : List Int}
abbrev LawEnd (s₁ : Shared) (r : Result) (s' : Shared) : Prop := r = .ok (.ret (.bool true)) ∧ OldK s₁.heap s'.heap ∧ s'.os = s₁.os ∧ AllBare s'.gens
theorem top_env {H : Hp} (inK : K.In s₁.heap) (nm : s₁.heap.Ns mainGlobals mg) (nb : s₁.heap.Ns builtinsNs mb) (bb : ∀ x : Str, x ≠ "__name__" → mb x = bootBuiltins x) (lim : s₁.heap.NoLimit) (g0 : s₁.gens = #[])
    (hk : HOk P w H s₁.heap) (seqs : ∀ b, H b ≠ none → (K.lookup b = none ∧ ∃ o vs n, s₁.heap.get? b = some o ∧ o.data = .seq vs n)) :
    Env0 P w K mg (hidT s₁.heap H) callerA [] s₁ H ∧ K.In (hidT s₁.heap H) ∧ (hidT s₁.heap H).Ns mainGlobals mg := by
  have hid : ∀ {b : Addr} {o : Obj}, s₁.heap.get? b = some o → (∀ vs n, o.data ≠ .seq vs n) → H b = none := fun {b o} e d => Classical.byContradiction fun z => by
    obtain ⟨_, o', vs, n, e', d'⟩ := seqs b z
    exact d vs n ((Option.some.inj (e.symm.trans e')) ▸ d')
  have ns : ∀ {b : Addr} {m : Str → Option Value}, s₁.heap.Ns b m → (hidT s₁.heap H).Ns b m := fun {b m} ⟨o, es, ep, e, d, r⟩ =>
    ⟨o, es, ep, hidT_get e (hid e fun vs n z => by rw [d] at z; cases z), d, r⟩
  have inH : K.In (hidT s₁.heap H) := fun b o e => hidT_get (inK b o e) (Classical.byContradiction fun z => by
    rw [(seqs b z).1] at e
    cases e)
  obtain ⟨mc, l1, l2⟩ := lim
  refine ⟨⟨rfl, ⟨inH, ns nm, ⟨mb, ns nb, bb⟩, ⟨mc, ns l1, l2⟩⟩, fun b o => of_hidT, Nat.le_of_eq (hidT_size _ _), trivial, fun b z => ?_, hk, .of_eq g0⟩, inH, ns nm⟩
  cases (show b ∈ ([] : List Addr) from z)
theorem law_runG (inK : K.In s₁.heap) (nm : s₁.heap.Ns mainGlobals mg) (nb : s₁.heap.Ns builtinsNs mb) (bb : ∀ x : Str, x ≠ "__name__" → mb x = bootBuiltins x) (lim : s₁.heap.NoLimit) (g0 : s₁.gens = #[])
    (sa : s₁.heap.get? a = some { cls := .type "list", data := .seq xs.toArray }) (si : IntsAre xs ns) (sl : ns.length ≤ sizeLine) (room : RoomG k callerA)
    (F : ∀ base : Heap, K.In base → base.Ns mainGlobals mg → FnG P w K mg base k fa fd [x] sp) (bd : ∀ (s : Shared) (u : Value), BindsTo s fd ⟨[u], []⟩ [(x, u)])
    (prom : ∀ H : Hp, Only H → SqL K H a (ns.map V.int) → sp [.ref a] H (fun v _ => v = .bl true) fun _ _ _ => False) (noX : ∀ H e s', L2.CX P w [] H s₁ (fun _ _ _ => False) e s' → False) :
    codeAny (model P w) callerA (.call (.ref fa) ⟨[.ref a], []⟩) (LawEnd s₁) s₁ := by
  have rv := vals_ints si
  have go : ∀ H : Hp, Only H → SqL K H a (ns.map V.int) → HOk P w H s₁.heap → (∀ b, H b ≠ none → b = a ∧ K.lookup a = none) → codeAny (model P w) callerA (.call (.ref fa) ⟨[.ref a], []⟩) (LawEnd s₁) s₁ := by
    intro H only sq hk al
    obtain ⟨e0, i0, n0⟩ := top_env inK nm nb bb lim g0 hk fun b z => by
      obtain ⟨rfl, z⟩ := al b z
      exact ⟨z, _, _, _, sa, rfl⟩
    refine codeAny_mono ((F _ i0 n0).goes callerA [] s₁ H _ [.ref a] [.ref a] _ _ room e0 (bd s₁ (.ref a)) (.cons rfl .nil) (prom H only sq)) ?_
    rintro (er | fl) s' z
    · exact (noX H er s' z).elim
    · cases fl with
      | ret u =>
        obtain ⟨v, H', o1, br, un, hk', ru, tr⟩ := z
        obtain rfl : v = .bl true := tr
        obtain rfl : u = Value.bool true := ru
        refine ⟨rfl, OldK.of_keep fun b o e => ?_, o1, br⟩
        cases q : H b with
        | none => exact un.keep b o e q (fun z => nomatch (show b ∈ ([] : List Addr) from z)) (fun z => nomatch z)
        | some u =>
          rcases only b with z | ⟨ob, ys, z⟩
          · exact nomatch q.symm.trans z
          · have k1 := (hk b _ z).1
            have k2 := (hk' b _ (un.frzs b ob _ z)).1
            exact k2.trans (k1.symm.trans e)
      | _ => exact False.elim z
  cases hl : K.lookup a with
  | some o =>
    obtain rfl := Option.some.inj (sa.symm.trans (inK a o hl))
    refine go (fun _ => none) (fun _ => .inl rfl) (.inr ⟨_, xs.toArray, _, hl, rfl, rfl, rfl, ?_, by simpa using rv⟩) (fun b u z => nomatch z) fun b z => absurd rfl z
    rw [List.size_toArray, si.length]
    exact sl
  | none =>
    have yes : ∀ {b : Addr}, b = a → (if b = a then some (HO.frz { cls := .type "list", data := .seq xs.toArray } (.lst (ns.map V.int))) else none) = some (HO.frz { cls := .type "list", data := .seq xs.toArray } (.lst (ns.map V.int))) := fun e => if_pos e
    refine go (fun b => if b = a then some (.frz { cls := .type "list", data := .seq xs.toArray } (.lst (ns.map V.int))) else none) (fun b => ?_) (.inl (.inr ⟨_, yes rfl⟩)) (fun b u z => ?_) fun b z => ?_
    · by_cases e : b = a
      · exact .inr ⟨_, _, yes e⟩
      · exact .inl (if_neg e)
    · by_cases e : b = a
      · obtain rfl := Option.some.inj ((yes e).symm.trans z)
        subst e
        exact ⟨sa, by rw [List.length_map]; exact sl, xs, _, rv, sa⟩
      · exact nomatch (if_neg e).symm.trans z
    · by_cases e : b = a
      · exact ⟨e, hl⟩
      · exact absurd (if_neg e) z
end
theorem walk_ofG {l : PySem.W.OpenLaw} {n k : Nat} {q : Program} {loose : List Str} {XP : (Str → Option Value) → Heap → Prop} {YP : World → Heap → Prop} {d : DefRec} {K : Params → PySem.W.Frag} {sp : World → Sp} {x : Str}
    (hn : l.most = some n) (hn2 : n ≤ sizeLine) (hdf : d.params.defaults = []) (hr : RoomG k callerA) (hY : ∀ (w : World) (h : Heap), YP w h → (K w.params).In h)
    (F : ∀ (w : World) (mg : Str → Option Value) (fa : Addr) (h : Heap), (K w.params).In h → h.Ns mainGlobals mg → mg d.name = some (.ref fa) →
      ∃ fd : FuncData, (∀ (s : Shared) (v : Value), BindsTo s fd ⟨[v], []⟩ [(x, v)]) ∧ ∀ base : Heap, (K w.params).In base → base.Ns mainGlobals mg → FnG l.prog w (K w.params) mg base k fa fd [x] (sp w))
    (hsp : ∀ (w : World) (H : Hp) (a : Addr) (ns : List Int), ns.length ≤ n → Only H → SqL (K w.params) H a (ns.map V.int) → sp w [.ref a] H (fun v _ => v = .bl true) fun _ _ _ => False) :
    PySem.W.WalkO q loose XP YP l.row.toRowW d [] (fun f vs => PySem.call f vs) :=
  Att.attach_call hn hdf fun w s₀ s₁ mg mb fa o pm cd doc a vs ns G Y ho hd hcd hmg hobj hints hlen hg => by
    have inK := hY w _ Y
    obtain ⟨fd, bd, hF⟩ := F w mg fa _ inK G.T.g hmg
    exact law_runG inK G.T.g G.T.b G.T.builtins G.T.nolimit hg hobj hints (Nat.le_trans hlen hn2) hr hF bd (fun H hO hS => hsp w H a ns hlen hO hS) fun H e s' h => law_cx w H s₁ e s' h
end PyD

end

section
set_option maxHeartbeats 4000000
namespace PyD
open PySem PySem.Spec L2 PyProof.Rows
/-! list(x), x a text -/
def sgV (x : Str) : List V := x.cps.toList.map fun c => V.str ⟨#[c]⟩
theorem sg_vals {x : Str} {acc : Array Value} (h : ItemsOf (SignAt x) acc x.cps.size) : Vals (sgV x) acc.toList := by
  obtain ⟨hs, hi⟩ := h
  have key : ∀ n (us : List Value) (cs : List Nat), us.length = n → cs.length = n → (∀ i (h : i < n) (h2 : i < us.length) (h3 : i < cs.length), ∃ t, us[i] = Value.str ⟨#[cs[i]]⟩ t) → Vals (cs.map fun c => V.str ⟨#[c]⟩) us := by
    intro n
    induction n with
    | zero =>
      intro us cs h1 h2 _
      obtain rfl := List.length_eq_zero_iff.mp h1
      obtain rfl := List.length_eq_zero_iff.mp h2
      exact .nil
    | succ n ih =>
      intro us cs h1 h2 h3
      cases us with
      | nil => simp at h1
      | cons u us =>
        cases cs with
        | nil => simp at h2
        | cons c cs =>
          refine .cons (h3 0 (by omega) (by simp) (by simp)) (ih us cs (by simpa using h1) (by simpa using h2) fun i a b d => ?_)
          have := h3 (i + 1) (by omega) (by simp; omega) (by simp; omega)
          simpa using this
  refine key x.cps.size acc.toList x.cps.toList (by simpa using hs) (by simp) fun i h h2 h3 => ?_
  obtain ⟨c, t, e1, e2⟩ := hi i acc.toList[i] (by rw [← Array.getElem?_toList, List.getElem?_eq_getElem h2])
  refine ⟨t, ?_⟩
  have : x.cps.toList[i] = c := by
    rw [← Array.getElem?_toList, List.getElem?_eq_getElem h3] at e1
    exact Option.some.inj e1
  rw [this]
  exact e2
def rListS : List V → Hp → VK → Prop := fun xs H Q => ∃ x : Str, xs = [.str x] ∧ x.cps.size ≤ 16777216 ∧ ∀ l, H l = none → Q (.ref l) (upd H l (.lst (sgV x)))
theorem cr_listS {X : Cx} (hc : X.calm = true) : CallR X (.type "list") rListS := by
  intro pins s σ H xs us Q I r h
  obtain ⟨x, rfl, hx, q⟩ := h
  obtain ⟨u, rfl, ru⟩ : ∃ u, us = [u] ∧ RelV (V.str x) u := by cases r with | cons a b => cases b; exact ⟨_, rfl, a⟩
  obtain ⟨t, rfl⟩ := ru
  refine call_list_str (I.ok.hd hc) x t (fun h' tk acc' c' hk hS hacc => ?_) hx
  refine ⟨.ref s.heap.objs.size, upd H s.heap.objs.size (.lst (sgV x)), I.laid (t' := tk) hk (Nat.le_refl _) ?_, rfl, q _ (I.hok.fresh (Nat.le_refl _))⟩
  exact ⟨by unfold sgV; rw [List.length_map]; exact hx, acc'.toList, c', sg_vals hacc, by simpa using hS⟩
def listSD : List D → Option (Bool × D)
  | [.str x] => if x.cps.size ≤ 16777216 then some (true, .lst (x.cps.toList.map fun c => D.str ⟨#[c]⟩)) else none
  | _ => none
theorem sgV_rep {K : PySem.W.Frag} {U : Addr → Prop} {H : Hp} : ∀ l : List Nat, RepL K U H (l.map fun c => D.str ⟨#[c]⟩) (l.map fun c => V.str ⟨#[c]⟩)
  | [] => RepL.nil
  | _ :: r => RepL.cons repStr (sgV_rep r)
theorem prim_listS {K : PySem.W.Frag} : Prim K rListS listSD := by
  intro U H ds vs Q b d hU ar e post
  unfold listSD at e
  split at e
  · split at e
    · rename_i h
      cases e
      obtain ⟨v, rfl, h1⟩ := ar1 ar
      rw [arStr h1]
      exact ⟨_, rfl, h, fun q hq => post _ _ (ext_new hq) (fun z => by cases z) fun _ => newLst hq (sgV_rep _)⟩
    · cases e
  · cases e
theorem listS_tx {l : List Nat} (h : l.length ≤ 16777216) : listSD [.str (tx l)] = some (true, .lst (l.map fun c => D.str (tx [c]))) := by
  show (if (tx l).cps.size ≤ 16777216 then _ else _) = _
  rw [if_pos (by simpa [tx] using h)]
  simp [tx]
end PyD

end

section
set_option maxHeartbeats 4000000
namespace PyD
open PySem PySem.Spec L2 PyProof.Rows
/-! t * k, t a tuple, k nought or less -/
theorem tuple_mul0 (l : Addr) (items : Array Value) (n : Nat) (dd : Option Addr) (sl : Array (Option Value)) (x : Int) (u : Tok) (c0 : (decide (x < -(2 ^ 63)) || decide (x ≥ 2 ^ 63)) = false) (c1 : (items.isEmpty || x == 1) = false) (c2 : (decide (x ≤ 0) || items.isEmpty) = true) :
    Meets (Builtin.«tuple.__mul__» ⟨[.ref l, .int x u], []⟩) (fun _ R s => s.heap.get? l = some { cls := .type "tuple", dict := dd, data := .seq items n, slots := sl } ∧
      R (.ok (.ret (Value.ref s.heap.objs.size))) { s with heap := s.heap.push { cls := Value.type "tuple", data := Data.seq #[] }, toks := s.toks }) :=
  .of_wp fun prog w A R s h => by
    obtain ⟨hp, g, d, tk, os⟩ := s
    obtain ⟨hl, h⟩ := h
    have f1 := AutoSeq1.idx_int
    have c3 : ¬ (sizeLine < (#[] : Array Value).size) := by simp
    wp_walk using wpAny_loadPart' hl
    repeat (first
      | (refine wpAny_ite_false (decide_eq_false (by rw [c0]; exact Bool.false_ne_true)) ?_; wp_walk using wpAny_loadPart' hl)
      | (refine wpAny_ite_false (decide_eq_false (by rw [c1]; exact Bool.false_ne_true)) ?_; wp_walk using wpAny_loadPart' hl)
      | (refine wpAny_ite_true (decide_eq_true (by rw [c2])) ?_; wp_walk using wpAny_loadPart' hl)
      | (refine wpAny_ite_false (decide_eq_false c3) ?_; wp_walk using wpAny_loadPart' hl))
    exact ⟨_, rfl, h⟩
def rRep0 (K : PySem.W.Frag) : R2 := fun x y H Q => ∃ l k xs, x = .ref l ∧ y = .int k ∧ SqT K H l xs ∧ xs ≠ [] ∧ k ≤ 0 ∧ -1000 ≤ k ∧ ∀ p, H p = none → Q (.ref p) (upd H p (.tup []))
theorem op_repT0 {X : Cx} : OpR X (binaryOp .Mult) (rRep0 X.K) := by
  intro pins s σ H x y v u Q I rx ry h
  obtain ⟨l, k, xs, rfl, rfl, hT, hne, h1, h2, q⟩ := h
  cases rx
  obtain ⟨t, rfl⟩ := ry
  obtain ⟨its, r, ⟨⟨cls, dd, data, sl⟩, ho, hc, n, hd⟩, hs⟩ := I.tuple hT
  simp only at hc hd
  subst hc hd
  have hi : its.toArray.isEmpty = false := by
    cases its with
    | nil =>
      have := r.length
      exact absurd (List.eq_nil_of_length_eq_zero this) hne
    | cons a b => rfl
  have c0 : (decide (k < -(2 ^ 63)) || decide (k ≥ 2 ^ 63)) = false := by
    rw [decide_eq_false (show ¬ k < -(2 ^ 63) by omega), decide_eq_false (show ¬ k ≥ 2 ^ 63 by omega)]
    rfl
  have c1 : (its.toArray.isEmpty || k == 1) = false := by
    rw [hi, Bool.false_or, beq_eq_false_iff_ne]
    omega
  have c2 : (decide (k ≤ 0) || its.toArray.isEmpty) = true := by
    rw [decide_eq_true h1, Bool.true_or]
  refine wpAny_binaryOp_repeat_ref (T := "tuple") (U := "int") (by decide) ⟨_, ho, rfl⟩ (fun s' => typeIs_int s' k t) noFill_tuple_mul F.fills_int_mul F.slot_int_rmul repeat_tuple F.slot_int_index.lookup
    (call_meets F.slot_int_rmul (typeIs_int s k t) F.entry_int_rmul (F.args_int_rmul_2 _ _) (int_rmul_tuple k t l its.toArray n dd sl)
      ⟨ho, rfl, ⟨_, ho, rfl⟩, call_meets F.slot_tuple_mul ⟨_, ho, rfl⟩ F.entry_tuple_mul (F.args_tuple_mul_2 _ _) (tuple_mul0 l its.toArray n dd sl k t c0 c1 c2) ⟨ho, ?_⟩⟩)
  refine ⟨.ref s.heap.objs.size, upd H s.heap.objs.size (.tup []), I.laid (t' := s.toks) (fun b ob e => Heap.get?_push_of_some _ e) (Nat.le_refl _) ?_, rfl, q _ (I.hok.fresh (Nat.le_refl _))⟩
  exact ⟨by simp, [], .nil, ⟨_, Heap.get?_push_size _ rfl, rfl, _, rfl⟩⟩
def mulZD : List D → Option (Bool × D)
  | [.tup a, .int k] => if 0 < a.length ∧ k ≤ 0 ∧ -1000 ≤ k then some (false, .tup []) else mulVD [.tup a, .int k]
  | ds => mulVD ds
def rMulZ (K : PySem.W.Frag) : R2 := fun x y H Q => rMulV K x y H Q ∨ rRep0 K x y H Q
theorem op_mulZ {X : Cx} : OpR X (binaryOp .Mult) (rMulZ X.K) := OpR.or op_mulV op_repT0
theorem prim_mulZ {K : PySem.W.Frag} : Prim K (r2 (rMulZ K)) mulZD := by
  intro U H ds vs Q b d hU ar e post
  unfold mulZD at e
  split at e
  · split at e
    · rename_i hk
      cases e
      obtain ⟨v, w, rfl, h1, h2⟩ := ar2 ar
      obtain ⟨p1, xs, rfl, n1, q1, r1⟩ := arTup h1
      rw [arInt h2]
      refine ⟨_, _, rfl, .inr ⟨p1, _, xs, rfl, rfl, SqT.of q1, fun z => ?_, hk.2.1, hk.2.2, fun q hq => post _ _ (ext_new hq) (fun _ => newTup hU hq RepL.nil) (fun z => by cases z)⟩⟩
      have := r1.len
      rw [z] at this
      simp at this
      rw [← this] at hk
      omega
    · obtain ⟨x, y, e1, q⟩ := prim_mulV (K := K) U H _ vs Q b d hU ar e post
      exact ⟨x, y, e1, .inl q⟩
  · obtain ⟨x, y, e1, q⟩ := prim_mulV (K := K) U H _ vs Q b d hU ar e post
    exact ⟨x, y, e1, .inl q⟩
end PyD

end

section
set_option maxHeartbeats 2000000
namespace PyD
open PySem PySem.Spec L2 PyProof.Rows
/-! t[::-1], t a tuple -/
section
variable {prog : Program} {w : World} {A : Around} {E : Value → Shared → Prop} {s : Shared}
theorem down_at (n : Nat) : Builtin.Slice.sliceAdjust none none (-1) (n : Int) = ((n : Int) - 1, -1) := rfl
theorem down_many (n : Nat) : Builtin.Slice.slicePlaces ((n : Int) - 1) (-1) (-1) = n := by
  unfold Builtin.Slice.slicePlaces
  have h1 : ¬ ((-1 : Int) > 0) := by decide
  rw [if_neg h1]
  by_cases h : (n : Int) - 1 > -1
  · rw [if_pos h]
    show ((((n : Int) - 1) - -1 - 1) / 1 + 1).toNat = n
    rw [Int.ediv_one]
    omega
  · rw [if_neg h]
    show (0 : Int).toNat = n
    omega
theorem applied_down {sl : Addr} {t : Tok} {n : Nat} {Q : Int × Int × Nat → Shared → Prop} (hs : s.heap.IsSliceOf sl .none .none (.int (-1) t)) (h : Q ((n : Int) - 1, -1, n) s) :
    wpAny (model prog w) A (Builtin.Slice.sliceApplied (.ref sl) (pure (n : Int))) Q E s := by
  obtain ⟨os, hos, hcs, hds⟩ := id hs
  unfold Builtin.Slice.sliceApplied Builtin.Slice.sliceFields
  refine wpAny_bind (wpAny_bind (wpAny_field hos hds (x := .none) rfl (wpAny_bind (wpAny_field hos hds (x := .none) rfl (wpAny_bind (wpAny_field hos hds (x := .int (-1) t) rfl (wpAny_pure ?_)))))))
  refine wpAny_bind (HT.slicePart_ (.int (-1) t) ?_)
  show wpAny _ _ (if ((-1 : Int) == 0) = true then _ else _) _ _ s
  rw [if_neg (by decide)]
  refine wpAny_bind (HT.slicePart_ .none (wpAny_bind (HT.slicePart_ .none (wpAny_bind (wpAny_pure ?_)))))
  show wpAny _ _ (match Builtin.Slice.sliceAdjust none none (-1) (n : Int) with | (lo, hi) => pure (lo, (-1 : Int), Builtin.Slice.slicePlaces lo hi (-1))) _ _ s
  rw [down_at]
  show wpAny _ _ (pure ((n : Int) - 1, (-1 : Int), Builtin.Slice.slicePlaces ((n : Int) - 1) (-1) (-1))) _ _ s
  rw [down_many]
  exact wpAny_pure h
theorem down_take (l : List Value) : ((List.range l.length).filterMap fun (m : Nat) => l.toArray[(((l.length : Int) - 1) + (m : Int) * -1).toNat]?).toArray = l.reverse.toArray := by
  congr 1
  have key : ∀ n, n ≤ l.length → ((List.range n).filterMap fun (m : Nat) => l.toArray[(((l.length : Int) - 1) + (m : Int) * -1).toNat]?) = l.reverse.take n := by
    intro n
    induction n with
    | zero => intro _; rfl
    | succ n ih =>
      intro hn
      rw [List.range_succ, List.filterMap_append, ih (by omega), List.take_succ]
      congr 1
      have h2 : l.toArray[(((l.length : Int) - 1) + (n : Int) * -1).toNat]? = l.reverse[n]? := by
        rw [List.getElem?_reverse (by omega), show (((l.length : Int) - 1) + (n : Int) * -1).toNat = l.length - 1 - n by omega]
        simp
      rw [List.filterMap_cons, h2]
      cases l.reverse[n]? <;> rfl
  rw [key l.length (Nat.le_refl _), List.take_of_length_le (by simp)]
theorem getItem_down {t sl : Addr} {l : List Value} {u : Tok} {Q : Value → Shared → Prop} (ht : IsTup s.heap t l.toArray) (hs : s.heap.IsSliceOf sl .none .none (.int (-1) u))
    (h : Q (.ref s.heap.objs.size) { s with heap := s.heap.push { cls := .type "tuple", data := .seq l.reverse.toArray } }) (hsz : l.length ≤ sizeLine) : wpAny (model prog w) A (getItem (.ref t) (.ref sl)) Q E s := by
  have big : sizeOk (.seq l.reverse.toArray) := by
    show l.reverse.toArray.size ≤ sizeLine
    rw [List.size_toArray, List.length_reverse]
    exact hsz
  obtain ⟨os, hos, hcs, hds⟩ := id hs
  have hT : s.TypeIs (.ref sl) "slice" := ⟨os, hos, hcs⟩
  unfold getItem
  try with_reducible refine wpAny_holding ?_
  first | refine wpAny_bind (wpAny_pure ?_) | skip
  refine wpAny_bind (wpAny_sequenceKey ht.typeIs (by decide) ?_)
  refine wpAny_bind (wpAny_callSpecial?_slot (name := Str.ofString "__getitem__") ht.typeIs PyProof.Rows.slot_tuple_getitem
    (wpAny_call_entry PyProof.Rows.slot_tuple_getitem ht.typeIs entry_tuple_getitem ?_ (args_tuple_getitem _ _)))
  show wpAny _ _ (Builtin.Tuple.tupleItemsOf (.ref t) >>= _) _ _ s
  refine wpAny_bind (tupleItemsOf_ ht ?_)
  refine wpAny_bind (wpAny_typeOf hT ?_)
  rw [if_pos (by decide)]
  have hn : l.toArray.size = l.length := List.size_toArray ..
  rw [hn]
  refine wpAny_bind (applied_down hs ?_)
  show wpAny _ _ (if (((l.length : Int) - 1) == 0 && (-1 : Int) == 1 && l.length == l.toArray.size) = true then _ else _) _ _ s
  rw [if_neg (by
    have e : ((-1 : Int) == 1) = false := by decide
    rw [e, Bool.and_false, Bool.false_and]
    exact Bool.false_ne_true), down_take]
  first
    | exact wpAny_bind (m := Builtin.Tuple.tupleExact _) (wpAny_newObj_type (wpAny_pure ⟨_, rfl, wpAny_pure h⟩) big)
    | exact wpAny_bind (m := Builtin.Tuple.tupleExact _) (wpAny_newObj_type (wpAny_bind (wpAny_pure (wpAny_pure ⟨_, rfl, wpAny_pure h⟩))) big)
    | exact wpAny_bind (wpAny_bind (m := Builtin.Tuple.tupleExact _) (wpAny_newObj_type (wpAny_pure (wpAny_pure ⟨_, rfl, wpAny_pure h⟩)) big))
    | exact wpAny_bind (wpAny_bind (m := Builtin.Tuple.tupleExact _) (wpAny_newObj_type (wpAny_pure ⟨_, rfl, wpAny_pure h⟩) big))
end
def tRevT (K : PySem.W.Frag) (te : TE) (ts : TO) : TE := fun σ H Q => te σ H fun x H1 => ts σ H1 fun l H2 => l = some (-1) ∧ ∃ (a : Addr) (xs : List V), x = .ref a ∧ SqT K H2 a xs ∧ ∀ p, H2 p = none → Q (.ref p) (upd H2 p (.tup xs.reverse))
theorem pe_revT {X : Cx} {te : TE} {ts : TO} {e st : Expr} {p2 pos : Pos} (he : PE X e te) (hst : PO X (some st) ts) : PE X (.Subscript e (.Slice none none (some st) p2) pos) (tRevT X.K te ts) := by
  constructor
  intro pins s σ H Q I h
  refine Subscript_ (thn (he.run pins s σ H _ I h) fun v s1 ⟨x, H1, I1, r1, q1⟩ => PySem.wpAny_Slice ?_)
  rw [evalPart_none]
  refine wpAny_pure (wpAny_pure (thn (hst.run pins s1 σ H1 _ I1 q1) fun vt s2 ⟨l, H2, I2, pt, q2⟩ => ?_))
  obtain ⟨rfl, a, xs, rfl, hx, q⟩ := q2
  cases r1
  obtain ⟨lt, rfl, hlt⟩ := IsPart.raw pt
  cases lt with
  | none => cases hlt
  | some lt =>
    obtain ⟨i, u⟩ := lt
    have hi : i = -1 := Option.some.inj hlt
    subst hi
    have I4 : Inv X pins σ H2 { s2 with heap := s2.heap.push { cls := .type "slice", data := .fields #[.none, .none, partValue (some (-1, u))] } } := I2.kept (t' := s2.toks) fun b ob q => Heap.get?_push_of_some _ q
    obtain ⟨its, r, ht, hz⟩ := I4.tuple hx
    have hg : wpAny (model X.prog X.w) X.A (getItem (.ref a) (.ref s2.heap.objs.size)) (EP X pins σ Q) X.xe { s2 with heap := s2.heap.push { cls := .type "slice", data := .fields #[.none, .none, partValue (some (-1, u))] } } := by
      refine getItem_down (u := u) ht ⟨_, Heap.get?_push_size _ rfl, rfl, rfl⟩ ?_ (by rw [← r.length]; exact hz)
      refine ⟨.ref (s2.heap.push { cls := .type "slice", data := .fields #[.none, .none, partValue (some (-1, u))] }).objs.size, _, I4.laid (t' := s2.toks) (o := .tup xs.reverse) (fun b ob q => Heap.get?_push_of_some _ q) (Nat.le_refl _) ?_, rfl, q _ (I4.hok.fresh (Nat.le_refl _))⟩
      exact ⟨by rw [List.length_reverse]; exact hz, its.reverse, vals_rev r, ⟨_, Heap.get?_push_size _ rfl, rfl, _, rfl⟩⟩
    show wpAny (model X.prog X.w) X.A (subscriptTail e (.Slice none none (some st) p2) (.ref a) (.ref s2.heap.objs.size)) (EP X pins σ Q) X.xe { s2 with heap := s2.heap.push { cls := .type "slice", data := .fields #[.none, .none, partValue (some (-1, u))] } }
    exact tail_any (ops := [.ref a, .ref s2.heap.objs.size]) ht.typeIs PyProof.Rows.slot_tuple_getitem.lookup hg (by with_unfolding_all rfl)
def rRevT (K : PySem.W.Frag) : List V → Hp → VK → Prop := fun vs H Q => ∃ (a : Addr) (xs : List V), vs = [.ref a, .int (-1)] ∧ SqT K H a xs ∧ ∀ p, H p = none → Q (.ref p) (upd H p (.tup xs.reverse))
def revTD : List D → Option (Bool × D)
  | [.tup ds, .int i] => if i = -1 then some (false, .tup ds.reverse) else none
  | _ => none
theorem prim_revT {K : PySem.W.Frag} : Prim K (rRevT K) revTD := by
  intro U H ds vs Q b d hU ar e post
  unfold revTD at e
  split at e
  · split at e
    · rename_i h
      cases e
      obtain ⟨v, w, rfl, h1, h2⟩ := ar2 ar
      obtain ⟨p, ys, rfl, _, hp, r⟩ := arTup h1
      rw [arInt h2, h]
      exact ⟨p, ys, rfl, SqT.of hp, fun q hq => post _ _ (ext_new hq) (fun _ => newTup hU hq (repL_rev r)) (fun z => by cases z)⟩
    · cases e
  · cases e
theorem e_revT {X : Cx} {W : WX} {e st : Expr} {f g : M R} {p2 pos : Pos} (he : PE X e (RdE X.K W f)) (hs : PE X st (RdE X.K W g)) : PE X (.Subscript e (.Slice none none (some st) p2) pos) (RdE X.K W (opF revTD (two f g))) :=
  pe_imp (pe_revT he (po_some hs)) fun σ H Q m => by
    refine RdE.mono (fun v H1 h => ?_) (imp2 (opImp prim_revT m))
    refine RdE.mono (fun w H2 h => ?_) h
    obtain ⟨a, xs, hz, h1, h2⟩ := h
    cases hz
    exact ⟨-1, rfl, rfl, a, xs, rfl, h1, h2⟩
theorem revT_tup {ds : List D} : revTD [.tup ds, .int (-1)] = some (false, .tup ds.reverse) := rfl
end PyD

end

section
set_option maxHeartbeats 2000000
namespace PyD
open PySem PySem.Spec L2 PyProof.Rows
/-! max(t, u), t and u pairs of whole numbers -/
section
variable {prog : Program} {w : World} {A : Around} {R : Result → Shared → Prop} {I : Addr} {fp wr : List Addr} {P : Nat → Value → Prop} {St : Nat → Heap → Prop}
theorem max_name : (toString "max" ++ toString ".loop" : String) = "max.loop" := by decide
theorem mx_end (W : Walks prog w A.in1 I fp wr 2 P St) (S : Addr) (hSw : S ∉ wr) {s : Shared} {vb : Value} {c : Nat} (hst : St 2 s.heap) (hS : s.heap.get? S = some { cls := .type "list", dict := none, data := .seq #[vb, vb] c, slots := #[] })
    (hR : ∀ h' tk, (∀ b o, b ∉ wr → b ≠ S → s.heap.get? b = some o → h'.get? b = some o) → R (.ok (.ret vb)) { s with heap := h', toks := tk }) : codeAny (model prog w) A (.builtin "max.loop" ⟨[.ref I, .none, .ref S], []⟩) R s := by
  refine codeAny_builtin F.entry_max_loop ?_
  rw [Around.under_plainId F.plain_max_loop _]
  show wpAny _ A.in1 (seqItems? (.ref S) >>= _) _ _ s
  refine wpAny_bind (wpAny_seqItems hS rfl ?_)
  show wpAny _ A.in1 (tryCatch (pyNext (.ref I)) _ >>= _) _ _ s
  refine wpAny_bind (wpAny_tryCatch (W.done s _ _ hst fun h' tk k => ?_))
  have hS' := k S _ hSw hS
  show wpAny _ A.in1 (updateSeq S (fun _ => #[]) >>= _) _ _ _
  refine wpAny_bind (wpAny_updateSeq hS' rfl (wpAny_bind (wpAny_letGo (wpAny_pure ?_))))
  exact hR _ tk fun b o h1 h2 e => (Heap.get?_update_other _ _ (Ne.symm h2)).trans (k b o h1 e)
theorem mx_two (W : Walks prog w A.in1 I fp wr 2 P St) (S : Addr) (hSf : S ∉ fp) {bt : Bool} {s : Shared} {v0 : Value} {c : Nat} (hst : St 1 s.heap) (h0 : P 0 v0) (hS : s.heap.get? S = some { cls := .type "list", dict := none, data := .seq #[v0, v0] c, slots := #[] })
    (cmp : ∀ (v1 : Value) (s' : Shared) (Q : Value → Shared → Prop) (E : Value → Shared → Prop), P 1 v1 → (∀ b o, b ∉ wr → b ≠ S → s.heap.get? b = some o → s'.heap.get? b = some o) → Q (.bool bt) s' → wpAny (model prog w) A.in1 (richCompare .Gt v1 v0) Q E s')
    (hR : ∀ v h' tk, P (if bt = true then 1 else 0) v → (∀ b o, b ∉ wr → b ≠ S → s.heap.get? b = some o → h'.get? b = some o) → R (.ok (.ret v)) { s with heap := h', toks := tk }) : codeAny (model prog w) A (.builtin "max.loop" ⟨[.ref I, .none, .ref S], []⟩) R s := by
  have hSw : S ∉ wr := fun h => hSf (W.sub _ h)
  refine codeAny_builtin F.entry_max_loop ?_
  rw [Around.under_plainId F.plain_max_loop _]
  show wpAny _ A.in1 (seqItems? (.ref S) >>= _) _ _ s
  refine wpAny_bind (wpAny_seqItems hS rfl ?_)
  show wpAny _ A.in1 (tryCatch (pyNext (.ref I)) _ >>= _) _ _ s
  refine wpAny_bind (wpAny_tryCatch (W.item 1 s _ _ (by decide) hst fun v h' tk hP hst' k => ?_))
  have hS' := k S _ hSw hS
  show wpAny _ A.in1 (tryCatch (holding [v, v] (richCompare .Gt v v0 >>= _)) _ >>= _) _ _ _
  refine wpAny_bind (wpAny_tryCatch (wpAny_holding (wpAny_bind (cmp v _ _ _ hP (fun b o h1 _ e => k b o h1 e) ?_))))
  refine wpAny_bind (wpAny_holding (wpAny_truthy_bool ?_))
  refine wpAny_bind (wpAny_letGo (wpAny_pure ?_))
  cases bt with
  | true =>
    simp only [if_true] at hR ⊢
    refine wpAny_bind (wpAny_updateSeq hS' rfl (wpAny_bind (wpAny_letGo ?_)))
    rw [max_name]
    refine wpAny_pure ⟨plainId_quiet F.plain_max_loop _, mx_end W S hSw (W.frame _ _ _ hst' fun b hbf o e => ?_) (Heap.get?_update_self _ hS' rfl) fun h2 tk2 k2 => ?_⟩
    · exact (Heap.get?_update_other _ _ (fun h : S = b => hSf (h ▸ hbf))).trans e
    · exact hR v h2 tk2 hP fun b o h1 h3 e => k2 b o h1 h3 ((Heap.get?_update_other _ _ (Ne.symm h3)).trans (k b o h1 e))
  | false =>
    simp only [Bool.false_eq_true, if_false] at hR ⊢
    refine wpAny_bind (wpAny_letGo ?_)
    rw [max_name]
    exact wpAny_pure ⟨plainId_quiet F.plain_max_loop _, mx_end W S hSw hst' hS' fun h2 tk2 k2 => hR v0 h2 tk2 h0 fun b o h1 h3 e => k2 b o h1 h3 (k b o h1 e)⟩
theorem mx_one (W : Walks prog w A.in1 I fp wr 2 P St) (S : Addr) (hSf : S ∉ fp) {bt : Bool} {s : Shared} {c : Nat} (hst : St 0 s.heap) (hS : s.heap.get? S = some { cls := .type "list", dict := none, data := .seq #[] c, slots := #[] })
    (cmp : ∀ (v0 v1 : Value) (s' : Shared) (Q : Value → Shared → Prop) (E : Value → Shared → Prop), P 0 v0 → P 1 v1 → (∀ b o, b ∉ wr → b ≠ S → s.heap.get? b = some o → s'.heap.get? b = some o) → Q (.bool bt) s' → wpAny (model prog w) A.in1 (richCompare .Gt v1 v0) Q E s')
    (hR : ∀ v h' tk, P (if bt = true then 1 else 0) v → (∀ b o, b ∉ wr → b ≠ S → s.heap.get? b = some o → h'.get? b = some o) → R (.ok (.ret v)) { s with heap := h', toks := tk }) : codeAny (model prog w) A (.builtin "max.loop" ⟨[.ref I, .none, .ref S], []⟩) R s := by
  have hSw : S ∉ wr := fun h => hSf (W.sub _ h)
  refine codeAny_builtin F.entry_max_loop ?_
  rw [Around.under_plainId F.plain_max_loop _]
  show wpAny _ A.in1 (seqItems? (.ref S) >>= _) _ _ s
  refine wpAny_bind (wpAny_seqItems hS rfl ?_)
  show wpAny _ A.in1 (tryCatch (pyNext (.ref I)) _ >>= _) _ _ s
  refine wpAny_bind (wpAny_tryCatch (W.item 0 s _ _ (by decide) hst fun v h' tk hP hst' k => ?_))
  have hS' := k S _ hSw hS
  show wpAny _ A.in1 (updateSeq S (fun _ => #[v, v]) >>= _) _ _ _
  refine wpAny_bind (wpAny_updateSeq hS' rfl ?_)
  rw [max_name]
  have up : ∀ b o, b ∉ wr → b ≠ S → s.heap.get? b = some o → (h'.update S (Obj.mapSeq fun _ => #[v, v])).get? b = some o := fun b o h1 h2 e => (Heap.get?_update_other _ _ (Ne.symm h2)).trans (k b o h1 e)
  refine wpAny_pure ⟨plainId_quiet F.plain_max_loop _, mx_two W S hSf (bt := bt) (W.frame _ _ _ hst' fun b hbf o e => ?_) hP (Heap.get?_update_self _ hS' rfl) (fun v1 s' Q E h1 kk hq => ?_) fun v2 h2 tk2 hv kk => ?_⟩
  · exact (Heap.get?_update_other _ _ (fun h : S = b => hSf (h ▸ hbf))).trans e
  · exact cmp v v1 s' Q E hP h1 (fun b o z1 z2 e => kk b o z1 z2 (up b o z1 z2 e)) hq
  · exact hR v2 h2 tk2 hv fun b o z1 z2 e => kk b o z1 z2 (up b o z1 z2 e)
end
section
variable {prog : Program} {w : World} {A : Around} {E : Value → Shared → Prop} {s : Shared}
theorem mx_pair {a b : Addr} {bt : Bool} {Q : Value → Shared → Prop} (hh : A.handled = none) (ha : a < s.heap.objs.size) (hb : b < s.heap.objs.size)
    (cmp : ∀ (s' : Shared) (Q : Value → Shared → Prop) (E : Value → Shared → Prop), (∀ c o, s.heap.get? c = some o → s'.heap.get? c = some o) → Q (.bool bt) s' → wpAny (model prog w) A.in1 (richCompare .Gt (.ref b) (.ref a)) Q E s')
    (h : ∀ h' tk, (∀ c o, s.heap.get? c = some o → h'.get? c = some o) → Q (if bt = true then .ref b else .ref a) { s with heap := h', toks := tk }) : wpAny (model prog w) A (call (.builtin "max") [.ref a, .ref b]) Q E s := by
  refine call_function_tree F.kind_max F.plain_max F.entry_max (F.args_max2 _ _) ?_
  show wpAny _ A.in1 (Builtin.Builtins.bindParams "max" ["key", "default"] 0 ⟨[], []⟩ >>= _) _ _ s
  refine wpAny_bind (wpAny_of_eq (show Builtin.Builtins.bindParams "max" ["key", "default"] 0 ⟨[], []⟩ = pure [none, none] from rfl) ?_)
  show wpAny _ A.in1 (newTuple [.ref a, .ref b] >>= _) _ _ s
  refine wpAny_bind (wpAny_newObj_type ?_)
  have hT : (s.heap.push { cls := .type "tuple", data := .seq #[.ref a, .ref b] }).IsTuple s.heap.objs.size #[.ref a, .ref b] := ⟨_, Heap.get?_push_size _ rfl, rfl, 0, rfl⟩
  refine wpAny_bind (wpAny_pyIter_tuple hT ?_)
  have n1 : (s.heap.push { cls := .type "tuple", data := .seq #[.ref a, .ref b] }).objs.size = s.heap.objs.size + 1 := Heap.size_push ..
  refine wpAny_bind (wpAny_newObj_type ?_)
  rw [max_name]
  have W := Walks.tuple (prog := prog) (w := w) (A := A.in1) hh (s.heap.push { cls := .type "tuple", data := .seq #[.ref a, .ref b] }).objs.size s.heap.objs.size (by rw [n1]; exact Nat.ne_of_lt (Nat.lt_succ_self _)) #[.ref a, .ref b]
  generalize hH1 : s.heap.push ({ cls := .type "tuple", data := .seq #[.ref a, .ref b] } : Obj) = H1 at *
  have k1 : ∀ c o, s.heap.get? c = some o → H1.get? c = some o := fun c o e => by rw [← hH1]; exact Heap.get?_push_of_some _ e
  generalize hH2 : H1.push ({ cls := .type "tuple_iterator", data := .fields #[.ref s.heap.objs.size, .int 0 0] } : Obj) = H2 at *
  have n2 : H2.objs.size = H1.objs.size + 1 := by rw [← hH2]; exact Heap.size_push ..
  have k2 : ∀ c o, s.heap.get? c = some o → H2.get? c = some o := fun c o e => by rw [← hH2]; exact Heap.get?_push_of_some _ (k1 c o e)
  have st0 : H2.IsTupleIter H1.objs.size s.heap.objs.size 0 ∧ H2.IsTuple s.heap.objs.size #[.ref a, .ref b] := by
    rw [← hH2]
    exact ⟨⟨_, Heap.get?_push_size _ rfl, rfl, rfl⟩, hT.push _⟩
  have hSf : H2.objs.size ∉ [H1.objs.size, s.heap.objs.size] := fun z => by
    rcases List.mem_cons.mp z with z | z
    · exact Nat.succ_ne_self _ (n2.symm.trans z)
    · have := List.mem_singleton.mp z
      rw [n2, n1] at this
      exact absurd this (Nat.ne_of_gt (Nat.lt_succ_of_lt (Nat.lt_succ_self _)))
  have k3 : ∀ (o' : Obj) c o, s.heap.get? c = some o → (H2.push o').get? c = some o := fun o' c o e => Heap.get?_push_of_some _ (k2 c o e)
  have old : ∀ c o, s.heap.get? c = some o → c ∉ [H1.objs.size] ∧ c ≠ H2.objs.size := fun c o e => by
    have h := Heap.lt_size e
    have h1 : c < H1.objs.size := by rw [n1]; exact Nat.lt_succ_of_lt h
    have h2 : c < H2.objs.size := by rw [n2]; exact Nat.lt_succ_of_lt h1
    exact ⟨fun z => Nat.ne_of_lt h1 (List.mem_singleton.mp z), Nat.ne_of_lt h2⟩
  refine wpAny_pure ⟨plainId_quiet F.plain_max_loop _, mx_one W H2.objs.size hSf (bt := bt) (W.frame 0 H2 _ st0 fun b _ o e => Heap.get?_push_of_some _ e) (Heap.get?_push_size _ rfl) (fun v0 v1 s' Q E h0 h1 kk hq => ?_) fun v h' tk hv kk => ?_⟩
  · obtain rfl : Value.ref a = v0 := by simpa using h0
    obtain rfl : Value.ref b = v1 := by simpa using h1
    exact cmp s' Q E (fun c o e => kk c o (old c o e).1 (old c o e).2 (k3 _ c o e)) hq
  · have e : v = if bt = true then Value.ref b else Value.ref a := by
      cases bt
      · have : Value.ref a = v := by simpa using hv
        exact this.symm
      · have : Value.ref b = v := by simpa using hv
        exact this.symm
    rw [e]
    exact h h' tk fun c o e => kk c o (old c o e).1 (old c o e).2 (k3 _ c o e)
end
def lex2 (i j k m : Int) : Bool := if k = i then decide (j < m) else decide (i < k)
def rMaxT (K : PySem.W.Frag) : List V → Hp → VK → Prop := fun xs H Q => ∃ (a b : Addr) (i j k m : Int), xs = [.ref a, .ref b] ∧ SqT K H a [.int i, .int j] ∧ SqT K H b [.int k, .int m] ∧ Q (if lex2 i j k m = true then .ref b else .ref a) H
theorem cr_max2T {X : Cx} (hc : X.calm = true) (hu : X.A.units + 64 < cLine) : CallR X (.builtin "max") (rMaxT X.K) := by
  intro pins s σ H xs us Q I r h
  obtain ⟨a, b, i, j, k, m, rfl, hA, hB, q⟩ := h
  obtain ⟨u, v, rfl, ru, rv⟩ := vals2 r
  cases ru
  cases rv
  obtain ⟨ia, ra, pa, za⟩ := I.tuple hA
  obtain ⟨ib, rb, pb, zb⟩ := I.tuple hB
  obtain ⟨x1, x2, rfl, ⟨t1, rfl⟩, ⟨t2, rfl⟩⟩ := vals2 ra
  obtain ⟨y1, y2, rfl, ⟨u1, rfl⟩, ⟨u2, rfl⟩⟩ := vals2 rb
  obtain ⟨oa, ha, ca, na, da⟩ := id pa
  obtain ⟨ob, hb, cb, nb, db⟩ := id pb
  refine mx_pair (bt := lex2 i j k m) (I.ok.hd hc) (Heap.lt_size ha) (Heap.lt_size hb) (fun s' Q E kk hq => ?_) fun h' tk kk => ?_
  · have g := Ob.RcOp.tuples_gt (A := X.A.in1) (s := s') (l := b) (b := a) (items := #[.int k u1, .int m u2]) (items2 := #[.int i t1, .int j t2]) (e := fun z => if z = 0 then k == i else m == j) (r := fun z => if z = 0 then decide (i < k) else decide (j < m))
      ⟨ob, kk _ _ hb, cb, nb, db⟩ ⟨oa, kk _ _ ha, ca, na, da⟩ (by have : X.A.in1.units ≤ X.A.units + 2 := by simp [Around.in1]
                                                                  omega)
      (fun z h1 h2 => by
        match z, h1 with
        | 0, _ => exact SeqAt.EqAt.int_int k u1 i t1
        | 1, _ => exact SeqAt.EqAt.int_int m u2 j t2
        | z + 2, h1 => simp at h1; omega)
      (fun z h1 h2 _ => by
        match z, h1 with
        | 0, _ => exact Ob.RcOp.gt_int k i u1 t1
        | 1, _ => exact Ob.RcOp.gt_int m j u2 t2
        | z + 2, h1 => simp at h1; omega)
    refine g _ _ E Q ?_
    have e : Ob.lexAt (fun z => if z = 0 then k == i else m == j) (fun z => if z = 0 then decide (i < k) else decide (j < m)) (decide ((#[Value.int k u1, .int m u2] : Array Value).size > (#[Value.int i t1, .int j t2] : Array Value).size)) 0 (min (#[Value.int k u1, .int m u2] : Array Value).size (#[Value.int i t1, .int j t2] : Array Value).size) = lex2 i j k m := by
      show Ob.lexAt _ _ (decide (2 > 2)) 0 2 = _
      rw [Ob.lexAt_succ, Ob.lexAt_succ, Ob.lexAt_zero]
      unfold lex2
      by_cases h1 : k = i
      · subst h1
        by_cases h2 : m = j
        · subst h2
          simp
        · simp [h2]
      · simp [h1]
    rw [e]
    exact hq
  · refine ⟨if lex2 i j k m = true then .ref b else .ref a, H, I.kept (t' := tk) kk, ?_, q⟩
    cases lex2 i j k m <;> rfl
def max2TD : List D → Option (Bool × D)
  | [.tup [.int i, .int j], .tup [.int k, .int m]] => some (false, if lex2 i j k m = true then .tup [.int k, .int m] else .tup [.int i, .int j])
  | _ => none
theorem prim_max2T {K : PySem.W.Frag} : Prim K (rMaxT K) max2TD := by
  intro U H ds vs Q b d hU ar e post
  unfold max2TD at e
  split at e
  · rename_i i j k m
    cases e
    obtain ⟨v, w, rfl, h1, h2⟩ := ar2 ar
    have h1' := h1
    have h2' := h2
    obtain ⟨p, ys, rfl, _, hp, r⟩ := arTup h1
    obtain ⟨p2, ys2, rfl, _, hp2, r2⟩ := arTup h2
    have e1 : ys = [.int i, .int j] := by
      obtain ⟨v, us, rfl, q1, r⟩ := r.inv
      obtain ⟨w, us, rfl, q2, r⟩ := r.inv
      rw [r.nil_inv, arInt q1.arep, arInt q2.arep]
    have e2 : ys2 = [.int k, .int m] := by
      obtain ⟨v, us, rfl, q1, r⟩ := r2.inv
      obtain ⟨w, us, rfl, q2, r⟩ := r.inv
      rw [r.nil_inv, arInt q1.arep, arInt q2.arep]
    subst e1 e2
    refine ⟨p, p2, i, j, k, m, rfl, SqT.of hp, SqT.of hp2, post _ H (Ext.refl H) (fun _ => ?_) (fun z => by cases z)⟩
    cases lex2 i j k m
    · exact h1'
    · exact h2'
  · cases e
end PyD

end

namespace PyD
open PySem PySem.Spec L2 PyProof.Rows
/-! xs[a:b] = ys, xs an own list, ys another list -/
def slcU : D → Option Int → Option Int → D → Option D
  | .lst xs, some a, some c, .lst ys => if 0 ≤ a ∧ a ≤ c ∧ c ≤ xs.length ∧ xs.length + ys.length ≤ 16777216 then some (.lst (xs.take a.toNat ++ ys ++ xs.drop c.toNat)) else none
  | _, _, _, _ => none
def slsF (i : Nat) (fa fb fv : M R) (u : D → Option Int → Option Int → D → Option D) : En → Fl := fun en => match fv en with
  | .ok r en1 => (match stoD r with
    | some d => (match en1[i]? with
      | some (.o _ _) => (match prtF (some fa) en1 with
        | .ok l en2 => (match prtF (some fb) en2 with
          | .ok h en3 => (match en3[i]? with
            | some (.o b d0) => (match u d0 l h d with
              | some d1 => .nx (en3.set i (.o b d1))
              | none => .bad)
            | _ => .bad)
          | .exc x en3 => .exc x en3
          | .bad => .bad)
        | .exc x en2 => .exc x en2
        | .bad => .bad)
      | _ => .bad)
    | none => .bad)
  | .exc x en1 => .exc x en1
  | .bad => .bad
def gSlc (to : TE) (ta tb : TO) : TG := fun v σ H Q => to σ H fun o H1 => ta σ H1 fun l H2 => tb σ H2 fun h H3 =>
  ∃ (p q : Addr) (xs ys : List V) (a c : Int), o = .ref p ∧ v = .ref q ∧ l = some a ∧ h = some c ∧ H3 p = some (.lst xs) ∧ H3 q = some (.lst ys) ∧ p ≠ q ∧ 0 ≤ a ∧ a ≤ c ∧ c ≤ xs.length ∧
    xs.length + ys.length ≤ sizeLine ∧ Q σ (upd H3 p (.lst (xs.take a.toNat ++ ys ++ xs.drop c.toNat)))
theorem pg_slc {X : Cx} {o ea eb : Expr} {to : TE} {ta tb : TO} {p2 pos : Pos} (ho : PE X o to) (hl : PO X (some ea) ta) (hu : PO X (some eb) tb)
    (ha : ∀ v, assign (.Subscript o (.Slice (some ea) (some eb) none p2) pos) X.env v = (do
      let ov ← holding [v] (eval o X.env)
      let iv ← holding [v, ov] (eval (.Slice (some ea) (some eb) none p2) X.env)
      standAt pos
      holding [v, ov, iv] (setItem ov iv v)
      release [iv, v, ov] []) := by intro _; rfl) : PG X (.Subscript o (.Slice (some ea) (some eb) none p2) pos) (gSlc to ta tb) := by
  refine ⟨fun pins s σ H v u Q I r h => ?_⟩
  rw [ha]
  refine wpAny_bind (wpAny_holding (thn (ho.run pins s σ H _ I h) fun ov s1 ⟨x, H1, I1, r1, q1⟩ => ?_))
  refine wpAny_bind (wpAny_holding (PySem.wpAny_Slice ?_))
  refine thn (hl.run pins s1 σ H1 _ I1 q1) fun va s2 ⟨l, H2, I2, pa, q2⟩ => ?_
  refine thn (hu.run pins s2 σ H2 _ I2 q2) fun vb s3 ⟨h, H3, I3, pb, q3⟩ => ?_
  rw [evalPart_none]
  refine wpAny_pure ?_
  obtain ⟨p, q, xs, ys, a, c, rfl, rfl, rfl, rfl, h1, h2, ne, g1, g2, g3, g4, q4⟩ := q3
  have I4 : Inv X pins σ H3 { s3 with heap := s3.heap.push { cls := .type "slice", data := .fields #[va, vb, .none] } } := I3.kept (t' := s3.toks) fun b ob z => Heap.get?_push_of_some _ z
  cases r1
  cases r
  have ra : RelV (.int a) va := by
    cases pa with
    | int i t => exact ⟨t, rfl⟩
  have rb : RelV (.int c) vb := by
    cases pb with
    | int i t => exact ⟨t, rfl⟩
  refine wpAny_bind (wpAny_standAt (wpAny_bind (wpAny_holding ?_)))
  exact set_slice I4 h1 h2 ne ⟨_, Heap.get?_push_size _ rfl, rfl, rfl⟩ ra rb g1 g2 g3 g4 fun s5 I5 => wpAny_release ⟨σ, _, I5, q4⟩
section
variable {K : PySem.W.Frag} {W : WX} {B B' B1 : Addr → Prop} {U U' : Addr → Prop} {H H' H1 : Hp} {σ σ' σ1 : L2.St} {en en' en1 : En} {d : D} {v : V} {i : Nat} {p : Addr} {ds : List D} {fs : M (List R)} {Q : VK} {D0 : Ends}
theorem slsImp {fa fb fv : M R} (m : RdS K W (slsF i fa fb fv slcU) D0 σ H) : tAsg (RdE K W fv) (gSlc (tVar i) (poT K W (some fa)) (poT K W (some fb))) D0 σ H := by
  obtain ⟨B, en, G, m⟩ := RdS.qs m
  refine ⟨B, en, G, ?_⟩
  unfold slsF at m
  cases e1 : fv en with
  | bad => rw [e1] at m; exact m
  | exc x en1 => rw [e1] at m; exact fun c od H' => m c od σ H'
  | ok r en1 =>
    rw [e1] at m
    dsimp only at m ⊢
    intro v H1 ⟨B1, b1, G1, ra, fn⟩ st1
    cases e2 : stoD r with
    | none => rw [e2] at m; exact m.elim
    | some d =>
      rw [e2] at m
      dsimp only at m
      have rv := sto_rep b1 G G1 ra fn (stoD_of e2)
      have G1' := G1.mono b1.up
      cases e3 : en1[i]? with
      | none => rw [e3] at m; exact m.elim
      | some s3 =>
        rw [e3] at m
        cases s3 with
        | e => exact m.elim
        | v _ => exact m.elim
        | o b0 dd =>
          dsimp only at m
          obtain ⟨p, s, n, c⟩ := G1'.own i b0 dd e3
          refine ⟨.ref p, s, partOf (Bx.refl B σ en H) G1' st1 ?_⟩
          cases e4 : prtF (some fa) en1 with
          | bad => rw [e4] at m; exact m
          | exc x en2 => rw [e4] at m; exact fun c od H2 ex g st => m c od σ H2 ex g st
          | ok l en2 =>
            rw [e4] at m
            dsimp only at m ⊢
            intro H2 B2 b2 G2 st2
            refine partOf (Bx.trans (Bx.refl B σ en H) st1 b2) G2 (st1.trans st2) ?_
            cases e5 : prtF (some fb) en2 with
            | bad => rw [e5] at m; exact m
            | exc x en3 => rw [e5] at m; exact fun c od H3 ex g st => m c od σ H3 ex g st
            | ok h en3 =>
              rw [e5] at m
              dsimp only at m ⊢
              intro H3 B3 b3 G3 st3
              cases e6 : en3[i]? with
              | none => rw [e6] at m; exact m.elim
              | some s6 =>
                rw [e6] at m
                cases s6 with
                | e => exact m.elim
                | v _ => exact m.elim
                | o b d0 =>
                  dsimp only at m
                  have bb := (Bx.trans (Bx.refl B σ en H) st1 b2).trans (st1.trans st2) b3
                  have G3' := G3.mono bb.up
                  cases e7 : slcU d0 l h d with
                  | none => rw [e7] at m; exact m.elim
                  | some d1 =>
                    rw [e7] at m
                    obtain ⟨p', s', n', c'⟩ := G3'.own i b d0 e6
                    rw [s] at s'
                    cases s'
                    unfold slcU at e7
                    split at e7
                    · rename_i xs a c0 ys
                      split at e7
                      · rename_i hh
                        cases e7
                        have r3 := Rep.step (st2.trans st3) (Bx.refl B σ en1 H1) rv
                        unfold Rep at r3
                        obtain ⟨q, vs, rfl, nq, hq, rl⟩ := r3
                        obtain ⟨us, hu, ru⟩ := c'
                        have pu : Un B σ en3 p := .inr ⟨i, b, .lst xs, e6, s⟩
                        have ne : p ≠ q := fun z => nq (z ▸ pu)
                        refine ⟨p, q, us, vs, a, c0, rfl, rfl, rfl, rfl, hu, hq, ne, hh.1, hh.2.1, ?_, ?_, ?_⟩
                        · rw [ru.len]; exact hh.2.2.1
                        · rw [ru.len, rl.len]; exact hh.2.2.2
                        · have hnp : H3 p ≠ none := by rw [hu]; simp
                          have k1 : ∀ a' o, a' ≠ p → H3 a' = some o → upd H3 p (.lst (us.take a.toNat ++ vs ++ us.drop c0.toNat)) a' = some o := fun a' o z h => by rw [upd_ne z]; exact h
                          have c1 : Cont K (Un B σ en3) (upd H3 p (.lst (us.take a.toNat ++ vs ++ us.drop c0.toNat))) (.lst (xs.take a.toNat ++ ys ++ xs.drop c0.toNat)) p :=
                            ⟨_, upd_same, RepL.to (fun a' o h n => ⟨k1 a' o (fun z => n (z ▸ pu)) h, n⟩) _ _ (RepL.app (RepL.app (ru.take _) rl) (ru.drop _))⟩
                          obtain ⟨g2, s2⟩ := G3'.mut e6 s k1 (by rw [upd_same]; simp) c1
                          exact m σ _ g2 (((st1.trans st2).trans st3).trans s2)
                      · cases e7
                    · cases e7
end
/-- x[a:b] = e -/
theorem s_slc {X : Cx} {W : WX} {o ea eb e : Expr} {fa fb fv : M R} {i : Nat} {p2 tpos pos : Pos} (he : PE X e (RdE X.K W fv)) (ho : PE X o (tVar i)) (hl : PE X ea (RdE X.K W fa)) (hu : PE X eb (RdE X.K W fb))
    (ha : ∀ v, assign (.Subscript o (.Slice (some ea) (some eb) none p2) tpos) X.env v = (do
      let ov ← holding [v] (eval o X.env)
      let iv ← holding [v, ov] (eval (.Slice (some ea) (some eb) none p2) X.env)
      standAt tpos
      holding [v, ov, iv] (setItem ov iv v)
      release [iv, v, ov] []) := by intro _; rfl)
    (hs : swapsWithSole [.Subscript o (.Slice (some ea) (some eb) none p2) tpos] e pos.line X.env = pure false := by rfl) (hw : swappedStores [.Subscript o (.Slice (some ea) (some eb) none p2) tpos] e X.env = pure none := by rfl)
    (h1 : (assignEach [.Subscript o (.Slice (some ea) (some eb) none p2) tpos] X.env).map (·.2) = [assign (.Subscript o (.Slice (some ea) (some eb) none p2) tpos) X.env] := by rfl) : PS X (.Assign [.Subscript o (.Slice (some ea) (some eb) none p2) tpos] e pos) (RdS X.K W (slsF i fa fb fv slcU)) :=
  ps_imp (ps_asg he (pg_slc ho (o_some hl) (o_some hu) ha) hs hw h1) fun D σ H m => slsImp m
section
variable {en : En} {k : Fl → Prop}
theorem os_sls {i : Nat} {fa fb fv : M R} {u : D → Option Int → Option Int → D → Option D} : okS (slsF i fa fb fv u) en k = okE fv en (fun r en1 => okL (stoD r) fun d => ownK (fun _ _ => okE (prtF (some fa)) en1 (fun l en2 => okE (prtF (some fb)) en2 (fun h en3 => ownK (fun b d0 => okL (u d0 l h d) fun d1 => k (.nx (en3.set i (.o b d1)))) en3[i]?) fun e en => k (.exc e en)) fun e en => k (.exc e en)) en1[i]?) fun e en => k (.exc e en) := by
  unfold okS okE slsF
  cases e : fv en with
  | bad => rfl
  | exc e1 en1 => rfl
  | ok r en1 =>
    dsimp only
    cases e2 : stoD r with
    | none => rfl
    | some d =>
      dsimp only [okL]
      cases e3 : en1[i]? with
      | none => rfl
      | some s =>
        cases s with
        | e => rfl
        | v d => rfl
        | o b0 d00 =>
          dsimp only [ownK]
          cases e4 : prtF (some fa) en1 with
          | bad => rfl
          | exc e1 en2 => rfl
          | ok l en2 =>
            dsimp only
            cases e5 : prtF (some fb) en2 with
            | bad => rfl
            | exc e1 en3 => rfl
            | ok h en3 =>
              dsimp only
              cases e6 : en3[i]? with
              | none => rfl
              | some s =>
                cases s with
                | e => rfl
                | v d => rfl
                | o b d0 =>
                  dsimp only [ownK]
                  cases u d0 l h d <;> rfl
theorem os_endX {ms : List Bool} {i : Nat} {fa fb fv : M R} {u : D → Option Int → Option Int → D → Option D} : okS (endF ms (slsF i fa fb fv u)) en k = okS (slsF i fa fb fv u) en fun o => endK ms k o := os_end
theorem slcU_at {xs ys : List D} {a c : Nat} (h1 : a ≤ c) (h2 : c ≤ xs.length) (h3 : xs.length + ys.length ≤ 16777216) : slcU (.lst xs) (some (a : Int)) (some (c : Int)) (.lst ys) = some (.lst (xs.take a ++ ys ++ xs.drop c)) := by
  show (if 0 ≤ (a : Int) ∧ (a : Int) ≤ c ∧ (c : Int) ≤ xs.length ∧ xs.length + ys.length ≤ 16777216 then some (D.lst (xs.take (a : Int).toNat ++ ys ++ xs.drop (c : Int).toNat)) else none) = _
  rw [if_pos ⟨by omega, by omega, by omega, h3⟩, Int.toNat_natCast, Int.toNat_natCast]
end
end PyD

section
set_option maxHeartbeats 4000000
namespace PyD
open PySem PySem.Spec L2 PyProof.Rows

/-! ### classes of refusals: what the written part says of them -/
def subX (n c : XN) : Bool := decide (n = c) || decide (c = .pin)
def xclB (K : PySem.W.Frag) (n : XN) (C : Addr) : Bool :=
  decide (PySem.W.nsIn K mainGlobals n.nm = some (some (.ref C))) && (PySem.W.keepIn K (.ref C) && (decide (PySem.W.subIn K (.ref C) (.type "BaseException") = some true) && (decide (PySem.W.typeIn K (.ref C) = some (.type "type")) && ((PySem.W.clsIn K C).isSome &&
  (decide (PySem.W.findIn K (.ref C) "__getattribute__" = some (some (.builtin "BaseException.__getattribute__"))) && (decide (PySem.W.findIn K (.ref C) "__getattr__" = some none) && (decide (PySem.W.findIn K (.ref C) "__class__" = some (some (.builtin "object.__class__"))) &&
  (decide (PySem.W.specialIn K (.builtin "object.__class__") "__get__" = some (some (.builtin "getset_descriptor.__get__"))) && (decide (PySem.W.takesIn K (.builtin "object.__class__") = some true) && (decide (PySem.W.mroIn K C (.type "object") = some true) && PySem.W.hasDictIn K C))))))))))
structure XCl (K : PySem.W.Frag) (n : XN) (C : Addr) : Prop where
  ns : PySem.W.nsIn K mainGlobals n.nm = some (some (.ref C))
  kp : PySem.W.keepIn K (.ref C) = true
  be : PySem.W.subIn K (.ref C) (.type "BaseException") = some true
  ty : PySem.W.typeIn K (.ref C) = some (.type "type")
  cl : (PySem.W.clsIn K C).isSome = true
  ga : PySem.W.findIn K (.ref C) "__getattribute__" = some (some (.builtin "BaseException.__getattribute__"))
  gg : PySem.W.findIn K (.ref C) "__getattr__" = some none
  fc : PySem.W.findIn K (.ref C) "__class__" = some (some (.builtin "object.__class__"))
  sp : PySem.W.specialIn K (.builtin "object.__class__") "__get__" = some (some (.builtin "getset_descriptor.__get__"))
  tk : PySem.W.takesIn K (.builtin "object.__class__") = some true
  ob : PySem.W.mroIn K C (.type "object") = some true
  hd : PySem.W.hasDictIn K C = true
theorem XCl.of {K : PySem.W.Frag} {n : XN} {C : Addr} (h : xclB K n C = true) : XCl K n C := by
  unfold xclB at h
  simp only [Bool.and_eq_true, decide_eq_true_eq] at h
  obtain ⟨a, b, c, d, e, f, g, i, j, k, l, m⟩ := h
  exact ⟨a, b, c, d, e, f, g, i, j, k, l, m⟩
/-- the table of the classes that a law's text has -/
def xtB (K : PySem.W.Frag) (l : List (XN × Addr)) : Bool := l.all fun p => xclB K p.1 p.2 && (decide (PySem.W.kitOne K (.ref p.2) (.type "ValueError") = some true) && (decide (PySem.W.kitOne K (.type "NoneType") (.ref p.2) = some false) &&
  l.all fun q => decide (PySem.W.kitOne K (.ref p.2) (.ref q.2) = some (subX p.1 q.1)) && decide (PySem.W.exmOne K (.ref p.2) (.ref q.2) = some (subX p.1 q.1))))
structure XT (K : PySem.W.Frag) (l : List (XN × Addr)) : Prop where
  cl : ∀ n C, (n, C) ∈ l → XCl K n C
  ve : ∀ n C, (n, C) ∈ l → PySem.W.kitOne K (.ref C) (.type "ValueError") = some true
  no : ∀ n C, (n, C) ∈ l → PySem.W.kitOne K (.type "NoneType") (.ref C) = some false
  is : ∀ n C m D, (n, C) ∈ l → (m, D) ∈ l → PySem.W.kitOne K (.ref C) (.ref D) = some (subX n m)
  ex : ∀ n C m D, (n, C) ∈ l → (m, D) ∈ l → PySem.W.exmOne K (.ref C) (.ref D) = some (subX n m)
theorem XT.of {K : PySem.W.Frag} {l : List (XN × Addr)} (h : xtB K l = true) : XT K l := by
  unfold xtB at h
  simp only [List.all_eq_true, Bool.and_eq_true, decide_eq_true_eq] at h
  exact ⟨fun n C q => XCl.of (h _ q).1, fun n C q => (h _ q).2.1, fun n C q => (h _ q).2.2.1, fun n C m D q r => ((h _ q).2.2.2 _ r).1, fun n C m D q r => ((h _ q).2.2.2 _ r).2⟩
/-- a class of the table, by its name -/
theorem XT.mem {K : PySem.W.Frag} {l : List (XN × Addr)} (T : XT K l) {n : XN} {c : Value} (h : (l.map (·.1)).elem n = true) (hc : ClsN K n c) : ∃ C, c = .ref C ∧ (n, C) ∈ l := by
  obtain ⟨⟨m, C⟩, h1, h2⟩ := List.mem_map.mp (List.mem_of_elem_eq_true h)
  dsimp only at h2
  subst h2
  have e1 := (T.cl m C h1).ns
  have e2 := hc.1
  rw [e1] at e2
  cases e2
  exact ⟨C, rfl, h1⟩

/-! ### raise -/
/-- raise n(text) -/
def rsF (n : XN) : En → Fl := fun en => .exc ⟨n, none⟩ en
/-- raise n(e), which has the field f -/
def rsO (n : XN) (f : Str) (fs : M (List R)) : En → Fl := fun en => match fs en with
  | .ok [.sh d] en1 => .exc ⟨n, some (f, d)⟩ en1
  | .ok _ _ => .bad
  | .exc x en1 => .exc x en1
  | .bad => .bad
theorem s_raise1 {X : Cx} {W : WX} {n : XN} {C : Addr} {x m : Str} {j : Nat} {p p2 pos pos' : Pos} (hc : X.calm = true) (tk : Takes X W) (T : XCl X.K n C) (ei : PySem.W.excIn X.K C [.type "ValueError", .type "Exception", .type "BaseException", .type "object"] "ValueError.__new__" = true)
    (gC : X.mg x = some (.ref C)) (hg : Gl X x := by rfl) (nd : (x == ("__debug__" : Str)) = false := by decide) :
    PS X (.Raise (some (.Call (.Name x p) [.Constant (.str m) j p2] [] pos')) none pos) (RdS X.K W (rsF n)) :=
  ps_imp (ps_raise hc tk (pmk_own PySem.F.excBase_ValueError ei gC T.kp (raises_own T.be T.ty) hg nd)) fun D σ H ⟨B, en, G, m⟩ => m (.ref C) none σ H ⟨⟨T.ns, C, rfl⟩, rfl⟩ G (Stp.refl σ en H)
/-- what __init__(self, f) promises: the field is stored -/
def spI (C : Addr) (f : Str) : Sp := fun vs H Q _ => ∃ a v, vs = [.ref a, v] ∧ H a = some (exo a C none) ∧ ∀ dx, H dx = none → dx ≠ a → Q .non (upd (upd H dx (exd dx [(f, v)])) a (exo a C (some dx)))
theorem s_raiseO {X : Cx} {W : WX} {n : XN} {C fI : Addr} {k : Nat} {fd : FuncData} {x f : Str} {ps : List Str} {e : Expr} {es : List Expr} {fs : M (List R)} {p pos pos' : Pos} (hc : X.calm = true) (tk : Takes X W) (T : XCl X.K n C) (O : OexC X.K C)
    (iC : PySem.W.findIn X.K (.ref C) "__init__" = some (some (.ref fI))) (tI : PySem.W.typeIn X.K (.ref fI) = some (.type "function")) (F1 : FnOk X.prog X.w X.K X.mg X.base (L2.CX X.prog X.w) k fI fd ps (spI C f)) (room : Room (k + 1) X.A) (bs : Binds X.K fd ps [])
    (tkN : Takes X (fun _ _ _ _ => False)) (gC : X.mg x = some (.ref C)) (ha : PA X (e :: es) (RdA X.K W fs)) (hg : Gl X x := by rfl) (nd : (x == ("__debug__" : Str)) = false := by decide)
    (one : starEach (e :: es) X.env = (false, eval e X.env) :: starEach es X.env := by rfl) (pl : (backTo pos' (starEach es X.env)).any (·.1) = false := by rfl) :
    PS X (.Raise (some (.Call (.Name x p) (e :: es) [] pos')) none pos) (RdS X.K W (rsO n f fs)) := by
  refine ps_imp (ps_raise hc tk (pmk_oex O iC tI F1 room bs .nil (passes_call tkN fun _ _ _ _ h => h) hg gC ha nd one pl)) ?_
  intro D σ H ⟨B, en, G, m⟩
  refine ⟨B, en, G, ?_⟩
  unfold rsO at m
  cases e1 : fs en with
  | bad => rw [e1] at m; exact m
  | exc y en1 => rw [e1] at m; exact fun c od H' q1 q2 q3 => m c od σ H' q1 q2 q3
  | ok rs en1 =>
    rw [e1] at m
    dsimp only at m ⊢
    intro vs H1 ⟨B1, b1, G1, r1, n1⟩ st1
    match rs, m, r1, n1 with
    | [], m, _, _ => exact m.elim
    | [.fr _], m, _, _ => exact m.elim
    | [.sl _], m, _, _ => exact m.elim
    | .sh _ :: _ :: _, m, _, _ => exact m.elim
    | .fr _ :: _ :: _, m, _, _ => exact m.elim
    | .sl _ :: _ :: _, m, _, _ => exact m.elim
    | [.sh d], m, r1, n1 =>
      obtain ⟨v, us, ev, r2, eu⟩ := r1
      have eu' : us = [] := eu
      subst eu'
      subst ev
      refine ⟨(show 1 ≤ 1000 by omega), fun a na => ⟨a, v, rfl, upd_same, fun dx ndx nea => ⟨rfl, dx, [(f, v)], upd_same, by rw [upd_ne nea, upd_same], ?_, ?_⟩⟩⟩
      · rw [upd_ne nea] at ndx
        exact ndx
      · have nd1 : H1 dx = none := by
          rw [upd_ne nea] at ndx
          exact ndx
        generalize hH : upd (L2.del (upd (upd (upd H1 a (exo a C none)) dx (exd dx [(f, v)])) a (exo a C (some dx))) a) dx (.xd [(f, v)]) = H2
        have x2 : Ext H1 H2 := fun b o hb => by
          have n1 : b ≠ dx := fun z => by rw [z, nd1] at hb; cases hb
          have n2 : b ≠ a := fun z => by rw [z, na] at hb; cases hb
          rw [← hH, upd_ne n1]
          show L2.del _ a b = some o
          rw [L2.del_ne n2, upd_ne n2, upd_ne n1, upd_ne n2]
          exact hb
        have atd : H2 dx = some (.xd [(f, v)]) := by rw [← hH, upd_same]
        have G2 : Good X.K B H2 σ en1 := (G1.mono b1.up).ext0 x2
        have st2 : Stp σ en H σ en1 H2 := st1.trans (Stp.ext x2)
        have nU : ¬ Un B σ en1 dx := fun z => (G1.mono b1.up).unAt z nd1
        have rr : Rep X.K (Un B σ en1) H2 d v := Rep.to (fun b o hb nb => ⟨x2 b o hb, fun z => nb (Un.mono b1.up z)⟩) _ _ r2
        exact m (.ref C) (some dx) σ H2 ⟨⟨T.ns, C, rfl⟩, dx, v, rfl, nU, atd, rr⟩ G2 st2

/-! ### __init__(self, f): PinError.__init__(self, text); self.f = f -/
/-- the class whose __init__ is called there -/
structure Sup (K : PySem.W.Frag) (P : Addr) : Prop where
  ga : PySem.W.specialIn K (.ref P) "__getattribute__" = some (some (.builtin "type.__getattribute__"))
  rd : PySem.W.readsIn K P (.type "type") = true
  fd : PySem.W.findCls K (.ref P) (.type "type") "__init__" = some (.val (.builtin "ValueError.__init__"))
theorem pe_sup {X : Cx} {P : Addr} {x : Str} {e : Expr} {es : List Expr} {ta : TA} {p1 p2 pos : Pos} {pl : Sem Bool} (hg : Gl X x) (gP : X.mg x = some (.ref P)) (S : Sup X.K P) (ha : PA X (e :: es) ta)
    (nd : (x == ("__debug__" : Str)) = false := by decide)
    (hc : eval (.Call (.Attribute (.Name x p1) "__init__" p2) (e :: es) [] pos) X.env = (do
      let ov ← eval (.Name x p1) X.env
      standAt p2.atName
      let (f, first) ← holding [ov] (getMethod ov "__init__" pl)
      callWith pos f first (backTo pos (starEach (e :: es) X.env)) (backToKw pos (keywordEach [] X.env))) := by rfl)
    (one : starEach (e :: es) X.env = (false, eval e X.env) :: starEach es X.env := by rfl) (pll : (backTo pos (starEach es X.env)).any (·.1) = false := by rfl) :
    PE X (.Call (.Attribute (.Name x p1) "__init__" p2) (e :: es) [] pos) (tVeI X.K ta) := by
  obtain ⟨S1, S2, S3⟩ := S
  constructor
  intro pins s σ H Q J q
  refine PySem.W.methodCall_KW (ld_glob J hg gP ?_ nd) hc
  refine PySem.W.method_cls J.kIn S1 (PySem.W.cls_value J.kIn S2 S3 (by decide +kernel) ?_)
  show wpAny _ _ (callWith pos (Value.builtin "ValueError.__init__") [] (backTo pos (starEach (e :: es) X.env)) []) _ _ _
  refine PyProof.Rows.callWith_method1 (thn (ha.run pos pins _ σ H _ (J.tok _) q) ?_) one pll
  rintro us s1 ⟨vs, H1, J1, rs, a, C, ws, ev, hl, T, at1, q⟩
  subst ev
  cases rs with
  | @cons _ u0 _ ur r0 rr =>
    have eu : u0 = Value.ref a := r0
    subst eu
    refine oinit_ok T J1 at1 ?_ fun s2 J2 => ⟨.non, H1, J2, rfl, q⟩
    rw [← Paired.length rr, sizeLine_eq]
    omega
/-- the body of such an __init__, at its two statements -/
theorem init_reads {K : PySem.W.Frag} {C : Addr} {f m : Str} {N : List Str} {vs : List V} {Q : VK} {E : XK} {H : Hp} (hN : N.length = 2) (O : OexC K C) (hno : PySem.W.findIn K (.ref C) f = some none) (h : spI C f vs H Q E) :
    tSeq (tDrop (tVeI K (tCons (tVar 0) (tCons (tC (.str m)) tNil)))) (tOst K f (tVar 0) (tVar 1)) { nx := fun _ H' => Q .non H', rt := Q } (L2.start N vs) H := by
  obtain ⟨a, v, rfl, at0, h⟩ := h
  have e0 : (L2.start N [V.ref a, v])[0]? = some (some (.ref a)) := by unfold L2.start; rw [hN]; rfl
  have e1 : (L2.start N [V.ref a, v])[1]? = some (some v) := by unfold L2.start; rw [hN]; rfl
  refine ⟨.ref a, e0, a, C, [.str m], rfl, (show 1 ≤ 1000 by omega), O, at0, ?_⟩
  exact ⟨v, e1, .ref a, e0, a, C, rfl, O, hno, .inl ⟨at0, h⟩⟩

/-- a class whose own __init__ stores the one field f -/
def InitAt (P : Program) (w : World) (K : PySem.W.Frag) (mg : Str → Option Value) (base : Heap) (C : Addr) (f : Str) (lev : Nat) : Prop :=
  OexC K C ∧ ∃ (fI : Addr) (fd : FuncData) (ps : List Str), PySem.W.findIn K (.ref C) "__init__" = some (some (.ref fI)) ∧ PySem.W.typeIn K (.ref fI) = some (.type "function") ∧ FnOk P w K mg base (L2.CX P w) lev fI fd ps (spI C f) ∧ Binds K fd ps []
theorem s_raiseI {X : Cx} {W : WX} {n : XN} {C : Addr} {k : Nat} {x f : Str} {e : Expr} {es : List Expr} {fs : M (List R)} {p pos pos' : Pos} (hc : X.calm = true) (tk : Takes X W) (T : XCl X.K n C) (I : InitAt X.prog X.w X.K X.mg X.base C f k) (room : Room (k + 1) X.A)
    (tkN : Takes X (fun _ _ _ _ => False)) (gC : X.mg x = some (.ref C)) (ha : PA X (e :: es) (RdA X.K W fs)) (hg : Gl X x := by rfl) (nd : (x == ("__debug__" : Str)) = false := by decide)
    (one : starEach (e :: es) X.env = (false, eval e X.env) :: starEach es X.env := by rfl) (pl : (backTo pos' (starEach es X.env)).any (·.1) = false := by rfl) :
    PS X (.Raise (some (.Call (.Name x p) (e :: es) [] pos')) none pos) (RdS X.K W (rsO n f fs)) := by
  obtain ⟨O, fI, fd, ps, iC, tI, F, bs⟩ := I
  exact s_raiseO hc tk T O iC tI F room bs tkN gC ha hg nd one pl
/-- the statements of a class's body -/
def clsBody : Stmt → List Stmt
  | .ClassDef _ _ _ b _ _ _ _ _ _ _ => b
  | _ => []

/-! ### what is caught is a thing of ours -/
section
variable {X : Cx} {pins : List (Addr × Obj)} {σ : L2.St} {H : Hp} {s : Shared}
theorem exT_ok {P : Program} {w : World} {h : Heap} {a : Addr} {c : Value} {od : Option Addr} {o : Obj} {vs : Array Value} (e : h.get? a = some o) (z : Zc c od o) (d : o.data = .fields vs) : ObjOk P w H h a (exT a c od) :=
  ⟨⟨o, vs, e, z, d⟩, ⟨o, e⟩, fun _ _ ⟨u, us, q, r⟩ k => ⟨u, us, k u q, r⟩⟩
theorem exT_at {P : Program} {w : World} {h : Heap} {a : Addr} {c : Value} {od : Option Addr} (ok : HOk P w H h) (e : H a = some (exT a c od)) : ∃ o vs, h.get? a = some o ∧ Zc c od o ∧ o.data = .fields vs := by
  have z : ObjOk P w H h a (.ext fun h => ∃ (o : Obj) (vs : Array Value), h.get? a = some o ∧ Zc c od o ∧ o.data = .fields vs) := ok a _ e
  exact z.1
/-- the caught thing is taken among what is known of the heap -/
theorem Inv.seize {a : Addr} {c : Value} {od : Option Addr} {oe : Obj} {vs : Array Value} (J : Inv X pins σ H s) (there : s.heap.get? a = some oe) (z : Zc c od oe) (d : oe.data = .fields vs) (new0 : X.s_0.heap.get? a = none) (na : H a = none) (nl : a ≠ X.env.locals)
    (np : ∀ p ∈ X.pn ++ pins, p.1 ≠ a) : Inv X pins σ (upd H a (exT a c od)) s where
  ok := J.ok
  os := J.os
  bare := J.bare
  base := {
    keep := J.base.keep
    slot := J.base.slot
    free := fun b o e n x => by
      rw [upd_ne (fun q => by rw [q, new0] at e; cases e)]
      exact J.base.free b o e n x
    there := J.base.there
    tups := fun b xs e => by
      have q := J.base.tups b xs e
      rw [upd_ne (ne_of_none q na)]
      exact q
    frzs := fun b o u e => by
      have q := J.base.frzs b o u e
      rw [upd_ne (ne_of_none q na)]
      exact q
    tbls := fun b ps e => by
      obtain ⟨m, q⟩ := J.base.tbls b ps e
      exact ⟨m, by rw [upd_ne (ne_of_none q na)]; exact q⟩ }
  loc := J.loc
  cell := J.cell
  free := by rw [upd_ne (Ne.symm nl)]; exact J.free
  freeC := fun x k e => by
    have q := J.freeC x k e
    rw [upd_ne ?_]
    · exact q
    · intro e2
      obtain ⟨v, o, ho, hd⟩ := J.cell x k e
      rw [e2, there] at ho
      cases ho
      rw [d] at hd
      cases hd
  pin := fun p hp => by
    obtain ⟨q1, q2, q3⟩ := J.pin p hp
    exact ⟨q1, by rw [upd_ne (np p hp)]; exact q2, q3⟩
  hok := J.hok.laidN (fun _ _ q => q) na (exT_ok there z d)
  len := J.len
theorem Inv.suite0 (J : Inv X pins σ H s) (a : Addr) : Inv (X.suite a (X.pn ++ pins)) [] σ H s where
  ok := J.ok.suite a _
  os := J.os
  bare := J.bare
  base := J.base
  loc := J.loc
  cell := J.cell
  free := J.free
  freeC := J.freeC
  pin := fun p hp => J.pin p (by rw [List.append_nil] at hp; exact hp)
  hok := J.hok
  len := J.len
theorem Inv.unsuite0 {a : Addr} (J : Inv (X.suite a (X.pn ++ pins)) [] σ H s) (ok : X.Ok) : Inv X pins σ H s where
  ok := ok
  os := J.os
  bare := J.bare
  base := J.base
  loc := J.loc
  cell := J.cell
  free := J.free
  freeC := J.freeC
  pin := fun p hp => J.pin p (List.mem_append_left _ hp)
  hok := J.hok
  len := J.len
end
/-- the wish in the body of a try whose suite names what is caught -/
def wTk (K : PySem.W.Frag) (c : Value) (i : Nat) (ts : TS) (Wo : WX) (D : Ends) : WX := fun k d σ H => ∃ b, PySem.W.exmOne K k c = some b ∧
  (b = true → ∀ a, H a = none → ts { nx := fun σ' H' => D.nx (σ'.set i none) H', rt := D.rt, bk := fun σ' H' => D.bk (σ'.set i none) H', ct := fun σ' H' => D.ct (σ'.set i none) H' } (σ.set i (some (.ref a))) (upd H a (exT a k d))) ∧ (b = false → Wo k d σ H)
section
variable {X : Cx} {x n : Str} {c : Value} {i : Nat} {body suite : List Stmt} {b0 : Stmt} {np pos pos' : Pos} {tb : WX → TS} {ts : TS} {Wo : WX}
theorem ps_take (st0 : X.stack = X.env :: X.outer) (fr0 : X.env.frame = some X.env.locals) (ex0 : X.ex = []) (nd : X.N.Nodup) (hi : X.N[i]? = some n) (kn : X.env.kindOf n = some .local) (nm : Names X x c) (tk : Takes X Wo)
    (bod : ∀ (W : WX) (pn : List (Addr × Obj)) (xe : Value → Shared → Prop), Takes (X.tr pn xe) W → PassesOwn (model X.prog X.w) X.A X.env xe → PSs (X.tr pn xe) body (tb W))
    (sui : ∀ (a : Addr) (pn : List (Addr × Obj)), PSs (X.suite a pn) (b0 :: suite) ts) :
    PS X (.Try body [.ExceptHandler (some (.Name x np)) (some n) (b0 :: suite) pos'] [] [] pos) (fun D σ H => tb (wTk X.K c i ts Wo D) D σ H) := by
  constructor
  intro pins s σ H D J q
  have ok := J.ok
  have fr1 : X.A.frames = some (X.env :: X.outer) := by rw [ok.frames, st0]
  have lo : Loc X.env.scope n := .inl kn
  refine wpAny_Try_except (wpAny_mono ((bod (wTk X.K c i ts Wo D) (X.pn ++ pins) (fun e s1 => wpAny (model X.prog X.w) X.A (noteFrame e X.env) (fun _ s2 => wpAny (model X.prog X.w) X.A (setFlight e none)
    (fun _ s3 => wpAny (model X.prog X.w) X.A (handleBy e X.env [.ExceptHandler (some (.Name x np)) (some n) (b0 :: suite) pos']) (SP X pins D) X.xe s3) X.xe s2) X.xe s1) ?_ PassesOwn.looking).run [] s σ H D (J.toTry _) q) ?_ (fun _ _ z => z))
  · rintro u s1 ⟨a, B, sI, pins1, σ1, H1, k, d, rfl, J1, nb, up, sky, na, os, ag, b, eb, yes, no⟩
    have J1 : Inv X pins σ1 H1 sI := J1.ofTry ok
    have sky : Sky B (X.env :: X.outer) a (Zc k d) X.env.locals s1.heap := by
      rw [← st0]
      exact sky
    refine Sky.land Zc.steady fr1 fr0 sky fun h3 fl3 up3 => ?_
    have L3 : Inv X pins σ1 H1 { s1 with heap := h3 } := J1.landed nb fl3.1 (up.trans up3) os ag
    obtain ⟨oe, vs, at3, z3, d3⟩ := fl3.there
    have nfs : a ∉ frs (X.env :: X.outer) := fun hm => by
      obtain ⟨_, o1, e1, nf1⟩ := fl3.2.2.1.mem hm
      rw [at3] at e1
      cases e1
      exact nf1 _ d3
    have nl : a ≠ X.env.locals := fun z => nfs (List.mem_filterMap.mpr ⟨X.env, List.mem_cons_self, by rw [fr0, z]⟩)
    have nB : B.get? a = none := fl3.2.1
    have notI : ∀ b o, sI.heap.get? b = some o → b ∉ frs X.stack → b ≠ a := fun b o e1 e2 e3 => by
      have e4 := nb b o e1 e2
      rw [e3, nB] at e4
      cases e4
    have nI : sI.heap.get? a = none := by
      cases e1 : sI.heap.get? a with
      | none => rfl
      | some o => exact absurd rfl (notI a o e1 (by rw [st0]; exact nfs))
    have n0 : X.s_0.heap.get? a = none := by
      cases e1 : X.s_0.heap.get? a with
      | none => rfl
      | some o =>
        obtain ⟨o2, e2⟩ := J1.base.there a o e1 (by rw [ex0]; exact fun z => nomatch z)
        rw [nI] at e2
        cases e2
    have npin : ∀ p ∈ X.pn ++ pins, p.1 ≠ a := fun p hp e1 => by
      have e2 := (J1.pin p hp).1
      rw [e1, nI] at e2
      cases e2
    have looksT : PySem.W.Looks (model X.prog X.w) h3 (typeOf (.ref a)) k := fun A' Q' E' s' kk qq => wpAny_typeOf_ref (kk _ _ at3) (by rw [z3.1]; exact qq)
    have looksM := PySem.W.exm_one (M := model X.prog X.w) L3.kIn looksT eb
    have S3 : Inv (X.suite a (X.pn ++ pins)) [] σ1 H1 { s1 with heap := h3 } := Inv.suite0 L3 a
    have asks : ∀ {Q' E' : Value → Shared → Prop}, Q' c { s1 with heap := h3 } → wpAny (model X.prog X.w) (X.A.mark (some (.ref a))) (eval (.Name x np) X.env) Q' E' { s1 with heap := h3 } := fun {Q' E'} qq => by
      rcases nm with ⟨g1, g2, g3 | ⟨g3, g4, g5⟩⟩
      · exact ld_glob (X := X.suite a (X.pn ++ pins)) S3 g1 g3 qq g2
      · exact ld_blt (X := X.suite a (X.pn ++ pins)) S3 g1 g3 g4 qq g5 g2
    refine wpAny_handleBy_cons (codeAny_handlers_test (asks (looksM.here ?_))) (by intro z; cases z)
    cases b with
    | true =>
      refine codeAny_handlers_suite_as (HandSPX.lands_againZ fl3 fun h4 fl4 up4 => ?_)
      have L4 : Inv X pins σ1 H1 { s1 with heap := h4 } := J1.landed nb fl4.1 ((up.trans up3).trans up4) os ag
      obtain ⟨o4, v4, at4, z4, d4⟩ := fl4.there
      have S4 := Inv.suite0 (Inv.seize L4 at4 z4 d4 n0 na nl npin) a
      refine store_ok (X := X.suite a (X.pn ++ pins)) (v := .ref a) S4 nd hi lo rfl (fun s5 S5 => wpAny_mono ((sui a (X.pn ++ pins)).run [] s5 _ _ _ S5 (yes rfl a na)) ?_ fun _ _ z => False.elim z) (.inr kn)
      intro f s6 hf
      have out : ∀ {σ6 : L2.St} {H6 : Hp} {Q : Shared → Prop}, Inv (X.suite a (X.pn ++ pins)) [] σ6 H6 s6 → (∀ s7, Inv X pins (σ6.set i none) H6 s7 → Q s7) →
          wpAny (model X.prog X.w) X.A (do bindName X.env n .none; unbindBehindTheSuite X.env n pos') (fun _ s7 => Q s7) X.xe s6 := fun S6 g => gone_ok (Inv.unsuite0 S6 ok) nd hi kn g
      cases f with
      | next => obtain ⟨_, _, S6, g⟩ := hf; exact out S6 fun _ J7 => ⟨_, _, J7, g⟩
      | brk => obtain ⟨_, _, S6, g⟩ := hf; exact out S6 fun _ J7 => ⟨_, _, J7, g⟩
      | cont => obtain ⟨_, _, S6, g⟩ := hf; exact out S6 fun _ J7 => ⟨_, _, J7, g⟩
      | ret u => obtain ⟨_, _, _, S6, r6, g⟩ := hf; exact out S6 fun _ J7 => ⟨_, _, _, J7, r6, g⟩
    | false =>
      refine wpAny_handleBy_nil ?_
      obtain ⟨_, _, _, o5, v5, T5, _, _, at5, _, d5, f5, _⟩ := id fl3
      unfold PySem.passOn
      refine wpAny_bind (wpAny_field at5 d5 f5 ?_)
      rw [if_neg (show ¬ ((Value.ref T5 == Value.none) = true) from by simp)]
      have on : wpAny (model X.prog X.w) X.A (setFlight (.ref a) X.env.frame) (fun _ s4 => wpAny (model X.prog X.w) X.A (throw (.ref a) : Sem Flow) (SP X pins D) X.xe s4) X.xe { s1 with heap := h3 } := by
        rw [fr0]
        exact HandSPX.setFlight_upZ fl3 fun h4 held4 up4 => wpAny_throw (tk _ _ ⟨a, B, sI, pins, σ1, H1, k, d, rfl, J1, nb, (up.trans up3).trans up4, .inr (.inr (by rw [st0]; exact held4)), na, os, ag, no rfl⟩)
      first
        | exact wpAny_bind (wpAny_pure (wpAny_bind on))
        | exact wpAny_bind on
  · intro f s1 hf
    cases f with
    | next => obtain ⟨_, _, J1, g⟩ := hf; exact wpAny_execs_nil ⟨_, _, J1.ofTry ok, g⟩
    | brk => obtain ⟨_, _, J1, g⟩ := hf; exact ⟨_, _, J1.ofTry ok, g⟩
    | cont => obtain ⟨_, _, J1, g⟩ := hf; exact ⟨_, _, J1.ofTry ok, g⟩
    | ret u => obtain ⟨_, _, _, J1, r1, g⟩ := hf; exact ⟨_, _, _, J1.ofTry ok, r1, g⟩
end

/-! ### try: body, except c as n: suite, on data -/
def exD (x : Ex) : D := .exn x.cls (match x.fld with | none => [] | some p => [p])
/-- the suite's name goes -/
def goneF (i : Nat) : Fl → Fl
  | .nx en => (match freeAt en i with | true => .nx (en.set i .e) | false => .bad)
  | .bk en => (match freeAt en i with | true => .bk (en.set i .e) | false => .bad)
  | .ct en => (match freeAt en i with | true => .ct (en.set i .e) | false => .bad)
  | .rt (.sh d) en => (match freeAt en i with | true => .rt (.sh d) (en.set i .e) | false => .bad)
  | _ => .bad
def tryF (ns : List XN) (c : XN) (i : Nat) (fb fs : En → Fl) : En → Fl := fun en => match fb en with
  | .exc x en1 => (match ns.elem x.cls with
    | true => (match subX x.cls c with
      | true => (match freeAt en1 i with
        | true => goneF i (fs (en1.set i (.v (exD x))))
        | false => .bad)
      | false => .exc x en1)
    | false => .bad)
  | f => f
section
variable {K : PySem.W.Frag} {W : WX} {B B' B1 : Addr → Prop} {U : Addr → Prop} {H H' H1 : Hp} {σ σ' σ1 : L2.St} {en en' en1 : En} {d : D} {v : V} {i : Nat} {p : Addr} {D0 : Ends}
theorem own_gone {a : Addr} (h : Own (σ.set i none) (en.set i .e) a) : Own σ en a := by
  obtain ⟨j, b, d', e, s⟩ := h
  rcases set_get e with ⟨_, q, _⟩ | ⟨ne, q⟩
  · cases q
  · rw [List.getElem?_set_ne ne] at s
    exact ⟨j, b, d', q, s⟩
theorem Good.gone (G : Good K B H σ en) : Good K B H (σ.set i none) (en.set i .e) := by
  have t : ∀ a o, H a = some o → ¬ Un B σ en a → H a = some o ∧ ¬ Un B (σ.set i none) (en.set i .e) a := fun a o x n => ⟨x, fun z => n (z.imp id own_gone)⟩
  exact {
    len := by rw [List.length_set, List.length_set]; exact G.len
    all := G.all
    rep := fun j d' e => by
      rcases set_get e with ⟨_, q, _⟩ | ⟨ne, q⟩
      · cases q
      · obtain ⟨w, s, r⟩ := G.rep j d' q
        exact ⟨w, by rw [List.getElem?_set_ne ne]; exact s, Rep.to t d' w r⟩
    own := fun j b d' e => by
      rcases set_get e with ⟨_, q, _⟩ | ⟨ne, q⟩
      · cases q
      · obtain ⟨p, s, n, c⟩ := G.own j b d' q
        exact ⟨p, by rw [List.getElem?_set_ne ne]; exact s, n, Cont.to t (fun _ x => x) c⟩
    inj := fun j k p b c d1 d2 e1 e2 s1 s2 => by
      rcases set_get e1 with ⟨_, q, _⟩ | ⟨ne1, q1⟩
      · cases q
      · rcases set_get e2 with ⟨_, q, _⟩ | ⟨ne2, q2⟩
        · cases q
        · rw [List.getElem?_set_ne ne1] at s1
          rw [List.getElem?_set_ne ne2] at s2
          exact G.inj j k p b c d1 d2 q1 q2 s1 s2 }
theorem Stp.gone (hf : freeAt en i = true) : Stp σ en H (σ.set i none) (en.set i .e) H where
  len := List.length_set
  fr := fun _ _ h _ => h
  al := fun _ h => h
  ow := fun a h => .inl (own_gone h)
  of := fun a h => .inl (by
    obtain ⟨j, d', e, s⟩ := h
    rcases set_get e with ⟨_, q, _⟩ | ⟨ne, q⟩
    · cases q
    · rw [List.getElem?_set_ne ne] at s
      exact ⟨j, d', q, s⟩)
  pin := fun j d' e => by
    have ne : i ≠ j := fun z => by
      subst z
      exact (freeAt_lt hf).2 d' e
    exact ⟨by rw [List.getElem?_set_ne ne], d', by rw [List.getElem?_set_ne ne]; exact e⟩
  pb := fun j d' e => by
    rcases set_get e with ⟨_, q, _⟩ | ⟨_, q⟩
    · cases q
    · exact ⟨d', q⟩
theorem tryImp {l : List (XN × Addr)} (T : XT K l) {c : XN} {C : Addr} (hc : (c, C) ∈ l) {fb fs : En → Fl} (m : RdS K W (tryF (l.map (·.1)) c i fb fs) D0 σ H) :
    RdS K (wTk K (.ref C) i (RdS K (fun _ _ _ _ => False) fs) W D0) fb D0 σ H := by
  obtain ⟨B, en, G, m⟩ := RdS.qs m
  refine ⟨B, en, G, ?_⟩
  unfold tryF at m
  cases e : fb en with
  | nx en1 => rw [e] at m; exact m
  | bk en1 => rw [e] at m; exact m
  | ct en1 => rw [e] at m; exact m
  | rt r en1 => rw [e] at m; exact m
  | bad => rw [e] at m; exact m
  | exc x en1 =>
    rw [e] at m
    dsimp only at m ⊢
    intro k od σ1 H1 ex G1 st1
    cases q1 : (l.map (·.1)).elem x.cls with
    | false => rw [q1] at m; exact m.elim
    | true =>
      rw [q1] at m
      dsimp only at m
      obtain ⟨Ck, rfl, hk⟩ := T.mem q1 ex.1
      refine ⟨_, T.ex _ _ _ _ hk hc, fun q2 a na => ?_, fun q2 => ?_⟩
      · rw [q2] at m
        dsimp only at m
        cases q3 : freeAt en1 i with
        | false => rw [q3] at m; exact m.elim
        | true =>
          rw [q3] at m
          dsimp only at m
          have x2 : Ext H1 (upd H1 a (exT a (.ref Ck) od)) := fun b o hb => by
            rw [upd_ne (fun z => by rw [z, na] at hb; cases hb)]
            exact hb
          have G2 := G1.ext0 x2
          have st2 : Stp σ en H σ1 en1 (upd H1 a (exT a (.ref Ck) od)) := st1.trans (Stp.ext x2)
          have nU : ¬ Un B σ1 en1 a := fun z => G1.unAt z na
          have rep : Rep K (Un B σ1 en1) (upd H1 a (exT a (.ref Ck) od)) (exD x) (.ref a) := by
            unfold exD Rep
            obtain ⟨h1, h2⟩ := ex
            cases ef : x.fld with
            | none =>
              rw [ef] at h2
              exact ⟨a, .ref Ck, od, [], rfl, nU, upd_same, h1, .inl ⟨rfl, h2⟩, by unfold RepF; rfl⟩
            | some fd =>
              obtain ⟨f, d⟩ := fd
              rw [ef] at h2
              obtain ⟨dx, w, e1, n1, h3, r⟩ := h2
              refine ⟨a, .ref Ck, od, [(f, w)], rfl, nU, upd_same, h1, .inr ⟨dx, e1, n1, x2 _ _ h3⟩, ?_⟩
              unfold RepF
              exact ⟨w, [], rfl, Rep.to (fun b o hb nb => ⟨x2 b o hb, nb⟩) _ _ r, by unfold RepF; rfl⟩
          have G3 := G2.set_v (fun _ z => z) (freeAt_lt q3).1 rep
          have st3 := st2.trans (Stp.set_v (v := .ref a) (d := exD x) q3)
          refine RdS.of (Bx.refl B σ en H) G3 st3 ?_
          cases e4 : fs (en1.set i (.v (exD x))) with
          | nx en4 =>
            rw [e4] at m
            unfold goneF at m
            dsimp only at m
            cases q4 : freeAt en4 i with
            | false => rw [q4] at m; exact m.elim
            | true => rw [q4] at m; exact fun σ' H' g s => m _ H' g.gone (s.trans (Stp.gone q4))
          | bk en4 =>
            rw [e4] at m
            unfold goneF at m
            dsimp only at m
            cases q4 : freeAt en4 i with
            | false => rw [q4] at m; exact m.elim
            | true => rw [q4] at m; exact fun σ' H' g s => m _ H' g.gone (s.trans (Stp.gone q4))
          | ct en4 =>
            rw [e4] at m
            unfold goneF at m
            dsimp only at m
            cases q4 : freeAt en4 i with
            | false => rw [q4] at m; exact m.elim
            | true => rw [q4] at m; exact fun σ' H' g s => m _ H' g.gone (s.trans (Stp.gone q4))
          | rt r en4 =>
            rw [e4] at m
            cases r with
            | fr d => exact m.elim
            | sl j => exact m.elim
            | sh d =>
              unfold goneF at m
              dsimp only at m
              cases q4 : freeAt en4 i with
              | false => rw [q4] at m; exact m.elim
              | true =>
                rw [q4] at m
                exact fun v σ' H' ⟨B4, b4, g4, r4, n4⟩ s => m v (σ'.set i none) H' ⟨B4, b4, g4.gone, Rep.to (fun b o hb nb => ⟨hb, fun z => nb (z.imp id own_gone)⟩) _ _ r4, trivial⟩ (s.trans (Stp.gone q4))
          | exc y en4 => rw [e4] at m; exact m.elim
          | bad => rw [e4] at m; exact m.elim
      · rw [q2] at m
        exact m _ od σ1 H1 ex G1 st1
end
theorem s_try {X : Cx} {W : WX} {l : List (XN × Addr)} {c : XN} {C : Addr} {x n : Str} {i : Nat} {body suite : List Stmt} {b0 : Stmt} {np pos pos' : Pos} {fb fs : En → Fl} {ns : List XN} (T : XT X.K l) (hc : (c, C) ∈ l) (nd : X.N.Nodup) (gC : X.mg x = some (.ref C)) (tk : Takes X W)
    (bod : ∀ (W' : WX) (pn : List (Addr × Obj)) (xe : Value → Shared → Prop), Takes (X.tr pn xe) W' → PassesOwn (model X.prog X.w) X.A X.env xe → PSs (X.tr pn xe) body (RdS X.K W' fb))
    (sui : ∀ (a : Addr) (pn : List (Addr × Obj)), PSs (X.suite a pn) (b0 :: suite) (RdS X.K (fun _ _ _ _ => False) fs))
    (hns : l.map (·.1) = ns := by rfl) (st0 : X.stack = X.env :: X.outer := by rfl) (fr0 : X.env.frame = some X.env.locals := by rfl) (ex0 : X.ex = [] := by rfl) (hi : X.N[i]? = some n := by rfl) (kn : X.env.kindOf n = some .local := by rfl) (hg : Gl X x := by rfl) (ndb : (x == ("__debug__" : Str)) = false := by decide) :
    PS X (.Try body [.ExceptHandler (some (.Name x np)) (some n) (b0 :: suite) pos'] [] [] pos) (RdS X.K W (tryF ns c i fb fs)) := by
  subst hns
  exact ps_imp (ps_take st0 fr0 ex0 nd hi kn ⟨hg, ndb, .inl gC⟩ tk bod sui) fun D σ H m => tryImp T hc m

/-! ### isinstance of what was caught; its field -/
section
variable {X : Cx} {pins : List (Addr × Obj)} {σ : L2.St} {H : Hp} {s : Shared}
theorem exn_inst {a C : Addr} {od : Option Addr} (J : Inv X pins σ H s) (e : H a = some (exT a (.ref C) od)) (hd : ∀ dx, od = some dx → ∃ ws, H dx = some (.xd ws)) : ∃ ox od', PySem.W.InstAt s.heap a ox C od' := by
  obtain ⟨o, vs, at1, z, dt⟩ := exT_at J.hok e
  have nc : PySem.W.notCls o := by
    unfold PySem.W.notCls
    rw [dt] <;> rfl
  cases od with
  | none => exact ⟨o, none, at1, z.1, nc, by rw [z.2]; trivial⟩
  | some dx =>
    obtain ⟨ws, e2⟩ := hd dx rfl
    obtain ⟨od', e3⟩ := objOk_get (J.hok dx _ e2)
    exact ⟨o, some od', at1, z.1, nc, by rw [z.2]; exact e3⟩
end
def rIsX (K : PySem.W.Frag) : List V → Hp → VK → Prop := fun xs H Q => ∃ (a C : Addr) (od : Option Addr) (n : XN) (c : V) (cv : Value) (b : Bool), xs = [.ref a, c] ∧ ClsV c cv ∧ H a = some (exT a (.ref C) od) ∧ (∀ dx, od = some dx → ∃ ws, H dx = some (.xd ws)) ∧ XCl K n C ∧ PySem.W.kitOne K (.ref C) cv = some b ∧ Q (.bl b) H
def rIsXT (K : PySem.W.Frag) : List V → Hp → VK → Prop := fun xs H Q => ∃ (a C : Addr) (od : Option Addr) (n : XN) (tp : Addr) (cs : List V) (us : List Value) (b : Bool), xs = [.ref a, .ref tp] ∧ H tp = some (.tup cs) ∧ Paired ClsV cs us ∧ H a = some (exT a (.ref C) od) ∧ (∀ dx, od = some dx → ∃ ws, H dx = some (.xd ws)) ∧ XCl K n C ∧ PySem.W.kitAny K (.ref C) us = some b ∧ Q (.bl b) H
theorem call_isX {X : Cx} : CallR X (.builtin "isinstance") (rIsX X.K) := by
  intro pins s σ H xs us Q J r h
  obtain ⟨a, C, od, n, c, cv, b, rfl, k, e, hd, T, kb, q⟩ := h
  obtain ⟨u1, u2, rfl, r1, r2⟩ := vals2 r
  cases (show u1 = Value.ref a from r1)
  have e2 := k.eq r2
  subst e2
  obtain ⟨ox, od', P⟩ := exn_inst J e hd
  exact PySem.W.kia_one (PySem.W.kitx_exc T.cl T.ga T.gg T.be T.fc T.sp T.tk T.ob) J.kIn P kb (fun z => nomatch z) fun tk => ⟨.bl b, H, J.tok tk, rfl, q⟩
theorem call_isXT {X : Cx} : CallR X (.builtin "isinstance") (rIsXT X.K) := by
  intro pins s σ H xs us Q J r h
  obtain ⟨a, C, od, n, tp, cs, ws, b, rfl, hT, k, e, hd, T, kb, q⟩ := h
  obtain ⟨u1, u2, rfl, r1, r2⟩ := vals2 r
  cases (show u1 = Value.ref a from r1)
  cases (show u2 = Value.ref tp from r2)
  obtain ⟨ox, od', P⟩ := exn_inst J e hd
  have tT : ObjOk X.prog X.w H s.heap tp (.tup cs) := J.hok tp _ hT
  obtain ⟨_, its, rv, ⟨oc, o2, dt, sl⟩, h1, h2, m, h3⟩ := tT
  have e3 := ClsV.all k rv
  subst e3
  dsimp only at h2 h3
  subst h2 h3
  exact PySem.W.kia_tup (PySem.W.kitx_exc T.cl T.ga T.gg T.be T.fc T.sp T.tk T.ob) J.kIn P h1 kb (fun z => nomatch z) fun tk => ⟨.bl b, H, J.tok tk, rfl, q⟩
/-- isinstance(d, c): c a class of refusals -/
def isxD (ns : List XN) (c : XN) : List D → Option (Bool × D)
  | [.exn m _] => (match ns.elem m with | true => some (false, .bl (subX m c)) | false => none)
  | [.non] => some (false, .bl false)
  | _ => none
/-- isinstance(d, (c, ..)) -/
def isxTD (ns : List XN) (cs : List XN) : List D → Option (Bool × D)
  | [.exn m _] => (match ns.elem m with | true => some (false, .bl (cs.any (subX m))) | false => none)
  | [.non] => some (false, .bl false)
  | _ => none
/-- isinstance(d, ValueError) -/
def isvD (ns : List XN) : List D → Option (Bool × D)
  | [.exn m _] => (match ns.elem m with | true => some (false, .bl true) | false => none)
  | [.non] => some (false, .bl false)
  | _ => none
section
variable {K : PySem.W.Frag} {U : Addr → Prop} {H : Hp} {v : V}
theorem arExn2 {l : List (XN × Addr)} (T : XT K l) {m : XN} {fs : List (Str × D)} (h : ARep K U H (.exn m fs) v) (hm : (l.map (·.1)).elem m = true) : ∃ a C od, v = .ref a ∧ (m, C) ∈ l ∧ H a = some (exT a (.ref C) od) ∧ (∀ dx, od = some dx → ∃ ws, H dx = some (.xd ws)) ∧ XCl K m C := by
  unfold ARep Rep at h
  obtain ⟨a, c, od, ws, e, _, ha, hc, hx, _⟩ := h
  obtain ⟨C, rfl, hC⟩ := T.mem hm hc
  refine ⟨a, C, od, e, hC, ha, fun dx e1 => ?_, T.cl m C hC⟩
  rcases hx with ⟨_, e2⟩ | ⟨dx2, e2, _, h2⟩
  · rw [e1] at e2; cases e2
  · rw [e1] at e2
    cases e2
    exact ⟨ws, h2⟩
/-- any of the three, by one class -/
def rIsY (K : PySem.W.Frag) : List V → Hp → VK → Prop := fun xs H Q => rIsX K xs H Q ∨ rIsi K xs H Q
theorem call_isY {X : Cx} : CallR X (.builtin "isinstance") (rIsY X.K) := CallR_or call_isX call_isi
def rIsYT (K : PySem.W.Frag) : List V → Hp → VK → Prop := fun xs H Q => rIsXT K xs H Q ∨ rIsiT K xs H Q
theorem call_isYT {X : Cx} : CallR X (.builtin "isinstance") (rIsYT X.K) := CallR_or call_isXT call_isiT
theorem prim_isx {l : List (XN × Addr)} (T : XT K l) {c : XN} {C : Addr} (hc : (c, C) ∈ l) : Prim K (fun vs H Q => ∃ x, vs = [x] ∧ rIsY K [x, .ref C] H Q) (isxD (l.map (·.1)) c) := by
  intro U H ds vs Q b d hU ar e post
  unfold isxD at e
  split at e
  · rename_i m fs
    obtain ⟨v, rfl, h1⟩ := ar1 ar
    split at e
    · rename_i hm
      cases e
      obtain ⟨a, C1, od, rfl, hC1, ha, hd, X1⟩ := arExn2 T h1 hm
      exact ⟨_, rfl, .inl ⟨a, C1, od, m, _, _, _, rfl, .own C, ha, hd, X1, T.is _ _ _ _ hC1 hc, post _ H (Ext.refl H) (fun _ => repBl) (fun z => by cases z)⟩⟩
    · cases e
  · obtain ⟨v, rfl, h1⟩ := ar1 ar
    cases e
    rw [arNon h1]
    exact ⟨_, rfl, .inr ⟨_, _, _, _, _, rfl, .own C, .base .non, T.no _ _ hc, post _ H (Ext.refl H) (fun _ => repBl) (fun z => by cases z)⟩⟩
  · cases e
theorem prim_isv {l : List (XN × Addr)} (T : XT K l) (hv : PySem.W.kitOne K (.type "NoneType") (.type "ValueError") = some false) : Prim K (fun vs H Q => ∃ x, vs = [x] ∧ rIsY K [x, .ty "ValueError"] H Q) (isvD (l.map (·.1))) := by
  intro U H ds vs Q b d hU ar e post
  unfold isvD at e
  split at e
  · rename_i m fs
    obtain ⟨v, rfl, h1⟩ := ar1 ar
    split at e
    · rename_i hm
      cases e
      obtain ⟨a, C1, od, rfl, hC1, ha, hd, X1⟩ := arExn2 T h1 hm
      exact ⟨_, rfl, .inl ⟨a, C1, od, m, _, _, _, rfl, .ty _, ha, hd, X1, T.ve _ _ hC1, post _ H (Ext.refl H) (fun _ => repBl) (fun z => by cases z)⟩⟩
    · cases e
  · obtain ⟨v, rfl, h1⟩ := ar1 ar
    cases e
    rw [arNon h1]
    exact ⟨_, rfl, .inr ⟨_, _, _, _, _, rfl, .ty _, .base .non, hv, post _ H (Ext.refl H) (fun _ => repBl) (fun z => by cases z)⟩⟩
  · cases e
/-- the classes of a tuple, by their names -/
inductive InTab (l : List (XN × Addr)) : List XN → List Addr → Prop where
  | nil : InTab l [] []
  | cons {c : XN} {C : Addr} {cs : List XN} {Cs : List Addr} (h : (c, C) ∈ l) (r : InTab l cs Cs) : InTab l (c :: cs) (C :: Cs)
theorem InTab.any {l : List (XN × Addr)} (T : XT K l) {m : XN} {C1 : Addr} (h1 : (m, C1) ∈ l) : ∀ {cs : List XN} {Cs : List Addr}, InTab l cs Cs → PySem.W.kitAny K (.ref C1) (Cs.map Value.ref) = some (cs.any (subX m))
  | _, _, .nil => rfl
  | _, _, .cons h r => by
    rw [List.map_cons, List.any_cons]
    refine kitAny_cons (T.is _ _ _ _ h1 h) (fun e => ?_) fun e => ?_
    · rw [e, Bool.false_or]; exact InTab.any T h1 r
    · rw [e]; rfl
theorem InTab.non {l : List (XN × Addr)} (T : XT K l) : ∀ {cs : List XN} {Cs : List Addr}, InTab l cs Cs → PySem.W.kitAny K (.type "NoneType") (Cs.map Value.ref) = some false
  | _, _, .nil => rfl
  | _, _, .cons h r => by
    rw [List.map_cons]
    exact kitAny_cons (T.no _ _ h) (fun _ => InTab.non T r) fun e => by cases e
theorem InTab.cls {l : List (XN × Addr)} : ∀ {cs : List XN} {Cs : List Addr}, InTab l cs Cs → Paired ClsV (Cs.map V.ref) (Cs.map Value.ref)
  | _, _, .nil => .nil
  | _, _, .cons h r => .cons (.own _) (InTab.cls r)
theorem prim_isxT {l : List (XN × Addr)} (T : XT K l) {cs : List XN} {Cs : List Addr} (hc : InTab l cs Cs) : Prim K (fun vs H Q => ∃ x, vs = [x] ∧ ∀ p, H p = none → rIsYT K [x, .ref p] (upd H p (.tup (Cs.map V.ref))) Q) (isxTD (l.map (·.1)) cs) := by
  intro U H ds vs Q b d hU ar e post
  have ext : ∀ {p}, H p = none → Ext H (upd H p (.tup (Cs.map V.ref))) := fun {p} hp a o h => by
    rw [upd_ne (fun z => by rw [z, hp] at h; cases h)]
    exact h
  unfold isxTD at e
  split at e
  · rename_i m fs
    obtain ⟨v, rfl, h1⟩ := ar1 ar
    split at e
    · rename_i hm
      cases e
      obtain ⟨a, C1, od, rfl, hC1, ha, hd, X1⟩ := arExn2 T h1 hm
      refine ⟨_, rfl, fun p hp => .inl ⟨a, C1, od, m, p, _, _, _, rfl, upd_same, hc.cls, ext hp _ _ ha, fun dx e1 => ?_, X1, hc.any T hC1, post _ _ (ext hp) (fun _ => repBl) (fun z => by cases z)⟩⟩
      obtain ⟨ws, h2⟩ := hd dx e1
      exact ⟨ws, ext hp _ _ h2⟩
    · cases e
  · obtain ⟨v, rfl, h1⟩ := ar1 ar
    cases e
    rw [arNon h1]
    exact ⟨_, rfl, fun p hp => .inr ⟨_, p, _, _, _, _, rfl, upd_same, hc.cls, .base .non, hc.non T, post _ _ (ext hp) (fun _ => repBl) (fun z => by cases z)⟩⟩
  · cases e
end
section
variable {X : Cx} {W : WX} {l : List (XN × Addr)} {p p2 pos : Pos} {a : Expr} {fa : M R} {x : Str}
theorem e_isx {c : XN} {C : Addr} {ns : List XN} (T : XT X.K l) (hc : (c, C) ∈ l) (gC : X.mg x = some (.ref C)) (hg : Gl X "isinstance") (hm : X.mg "isinstance" = none) (hg2 : Gl X x) (ha : PE X a (RdE X.K W fa))
    (nd : (x == ("__debug__" : Str)) = false := by decide)
    (hns : l.map (·.1) = ns := by rfl) (he : starEach [a, .Name x p2] X.env = (false, eval a X.env) :: starEach [.Name x p2] X.env := by rfl) (he2 : starEach [.Name x p2] X.env = (false, eval (.Name x p2) X.env) :: starEach [] X.env := by rfl) (hpl : (backTo pos (starEach [.Name x p2] X.env)).any (·.1) = false := by rfl) :
    PE X (.Call (.Name "isinstance" p) [a, .Name x p2] [] pos) (RdE X.K W (opF (isxD ns c) (one fa))) := by
  subst hns
  exact pe_imp (pe_callB call_isY hg hm PyProof.Rows.boot_isinstance (pa_cons ha (pa_cons (pe_glob (v := .ref C) hg2 gC rfl nd) pa_nil he2) he) (by decide) (by decide) he hpl) fun σ H Q m => by
    refine RdE.mono (fun y H1 q => ?_) (imp1 (opImp (prim_isx T hc) m))
    obtain ⟨x', e, z⟩ := q
    cases e
    exact z
theorem e_isv {ns : List XN} (T : XT X.K l) (hv : PySem.W.kitOne X.K (.type "NoneType") (.type "ValueError") = some false) (hg : Gl X "isinstance") (hm : X.mg "isinstance" = none) (hg2 : Gl X "ValueError") (hm2 : X.mg "ValueError" = none) (ha : PE X a (RdE X.K W fa))
    (hns : l.map (·.1) = ns := by rfl) (he : starEach [a, .Name "ValueError" p2] X.env = (false, eval a X.env) :: starEach [.Name "ValueError" p2] X.env := by rfl) (he2 : starEach [.Name "ValueError" p2] X.env = (false, eval (.Name "ValueError" p2) X.env) :: starEach [] X.env := by rfl) (hpl : (backTo pos (starEach [.Name "ValueError" p2] X.env)).any (·.1) = false := by rfl) :
    PE X (.Call (.Name "isinstance" p) [a, .Name "ValueError" p2] [] pos) (RdE X.K W (opF (isvD ns) (one fa))) := by
  subst hns
  exact pe_imp (pe_callB call_isY hg hm PyProof.Rows.boot_isinstance (pa_cons ha (pa_cons (pe_bltn (v := .ty "ValueError") hg2 hm2 PyProof.Rows.Boot.«ValueError» rfl (by decide) (by decide)) pa_nil he2) he) (by decide) (by decide) he hpl) fun σ H Q m => by
    refine RdE.mono (fun y H1 q => ?_) (imp1 (opImp (prim_isv T hv) m))
    obtain ⟨x', e, z⟩ := q
    cases e
    exact z
/-- names of classes, one behind the other -/
theorem pa_clsN {es : List Expr} {Cs : List Addr} {C : Addr} (gC : X.mg x = some (.ref C)) (hg : Gl X x) (h : PA X es (fun _ H Q => Q (Cs.map V.ref) H)) (nd : (x == ("__debug__" : Str)) = false := by decide)
    (he : starEach (.Name x p :: es) X.env = (false, eval (.Name x p) X.env) :: starEach es X.env := by rfl) : PA X (.Name x p :: es) (fun _ H Q => Q ((C :: Cs).map V.ref) H) :=
  pa_imp (pa_cons (pe_glob (v := .ref C) hg gC rfl nd) h he) fun σ H Q m => m
theorem pa_cls0 : PA X [] (fun _ H Q => Q (([] : List Addr).map V.ref) H) := pa_imp pa_nil fun σ H Q m => m
theorem e_isxT {cs : List XN} {Cs : List Addr} {es : List Expr} {k : Nat} {ns : List XN} (T : XT X.K l) (hc : InTab l cs Cs) (hn : PA X es (fun _ H Q => Q (Cs.map V.ref) H)) (hz : (Cs.map V.ref).length ≤ sizeLine) (hg : Gl X "isinstance") (hm : X.mg "isinstance" = none) (ha : PE X a (RdE X.K W fa))
    (hns : l.map (·.1) = ns := by rfl) (he : starEach [a, .Tuple es k p2] X.env = (false, eval a X.env) :: starEach [.Tuple es k p2] X.env := by rfl) (he2 : starEach [.Tuple es k p2] X.env = (false, eval (.Tuple es k p2) X.env) :: starEach [] X.env := by rfl) (hpl : (backTo pos (starEach [.Tuple es k p2] X.env)).any (·.1) = false := by rfl) :
    PE X (.Call (.Name "isinstance" p) [a, .Tuple es k p2] [] pos) (RdE X.K W (opF (isxTD ns cs) (one fa))) := by
  subst hns
  exact pe_imp (pe_callB call_isYT hg hm PyProof.Rows.boot_isinstance (pa_cons ha (pa_cons (pe_tup hn) pa_nil he2) he) (by decide) (by decide) he hpl) fun σ H Q m => by
    refine RdE.mono (fun y H1 q => ?_) (imp1 (opImp (prim_isxT T hc) m))
    obtain ⟨x', e, z⟩ := q
    cases e
    exact ⟨hz, fun q hq => z q hq⟩
/-- its field -/
def fldD (ns : List XN) (f : Str) : List D → Option (Bool × D)
  | [.exn m fs] => (match ns.elem m with | true => (fs.lookup f).map fun d => (false, d) | false => none)
  | _ => none
end
def fnoB (K : PySem.W.Frag) (l : List (XN × Addr)) (f : Str) : Bool := l.all fun p => decide (PySem.W.findIn K (.ref p.2) f = some none)
theorem RepF.look {K : PySem.W.Frag} {U : Addr → Prop} {H : Hp} {f : Str} {d : D} : ∀ {fs : List (Str × D)} {ws : List (Str × V)}, RepF K U H fs ws → fs.lookup f = some d → ∃ v, ws.lookup f = some v ∧ Rep K U H d v
  | [], _, _, e => by cases e
  | (g, d1) :: fs, ws, r, e => by
    unfold RepF at r
    obtain ⟨v, s, rfl, h1, h2⟩ := r
    rw [List.lookup_cons] at e ⊢
    cases q : f == g with
    | true =>
      rw [q] at e
      cases e
      exact ⟨v, rfl, h1⟩
    | false =>
      rw [q] at e
      exact RepF.look h2 e
def rFld (K : PySem.W.Frag) (f : Str) : V → Hp → VK → Prop := fun x H Q => ∃ (a C dx : Addr) (m : XN) (fs : List (Str × V)) (v : V), x = .ref a ∧ H a = some (exT a (.ref C) (some dx)) ∧ H dx = some (.xd fs) ∧ fs.lookup f = some v ∧ XCl K m C ∧ PySem.W.findIn K (.ref C) f = some none ∧ Q v H
theorem pe_fldX {X : Cx} {e : Expr} {te : TE} {f : Str} {pos : Pos} (he : PE X e te) (hb : attributeBase e f X.env (eval e X.env) = eval e X.env := by rfl) : PE X (.Attribute e f pos) (fun σ H Q => te σ H fun x H1 => rFld X.K f x H1 Q) := by
  constructor
  intro pins s σ H Q J q
  refine attr_of hb (thn (he.run pins s σ H _ J q) ?_)
  rintro u s1 ⟨x, H1, J1, rx, a, C, dx, m, fs, v, rfl, ha, hx, lk, T, hno, q⟩
  cases (show u = Value.ref a from rx)
  obtain ⟨o, vs, at1, z, dt⟩ := exT_at J1.hok ha
  have tx : ObjOk X.prog X.w H1 s1.heap dx (.xd fs) := J1.hok dx _ hx
  obtain ⟨mA, hns, rel⟩ := tx
  obtain ⟨od, ho, hl⟩ := lookIn_ns hns
  obtain ⟨w, hw, rw'⟩ := RelO.some_of (v := v) (o := mA f) (by rw [← lk]; exact rel f)
  have P : PySem.W.InstAt s1.heap a o C (some od) := ⟨at1, z.1, by unfold PySem.W.notCls; rw [dt] <;> rfl, by rw [z.2]; exact ho⟩
  exact HandSPX.exc_get J1.kIn P T.ga T.gg T.be (PySem.W.findObj_own T.hd hno rfl (by rw [hl, hw])) (handed_of rw') ⟨v, H1, J1.tok _, rw', q⟩
theorem prim_fld {K : PySem.W.Frag} {l : List (XN × Addr)} (T : XT K l) {f : Str} (hf : fnoB K l f = true) : Prim K (fun vs H Q => ∃ x, vs = [x] ∧ rFld K f x H Q) (fldD (l.map (·.1)) f) := by
  intro U H ds vs Q b d hU ar e post
  unfold fldD at e
  split at e
  · rename_i m fs
    obtain ⟨v, rfl, h1⟩ := ar1 ar
    split at e
    · rename_i hm
      cases q : fs.lookup f with
      | none => rw [q] at e; cases e
      | some d1 =>
        rw [q] at e
        cases e
        unfold ARep Rep at h1
        obtain ⟨a, c, od, ws, rfl, _, ha, hc, hx, rf⟩ := h1
        obtain ⟨C, rfl, hC⟩ := T.mem hm hc
        obtain ⟨v, lk, rv⟩ := rf.look q
        rcases hx with ⟨e2, _⟩ | ⟨dx, e2, _, h2⟩
        · subst e2; cases lk
        · subst e2
          unfold fnoB at hf
          have hno := of_decide_eq_true (List.all_eq_true.mp hf _ hC)
          exact ⟨_, rfl, a, C, dx, m, ws, v, rfl, ha, h2, lk, T.cl _ _ hC, hno, post v H (Ext.refl H) (fun _ => rv) (fun z => by cases z)⟩
    · cases e
  · cases e
theorem e_fld {X : Cx} {W : WX} {l : List (XN × Addr)} {ns : List XN} {e : Expr} {fa : M R} {f : Str} {pos : Pos} (T : XT X.K l) (hf : fnoB X.K l f = true) (ha : PE X e (RdE X.K W fa)) (hns : l.map (·.1) = ns := by rfl) (hb : attributeBase e f X.env (eval e X.env) = eval e X.env := by rfl) :
    PE X (.Attribute e f pos) (RdE X.K W (opF (fldD ns f) (one fa))) := by
  subst hns
  exact pe_imp (pe_fldX ha hb) fun σ H Q m => by
    refine RdE.mono (fun y H1 q => ?_) (imp1 (opImp (prim_fld T hf) m))
    obtain ⟨x', e, z⟩ := q
    cases e
    exact z
end PyD

end

namespace PyD
open PySem PySem.Spec L2
section
variable {α β : Type} {en en' : En} {x : Ex → En → Prop} {k : Fl → Prop}
theorem os_rs {n : XN} : okS (rsF n) en k = k (.exc ⟨n, none⟩ en) := rfl
def rsOK (n : XN) (f : Str) (en1 : En) (k : Fl → Prop) (rs : List R) (_ : Tg k := ⟨⟩) : Prop := match rs with
  | [.sh d] => k (.exc ⟨n, some (f, d)⟩ en1)
  | _ => False
theorem rsOK_sh {n : XN} {f : Str} {d : D} : rsOK n f en k [.sh d] = k (.exc ⟨n, some (f, d)⟩ en) := rfl
theorem os_rsO {n : XN} {f : Str} {fs : M (List R)} : okS (rsO n f fs) en k = okE fs en (fun rs en1 => rsOK n f en1 k rs) fun e en => k (.exc e en) := by
  unfold okS okE rsO
  cases fs en with
  | bad => rfl
  | exc e en1 => rfl
  | ok rs en1 =>
    match rs with
    | [] => rfl
    | [.sh d] => rfl
    | [.fr d] => rfl
    | [.sl d] => rfl
    | .sh _ :: _ :: _ => rfl
    | .fr _ :: _ :: _ => rfl
    | .sl _ :: _ :: _ => rfl
def goneK (i : Nat) (k : Fl → Prop) (o : Fl) (_ : Tg k := ⟨⟩) : Prop := match o with
  | .nx en => freeAt en i = true ∧ k (.nx (en.set i .e))
  | .bk en => freeAt en i = true ∧ k (.bk (en.set i .e))
  | .ct en => freeAt en i = true ∧ k (.ct (en.set i .e))
  | .rt (.sh d) en => freeAt en i = true ∧ k (.rt (.sh d) (en.set i .e))
  | _ => False
theorem goneK_nx {i : Nat} : goneK i k (.nx en) = (freeAt en i = true ∧ k (.nx (en.set i .e))) := rfl
theorem goneK_rt {i : Nat} {d : D} : goneK i k (.rt (.sh d) en) = (freeAt en i = true ∧ k (.rt (.sh d) (en.set i .e))) := rfl
def tryK (ns : List XN) (c : XN) (i : Nat) (fs : En → Fl) (k : Fl → Prop) (o : Fl) (_ : Tg k := ⟨⟩) : Prop := match o with
  | .exc e en1 => ns.elem e.cls = true ∧ bi (subX e.cls c) (freeAt en1 i = true ∧ okS fs (en1.set i (.v (exD e))) fun o => goneK i k o) (k (.exc e en1))
  | .bad => False
  | o => k o
theorem tryK_nx {ns : List XN} {c : XN} {i : Nat} {fs : En → Fl} : tryK ns c i fs k (.nx en) = k (.nx en) := rfl
theorem tryK_rt {ns : List XN} {c : XN} {i : Nat} {fs : En → Fl} {r : R} : tryK ns c i fs k (.rt r en) = k (.rt r en) := rfl
theorem tryK_exc {ns : List XN} {c : XN} {i : Nat} {fs : En → Fl} {n : XN} {fl : Option (Str × D)} : tryK ns c i fs k (.exc ⟨n, fl⟩ en) = (ns.elem n = true ∧ bi (subX n c) (freeAt en i = true ∧ okS fs (en.set i (.v (exD ⟨n, fl⟩))) fun o => goneK i k o) (k (.exc ⟨n, fl⟩ en))) := rfl
theorem os_try {ns : List XN} {c : XN} {i : Nat} {fb fs : En → Fl} : okS (tryF ns c i fb fs) en k = okS fb en fun o => tryK ns c i fs k o := by
  unfold okS tryF
  cases fb en with
  | exc e en1 =>
    dsimp only [tryK]
    cases h1 : ns.elem e.cls with
    | false => simp
    | true =>
      cases h2 : subX e.cls c with
      | false => simp [bi]
      | true =>
        cases h3 : freeAt en1 i with
        | false => simp [bi]
        | true =>
          simp only [bi_true, true_and, okS]
          cases fs (en1.set i (.v (exD e))) with
          | nx en2 => dsimp only [goneF, goneK]; cases freeAt en2 i <;> simp
          | bk en2 => dsimp only [goneF, goneK]; cases freeAt en2 i <;> simp
          | ct en2 => dsimp only [goneF, goneK]; cases freeAt en2 i <;> simp
          | rt r en2 =>
            cases r with
            | sh d => dsimp only [goneF, goneK]; cases freeAt en2 i <;> simp
            | fr d => rfl
            | sl d => rfl
          | exc e2 en2 => rfl
          | bad => rfl
  | _ => rfl
theorem os_endTr {ms : List Bool} {ns : List XN} {c : XN} {i : Nat} {fb fs : En → Fl} : okS (endF ms (tryF ns c i fb fs)) en k = okS (tryF ns c i fb fs) en fun o => endK ms k o := os_end
theorem exD_none {n : XN} : exD ⟨n, none⟩ = .exn n [] := rfl
theorem exD_some {n : XN} {f : Str} {d : D} : exD ⟨n, some (f, d)⟩ = .exn n [(f, d)] := rfl
theorem exF_none {n : XN} : excFlat ⟨n, none⟩ = true := rfl
theorem exF_some {n : XN} {f : Str} {d : D} : excFlat ⟨n, some (f, d)⟩ = flatD d := rfl
theorem isx_non {ns : List XN} {c : XN} : isxD ns c [.non] = some (false, .bl false) := rfl
theorem isxT_non {ns : List XN} {cs : List XN} : isxTD ns cs [.non] = some (false, .bl false) := rfl
theorem isv_non {ns : List XN} : isvD ns [.non] = some (false, .bl false) := rfl
variable {k2 : Bool × D → Prop}
theorem okL_isx {ns : List XN} {c m : XN} {fs : List (Str × D)} : okL (isxD ns c [.exn m fs]) k2 = (ns.elem m = true ∧ k2 (false, .bl (subX m c))) := by
  unfold isxD
  dsimp only
  generalize ns.elem m = b
  cases b <;> simp [okL]
theorem okL_isxT {ns : List XN} {cs : List XN} {m : XN} {fs : List (Str × D)} : okL (isxTD ns cs [.exn m fs]) k2 = (ns.elem m = true ∧ k2 (false, .bl (cs.any (subX m)))) := by
  unfold isxTD
  dsimp only
  generalize ns.elem m = b
  cases b <;> simp [okL]
theorem okL_isv {ns : List XN} {m : XN} {fs : List (Str × D)} : okL (isvD ns [.exn m fs]) k2 = (ns.elem m = true ∧ k2 (false, .bl true)) := by
  unfold isvD
  dsimp only
  generalize ns.elem m = b
  cases b <;> simp [okL]
theorem okL_fld {ns : List XN} {m : XN} {f : Str} {d : D} : okL (fldD ns f [.exn m [(f, d)]]) k2 = (ns.elem m = true ∧ k2 (false, d)) := by
  unfold fldD
  dsimp only
  generalize ns.elem m = b
  cases b <;> simp [okL]
theorem is_xn {n : Bool} {m : XN} {fs : List (Str × D)} : isOp n [.exn m fs, .non] = some (false, .bl (false != n)) := rfl
end
/-! what is not left undone stays, where a raise stands for what was never reached -/
def leF (f g : En → Fl) : Prop := ∀ en, f en = .bad ∨ g en = f en
def leE {α : Type} (f g : M α) : Prop := ∀ en, f en = .bad ∨ g en = f en
def leO (φ ψ : List D → Out) : Prop := ∀ ds, φ ds = .bad ∨ ψ ds = φ ds
theorem leF_refl {f : En → Fl} : leF f f := fun _ => .inr rfl
theorem leE_refl {α : Type} {f : M α} : leE f f := fun _ => .inr rfl
theorem leF_bad {g : En → Fl} : leF badF g := fun _ => .inl rfl
theorem leF_seq {f f' g g' : En → Fl} (h : leF f f') (h' : leF g g') : leF (seqF f g) (seqF f' g') := fun en => by
  unfold seqF
  rcases h en with e | e
  · rw [e]; exact .inl rfl
  · rw [e]
    cases q : f en with
    | nx en1 => exact h' en1
    | _ => exact .inr rfl
theorem leF_if {t : M Bool} {f f' g g' : En → Fl} (h : leF f f') (h' : leF g g') : leF (ifS t f g) (ifS t f' g') := fun en => by
  unfold ifS
  cases t en with
  | bad => exact .inl rfl
  | exc e en1 => exact .inr rfl
  | ok b en1 =>
    cases b
    · exact h' en1
    · exact h en1
theorem leF_end {m : List Bool} {f f' : En → Fl} (h : leF f f') : leF (endF m f) (endF m f') := fun en => by
  unfold endF
  rcases h en with e | e
  · rw [e]; exact .inl rfl
  · rw [e]; exact .inr rfl
theorem leF_bod {m : List Bool} {f f' : En → Fl} (h : leF f f') : leF (bodF m f) (bodF m f') := fun en => by
  unfold bodF
  rcases h en with e | e
  · rw [e]; exact .inl rfl
  · rw [e]; exact .inr rfl
theorem leF_frL {g : D → M Unit} {f f' : En → Fl} (h : leF f f') : ∀ ds, leF (frL g f ds) (frL g f' ds)
  | [], en => .inr rfl
  | d :: ds, en => by
    unfold frL
    cases g d en with
    | bad => exact .inl rfl
    | exc e en1 => exact .inl rfl
    | ok u en1 =>
      dsimp only
      rcases h en1 with e | e
      · rw [e]; exact .inl rfl
      · rw [e]
        cases q : f en1 with
        | nx en2 => exact leF_frL h ds en2
        | ct en2 => exact leF_frL h ds en2
        | _ => exact .inr rfl
theorem leF_fr {it : M (List D)} {g : D → M Unit} {f f' : En → Fl} (h : leF f f') : leF (frF it g f) (frF it g f') := fun en => by
  unfold frF
  cases it en with
  | bad => exact .inl rfl
  | exc e en1 => exact .inr rfl
  | ok ds en1 => exact leF_frL h ds en1
theorem leF_wh {t : M Bool} {f f' : En → Fl} (h : leF f f') : ∀ n, leF (whF t f n) (whF t f' n)
  | 0, en => .inl rfl
  | n + 1, en => by
    unfold whF
    cases t en with
    | bad => exact .inl rfl
    | exc e en1 => exact .inr rfl
    | ok b en1 =>
      cases b with
      | false => exact .inr rfl
      | true =>
        dsimp only
        rcases h en1 with e | e
        · rw [e]; exact .inl rfl
        · rw [e]
          cases q : f en1 with
          | nx en2 => exact leF_wh h n en2
          | ct en2 => exact leF_wh h n en2
          | _ => exact .inr rfl
theorem leE_call {io : List Bool} {φ ψ : List D → Out} {fs : M (List R)} (h : leO φ ψ) : leE (callF io φ fs) (callF io ψ fs) := fun en => by
  unfold callF
  cases fs en with
  | bad => exact .inl rfl
  | exc e en1 => exact .inr rfl
  | ok rs en1 =>
    dsimp only
    cases rsls en1 rs with
    | none => exact .inl rfl
    | some ds =>
      dsimp only
      cases lentOk io rs && nodupB (slotsOf rs) with
      | false => exact .inl rfl
      | true =>
        dsimp only
        rcases h ds with e | e
        · rw [e]; exact .inl rfl
        · rw [e]; exact .inr rfl
theorem leE_cons {f f' : M R} {fs fs' : M (List R)} (h : leE f f') (h' : leE fs fs') : leE (consF f fs) (consF f' fs') := fun en => by
  unfold consF
  rcases h en with e | e
  · rw [e]; exact .inl rfl
  · rw [e]
    cases f en with
    | bad => exact .inl rfl
    | exc e en1 => exact .inr rfl
    | ok r en1 =>
      dsimp only
      rcases h' en1 with e | e
      · rw [e]; exact .inl rfl
      · rw [e]; exact .inr rfl
theorem leE_op {g : List D → Option (Bool × D)} {fs fs' : M (List R)} (h : leE fs fs') : leE (opF g fs) (opF g fs') := fun en => by
  unfold opF
  rcases h en with e | e
  · rw [e]; exact .inl rfl
  · rw [e]; exact .inr rfl
theorem leE_tstB {f f' : M R} (h : leE f f') : leE (tstB f) (tstB f') := fun en => by
  unfold tstB
  rcases h en with e | e
  · rw [e]; exact .inl rfl
  · rw [e]; exact .inr rfl
theorem leE_tstF {f f' : M R} (h : leE f f') : leE (tstF f) (tstF f') := fun en => by
  unfold tstF
  rcases h en with e | e
  · rw [e]; exact .inl rfl
  · rw [e]; exact .inr rfl
theorem leE_itA {g : List D → Option (List D)} {fs fs' : M (List R)} (h : leE fs fs') : leE (itA g fs) (itA g fs') := fun en => by
  unfold itA
  rcases h en with e | e
  · rw [e]; exact .inl rfl
  · rw [e]; exact .inr rfl
theorem leF_fri {it it' : M (List D)} {g : D → M Unit} {f f' : En → Fl} (hi : leE it it') (h : leF f f') : leF (frF it g f) (frF it' g f') := fun en => by
  unfold frF
  rcases hi en with e | e
  · rw [e]; exact .inl rfl
  · rw [e]
    cases it en with
    | bad => exact .inl rfl
    | exc e en1 => exact .inr rfl
    | ok ds en1 => exact leF_frL h ds en1
theorem leF_dr {f f' : M R} (h : leE f f') : leF (drF f) (drF f') := fun en => by
  unfold drF
  rcases h en with e | e
  · rw [e]; exact .inl rfl
  · rw [e]; exact .inr rfl
theorem leF_rt {f f' : M R} (h : leE f f') : leF (rtF f) (rtF f') := fun en => by
  unfold rtF
  rcases h en with e | e
  · rw [e]; exact .inl rfl
  · rw [e]; exact .inr rfl
theorem leF_asV {i : Nat} {f f' : M R} (h : leE f f') : leF (asV i f) (asV i f') := fun en => by
  unfold asV
  rcases h en with e | e
  · rw [e]; exact .inl rfl
  · rw [e]; exact .inr rfl
theorem leF_asO {i : Nat} {f f' : M R} (h : leE f f') : leF (asO i f) (asO i f') := fun en => by
  unfold asO
  rcases h en with e | e
  · rw [e]; exact .inl rfl
  · rw [e]; exact .inr rfl
theorem leO_run {io : List Bool} {n : Nat} {f g : En → Fl} (h : leF f g) : leO (runF io n f) (runF io n g) := fun ds => by
  unfold runF
  rcases h (mkE io ds ++ List.replicate n .e) with e | e
  · rw [e]; exact .inl rfl
  · rw [e]; exact .inr rfl
theorem okO_le {φ ψ : List D → Out} (h : leO φ ψ) {ds : List D} {K : Out → Prop} (q : okO (φ ds) K) : okO (ψ ds) K := by
  rcases h ds with e | e
  · rw [e] at q
    exact False.elim q
  · rw [e]
    exact q
/-! a, (b, c) as a comprehension's target -/
theorem tgPq {K : PySem.W.Frag} (i : Nat) (is : List Nat) : TgW K (gPq i is) (gTup K 2 (gCons (gName i) (gCons (gTup K is.length (gNames is)) gNil))) (i :: is) := fun {B H σ en en2 d v ws Q} his G r e q => by
  unfold gPq at e
  cases hd : prD d with
  | none => rw [hd] at e; cases e
  | some p =>
    obtain ⟨x, ys⟩ := p
    rw [hd] at e
    obtain rfl := prD_some hd
    dsimp only at e
    unfold Rep at r
    obtain ⟨a, vs, e1, nu, ha, r⟩ := r
    obtain ⟨v1, us, rfl, r1, r2⟩ := r.inv
    obtain ⟨v2, us2, rfl, r3, r4⟩ := r2.inv
    obtain rfl := r4.nil_inv
    cases hf : freeAt en i with
    | false => rw [hf] at e; cases e
    | true =>
      rw [hf] at e
      dsimp only at e
      have st : Stp σ en H (σ.set i (some v1)) (en.set i (.v x)) H := Stp.set_v hf
      have G1 : Good K B H (σ.set i (some v1)) (en.set i (.v x)) := G.set_v (fun _ h => h) (freeAt_lt hf).1 r1
      have r5 : Rep K (Un B (σ.set i (some v1)) (en.set i (.v x))) H (.tup ys) v2 := Rep.to (stepTo st (Bx.refl B σ en H)) _ _ r3
      unfold Rep at r5
      obtain ⟨a2, xs2, e2, nu2, ha2, r6⟩ := r5
      refine ⟨a, _, e1, SqT.of ha, rfl, v1, _, rfl, v2, _, rfl, a2, xs2, e2, SqT.of ha2, by rw [r6.len, gNms_len e], ?_⟩
      exact gNmsW (fun j hj => his j (List.mem_cons_of_mem _ hj)) G1 r6 e fun σ' g s w => ⟨rfl, q σ' g (st.trans s) (w.trans (wipe_set (his i List.mem_cons_self)))⟩
end PyD

section
set_option maxHeartbeats 4000000
/-! sorted(set(x)) of a text -/
namespace PyD
open PySem PySem.Spec L2 PyProof.Rows PySem.Froz
theorem tail_ris {ep : Nat} {es1 : Array (Int × Value)} {t2 : SetTable} {wd : Bool} (r : Ris t2.place.toList) : Ris (tailTx ep es1 t2 wd).2.2.place.toList := by
  unfold tailTx
  by_cases c : (!wd && t2.tooFull) = true
  · rw [if_pos c]; exact relayAll_ris _ _ _
  · rw [if_neg c]; exact r
theorem tail_led {ep : Nat} {es1 : Array (Int × Value)} {t2 : SetTable} {wd : Bool} : (tailTx ep es1 t2 wd).2.2.led = t2.led := by
  unfold tailTx
  by_cases c : (!wd && t2.tooFull) = true
  · rw [if_pos c]; exact relayAll_led _ _ _
  · rw [if_neg c]
theorem addTx_ris {h : Int} {v : Value} {D : SD} (r : Ris D.2.2.place.toList) : Ris (addTx h v D).2.2.place.toList := by
  have h1 := layNew_ris D.2.2 D.1 h v r
  refine tail_ris ?_
  by_cases c : (layNew D.2.2 D.1 h v).2.1.plain = true
  · rw [if_pos c]; exact h1
  · rw [if_neg c]; exact h1
theorem addTx_led {h : Int} {v : Value} {D : SD} : (addTx h v D).2.2.led = D.2.2.led := by
  have h1 := layNew_led D.2.2 D.1 h v
  refine tail_led.trans ?_
  by_cases c : (layNew D.2.2 D.1 h v).2.1.plain = true
  · rw [if_pos c]; exact h1
  · rw [if_neg c]; exact h1
section
variable {P : Program} {w : World} {A : Around} {E : Value → Shared → Prop} {s : Shared}
theorem found_x {a : Addr} {T : String} {D : SD} {l : List Str} {k : Str} {u : Tok} {Q : Bool → Shared → Prop} (ho : s.heap.get? a = some (sObj T D)) (F : TxOk P w D l) (hk : k ∈ l) (hb : l.length < scanBound)
    (h : Q false s) : wpAny (model P w) A (setAddHashed a (.str k u) (hashStr w k)) Q E s := by
  obtain ⟨es, ep, t⟩ := D
  have hd : (sObj T (es, ep, t)).data = .set es ep t := rfl
  have hf : t.fits es.size = true := F.fit
  have hel : ElemsOf (strKind P w) es.toList := F.el
  have hsz : es.size = l.length := F.sz
  have hb0 : es.size < scanBound := by omega
  have hkey : (strKind P w).is k (.str k u) = true := is_str k u
  obtain ⟨e, he, hp⟩ := (F.mem k).mp hk
  unfold setAddHashed setAddHashedIn
  refine wpAny_holding (wpAny_bind (wpAny_setState_of ho hd hf ?_))
  dsimp only
  rw [byScan_of rfl hb0 hel]
  simp only [↓reduceIte]
  unfold setAddByScan
  refine wpAny_bind ?_
  refine wpAny_bind (wpAny_rule ?_)
  refine wpAny_bind (wpAny_setScan_of (knd := strKind P w) (k := k) hkey ho hd hf hel ?_)
  cases hr : List.findIdx? (fun e => (strKind P w).is k e.2) es.toList with
  | some j =>
    dsimp only
    exact wpAny_pure (wpAny_pure h)
  | none =>
    have := List.findIdx?_eq_none_iff.mp hr e he
    rw [hp] at this
    cases this
/-- the set of a text's signs; it can be gone through -/
def SgX (P : Program) (w : World) (h : Heap) (a : Addr) (l : List Nat) : Prop := ∃ (m : List Nat) (D : SD), m.Nodup ∧ (∀ k, k ∈ m ↔ k ∈ l) ∧ h.get? a = some (sObj "set" D) ∧ TxOk P w D (m.map sing) ∧ Ris D.2.2.place.toList ∧
  (w.params.followText "set-order" = true ∨ D.2.2.led = true)
theorem sgx_update {I : Addr} {fp wr : List Addr} {G : Array GenState → Array GenState → Prop} {n : Nat} {St : Nat → Shared → Prop} {R : Result → Shared → Prop} {x : Str}
    (W : WalksS P w A.in1 I fp wr G n (SignAt x) St) (S : Addr) (hSf : S ∉ fp) (hn : n = x.cps.size) (hb : n + 1 < scanBound) :
    ∀ (k i : Nat) (s : Shared), n - i = k → i ≤ n → St i s → SgX P w s.heap S (x.cps.toList.take i) →
      (∀ s', Moved (S :: wr) G s s' → SgX P w s'.heap S x.cps.toList → R (.ok (.ret .none)) s') →
      codeAny (model P w) A (.builtin "set.update.loop" ⟨[.ref S, .ref I], []⟩) R s := by
  have hSw : S ∉ wr := fun h => hSf (W.sub _ h)
  have up : ∀ b ∈ wr, b ∈ S :: wr := fun b hb => List.mem_cons_of_mem _ hb
  have at_ : ∀ {h h' : Heap} {l : List Nat}, SgX P w h S l → (∀ o, h.get? S = some o → h'.get? S = some o) → SgX P w h' S l := fun {h h' l} ⟨m, D, h1, h2, ho, rest⟩ k => ⟨m, D, h1, h2, k _ ho, rest⟩
  intro k
  induction k with
  | zero =>
    intro i s hk' hi hst hS hR
    obtain rfl : i = n := by omega
    refine codeAny_builtin F.entry_set_update_loop ?_
    rw [Around.under_plainId F.plain_set_update_loop _]
    show wpAny _ A.in1 (pyNext (.ref I) >>= _) _ _ s
    refine wpAny_bind (W.done s _ _ hst fun s' hm => ?_)
    have e : x.cps.toList.take i = x.cps.toList := List.take_of_length_le (by rw [Array.length_toList]; omega)
    rw [e] at hS
    exact wpAny_pure (hR s' (hm.mono up) (at_ hS fun o e => hm.heap S o hSw e))
  | succ k ih =>
    intro i s hk' hi hst hS hR
    have hlt : i < n := by omega
    refine codeAny_builtin F.entry_set_update_loop ?_
    rw [Around.under_plainId F.plain_set_update_loop _]
    show wpAny _ A.in1 (pyNext (.ref I) >>= _) _ _ s
    refine wpAny_bind (W.item i s _ _ hlt hst fun v s' hP hst' hm => ?_)
    obtain ⟨c, t, hz, rfl⟩ := hP
    obtain ⟨m, D, hm1, hm2, ho, hF, hr, hl⟩ := at_ hS fun o e => hm.heap S o hSw e
    have hml : m.length ≤ i := by
      rw [dedS_len hm1 hm2]
      refine Nat.le_trans (dedS_le _) ?_
      rw [List.length_take]
      exact Nat.min_le_left ..
    have hz' : x.cps.toList[i]? = some c := by rw [Array.getElem?_toList]; exact hz
    have hlm : (m.map sing).length = m.length := List.length_map _
    show wpAny _ A.in1 (holding [Value.str ⟨#[c]⟩ t] (setAdd S (.str ⟨#[c]⟩ t)) >>= _) _ _ s'
    refine wpAny_bind (wpAny_holding ?_)
    unfold setAdd
    refine wpAny_holding ?_
    refine wpAny_bind ((PySem.strKind P w).pyHash (k := sing c) (strKind_is _ _ _ _) ?_)
    by_cases hc : c ∈ m
    · refine found_x (s := { s' with toks := s'.toks + 1 }) ho hF (List.mem_map.mpr ⟨c, hc, rfl⟩) (by omega) ?_
      have hS3 : SgX P w s'.heap S (x.cps.toList.take (i + 1)) := by
        refine ⟨m, D, hm1, fun k => ?_, ho, hF, hr, hl⟩
        rw [List.take_add_one, hz', hm2 k, List.mem_append]
        refine ⟨.inl, fun z => z.elim id fun z => ?_⟩
        rw [show k = c by simpa using z]
        exact (hm2 c).mp hc
      refine wpAny_pure ⟨plainId_quiet F.plain_set_update_loop _, ih (i + 1) _ (by omega) hlt (W.frame _ s' _ _ hst' (Nat.le_succ _) fun b hb o e => e) hS3 fun s'' hm'' hS'' => ?_⟩
      exact hR s'' (Moved.trans W.gtrans ((hm.mono up).then_heap (Nat.le_succ _) fun b o hb e => e) hm'') hS''
    · have hnk : sing c ∉ m.map sing := fun z => by
        obtain ⟨d, hd, e⟩ := List.mem_map.mp z
        rw [sg_inj e] at hd
        exact hc hd
      refine add_x (l := m.map sing) (s := { s' with toks := s'.toks + 1 }) ho hF hnk (by omega) ?_
      have hS3 : SgX P w (s'.heap.update S (fun _ => sObj "set" (addTx (hashStr w (sing c)) (.str (sing c) t) D))) S (x.cps.toList.take (i + 1)) := by
        refine ⟨c :: m, _, List.nodup_cons.mpr ⟨hc, hm1⟩, fun k => ?_, get_upd _ ho rfl, add_ok t hF, addTx_ris hr, ?_⟩
        · rw [List.take_add_one, hz', List.mem_cons, hm2 k, List.mem_append, or_comm]
          simp
        · rw [addTx_led]
          exact hl
      have hsb : ∀ b, b ≠ S → (s'.heap.update S (fun _ => sObj "set" (addTx (hashStr w (sing c)) (.str (sing c) t) D))).get? b = s'.heap.get? b := fun b hb => by
        exact PySem.Heap.get?_update_ne _ _ _ _ hb
      refine wpAny_pure ⟨plainId_quiet F.plain_set_update_loop _, ih (i + 1) _ (by omega) hlt (W.frame _ s' _ _ hst' (Nat.le_succ _) fun b hb o e => ?_) hS3 fun s'' hm'' hS'' => ?_⟩
      · exact (hsb b (fun h => hSf (h ▸ hb))).trans e
      · refine hR s'' (Moved.trans W.gtrans ((hm.mono up).then_heap (Nat.le_succ _) fun b o hb e => ?_) hm'') hS''
        exact (hsb b (fun h => hb (h ▸ List.mem_cons_self))).trans e
theorem sgx_nil {h : Heap} {a : Addr} (ho : h.get? a = some { cls := .type "set", dict := none, data := .set #[] 0 (.fresh 0 0 (!w.params.followText "set-order")) }) : SgX P w h a [] :=
  ⟨[], (#[], 0, .fresh 0 0 (!w.params.followText "set-order")), List.nodup_nil, fun _ => Iff.rfl, ho, TxOk.nil rfl, List.Pairwise.nil, by
    show _ ∨ (!w.params.followText "set-order") = true
    cases w.params.followText "set-order"
    · exact .inr rfl
    · exact .inl rfl⟩
theorem set_of_strX {x : Str} {tt : Tok} {Q : Value → Shared → Prop} (h0 : A.handled = none) (hk : x.cps.size + 1 < scanBound)
    (post : ∀ (g : Heap) (tk : Nat), SgX P w g s.heap.objs.size x.cps.toList → (∀ b o, s.heap.get? b = some o → g.get? b = some o) → Q (.ref s.heap.objs.size) { s with heap := g, toks := tk }) :
    wpAny (model P w) A (call (.type "set") [.str x tt]) Q E s := by
  obtain ⟨cc, tl, hmro⟩ := F.called_set.mro
  have c1 := F.called_set.made
  have c2 := F.called_set.sub
  refine wpAny_call (codeAny_of_tree ?_)
  show wpAny _ _ (callAny (.type "set") _) _ _ _
  refine wpAny_pure ⟨Code.quiet_builtin _ (by decide +kernel), codeAny_builtin F.entry_type_call ?_⟩
  rw [Around.under_plain (weight_type_call_type "set" [.str x tt] []) rfl]
  have c3 := F.called_set.notType
  have c4 := F.called_set.canCreate
  have c5 := F.typeCall_set_1 (.str x tt)
  repeat (any_goals (first | assumption | wp_step))
  refine codeAny_mono (code_set_led1 (.str x tt) (E := E) (Q₁ := fun ob t => ob = .ref s.heap.objs.size ∧ t = { s with heap := s.heap.push ({ cls := .type "set", dict := none, data := .set #[] 0 (.fresh 0 0 (!w.params.followText "set-order")) } : Obj) }) ⟨rfl, rfl⟩) fun r t hr => ?_
  cases r with
  | error e => exact hr
  | ok fl =>
    cases fl with
    | ret ob =>
      obtain ⟨rfl, rfl⟩ := hr
      have d1 : (s.heap.push ({ cls := .type "set", dict := none, data := .set #[] 0 (.fresh 0 0 (!w.params.followText "set-order")) } : Obj)).get? s.heap.objs.size = some ({ cls := .type "set", dict := none, data := .set #[] 0 (.fresh 0 0 (!w.params.followText "set-order")) } : Obj) := Heap.get?_push_size _ rfl
      have d2 : Shared.TypeIs { s with heap := s.heap.push ({ cls := .type "set", dict := none, data := .set #[] 0 (.fresh 0 0 (!w.params.followText "set-order")) } : Obj) } (.ref s.heap.objs.size) "set" := ⟨_, d1, rfl⟩
      have d3 := F.called_set.init.lookup
      have d4 := F.called_set.init.bind (.ref s.heap.objs.size)
      repeat (any_goals (first | assumption | wp_step))
      refine codeAny_mono (codeAny_call_builtin (R := wants (fun r t => r = .none ∧ ∃ g tk, t = { s with heap := g, toks := tk } ∧ SgX P w g s.heap.objs.size x.cps.toList ∧ ∀ b o, s.heap.get? b = some o → g.get? b = some o) E) F.called_set.init.plain F.entry_set_init (check_set_init_1 d2 ?_)) fun r2 t2 hr2 => ?_
      · have f3 : (Value.type "str" == Value.type "dict") = false := by decide
        have f1 : isSubtype (.type "str") (.type "set") = pure false := by rw [isSubtype_type]; kernel_rfl
        have f2 : isSubtype (.type "str") (.type "frozenset") = pure false := by rw [isSubtype_type]; kernel_rfl
        have f4 : Shared.TypeIs { s with heap := s.heap.push ({ cls := .type "set", dict := none, data := .set #[] 0 (.fresh 0 0 (!w.params.followText "set-order")) } : Obj) } (.str x tt) "str" := typeIs_str _ _ _
        unfold Builtin.«set.__init__» noKeywords Builtin.Frozenset.updateFrom
        generalize hIt : pyIter = IT
        wp_walk
        subst hIt
        refine wpAny_pyIter_str fun oi St hW hst => ?_
        refine wpAny_bind (wpAny_runValue ?_)
        have h3 : A.in1.in1.in1.handled = none := by simp [h0]
        have hps : (s.heap.push ({ cls := .type "set", dict := none, data := .set #[] 0 (.fresh 0 0 (!w.params.followText "set-order")) } : Obj)).objs.size = s.heap.objs.size + 1 := Heap.size_push ..
        have hSI : s.heap.objs.size ∉ [(s.heap.push ({ cls := .type "set", dict := none, data := .set #[] 0 (.fresh 0 0 (!w.params.followText "set-order")) } : Obj)).objs.size] := fun z =>
          absurd ((List.mem_singleton.mp z).trans hps) (Nat.ne_of_lt (Nat.lt_succ_self _))
        refine sgx_update ((hW _ h3).toS) s.heap.objs.size hSI rfl hk (x.cps.size - 0) 0 _ (by omega) (Nat.zero_le _) hst ?pa ?pb
        case pa => exact sgx_nil (Heap.get?_push_of_some _ d1)
        case pb =>
          intro t hmv hS
          obtain ⟨g, gg, dd, tk, oo⟩ := t
          obtain rfl : gg = s.gens := hmv.gens
          obtain rfl : dd = s.drawn := hmv.drawn
          obtain rfl : oo = s.os := hmv.os
          show wpAny _ _ _ _ _ _
          refine wpAny_pure ?_
          show wpAny _ _ (ret Value.none) _ _ _
          refine wpAny_pure ⟨rfl, g, tk, rfl, hS, fun b o q => ?_⟩
          have hb : b < s.heap.objs.size := Heap.lt_size q
          refine hmv.heap b o (fun z => ?_) (Heap.get?_push_of_some _ (Heap.get?_push_of_some _ q))
          rcases List.mem_cons.mp z with z | z
          · exact absurd z (Nat.ne_of_lt hb)
          · exact absurd ((List.mem_singleton.mp z).trans hps) (Nat.ne_of_lt (Nat.lt_succ_of_lt hb))
      · cases r2 with
        | error e => exact hr2
        | ok fl2 =>
          cases fl2 with
          | ret r =>
            obtain ⟨rfl, g, tk, rfl, hS, hkp⟩ := hr2
            repeat (any_goals (first | assumption | wp_step))
            exact post _ _ hS hkp
          | _ => exact hr2.elim
    | _ => exact hr.elim
end
theorem sgx_vals : ∀ {out : List Value}, (∀ v ∈ out, ∃ c t, v = Value.str (sing c) t) → ∃ cs : List Nat, cs.length = out.length ∧ Vals ((cs.map fun c => (Sum.inr (sing c) : Key)).map kV) out ∧ (∀ c, c ∈ cs ↔ ∃ t, Value.str (sing c) t ∈ out)
  | [], _ => ⟨[], rfl, .nil, fun c => ⟨(fun h => nomatch h), (fun ⟨t, h⟩ => nomatch h)⟩⟩
  | v :: r, h => by
    obtain ⟨c, t, rfl⟩ := h v (by simp)
    obtain ⟨cs, h0, h1, h2⟩ := sgx_vals (out := r) fun v hv => h v (by simp [hv])
    refine ⟨c :: cs, by rw [List.length_cons, List.length_cons, h0], .cons ⟨t, rfl⟩ h1, fun d => ?_⟩
    rw [List.mem_cons, h2 d]
    constructor
    · rintro (rfl | ⟨u, hu⟩)
      · exact ⟨t, List.mem_cons_self⟩
      · exact ⟨u, List.mem_cons_of_mem _ hu⟩
    · rintro ⟨u, hu⟩
      rcases List.mem_cons.mp hu with e | hu
      · have e2 : sing d = sing c := by injection e
        exact .inl (sg_inj e2)
      · exact .inr ⟨u, hu⟩
theorem alike_sg (cs : List Nat) : PySem.W.AllAlike (((cs.map fun c => (Sum.inr (sing c) : Key))).map pyK) := by
  intro d hd d' hd'
  obtain ⟨p, hp, rfl⟩ := List.mem_map.mp hd
  obtain ⟨p', hp', rfl⟩ := List.mem_map.mp hd'
  obtain ⟨q, _, rfl⟩ := List.mem_map.mp hp
  obtain ⟨q', _, rfl⟩ := List.mem_map.mp hp'
  rfl
theorem dedS_full : ∀ {l : List Nat}, (dedS l).length = l.length → l.Nodup
  | [], _ => List.nodup_nil
  | a :: r, h => by
    unfold dedS at h
    split at h
    · have := dedS_le r
      rw [List.length_cons] at h
      omega
    · rename_i ha
      rw [List.length_cons, List.length_cons] at h
      exact List.nodup_cons.mpr ⟨ha, dedS_full (by omega)⟩
def leSg (a b : Nat) : Bool := decide (a ≤ b)
/-- a text's signs in order, each once -/
def tsort (l : List Nat) : List Nat := (dedS l).mergeSort leSg
theorem leSg_trans : ∀ a b c : Nat, leSg a b = true → leSg b c = true → leSg a c = true := fun a b c h h' => by
  unfold leSg at *
  rw [decide_eq_true_eq] at *
  omega
theorem leSg_total : ∀ a b : Nat, (leSg a b || leSg b a) = true := fun a b => by
  unfold leSg
  rw [Bool.or_eq_true, decide_eq_true_eq, decide_eq_true_eq]
  omega
theorem leSg_key (a b : Nat) : leSg a b = PySem.W.dataLe false pyK (.inr (sing a)) (.inr (sing b)) := by
  show _ = !(PyProof.Rows.listOrd PyProof.Rows.itemOrd).blt (PySem.W.keyToks (.str (sing b))) (PySem.W.keyToks (.str (sing a)))
  have e : ∀ p : Nat, PySem.W.keyToks (.str (sing p)) = [.inr [p]] := fun p => rfl
  rw [e, e]
  show _ = !PyProof.Rows.lexLt PyProof.Rows.itemOrd [.inr [b]] [.inr [a]]
  have l2 : ∀ x y : List Nat, PyProof.Rows.itemOrd.blt (.inr x) (.inr y) = decide (x < y) := fun _ _ => rfl
  simp only [PyProof.Rows.lex_cons, l2, PyProof.Rows.lexLt, Bool.and_false, Bool.or_false]
  unfold leSg
  have h1 : ([b] < [a]) = (b < a) := by simp [List.cons_lt_cons_iff]
  have h2 : itemLt (Sum.inr [b]) (Sum.inr [a]) = decide (b < a) := (show itemLt (Sum.inr [b]) (Sum.inr [a]) = decide ([b] < [a]) from rfl).trans (decide_eq_decide.mpr (by rw [h1]))
  rw [h2, Bool.eq_iff_iff]
  simp
theorem sortK_sg {out l : List Nat} (nd : out.Nodup) (hm : ∀ k, k ∈ out ↔ k ∈ l) : (sortK (out.map fun c => (Sum.inr (sing c) : Key))).map kV = (tsort l).map fun c => V.str (sing c) := by
  unfold sortK tsort
  rw [← List.map_mergeSort (r := leSg) (s := PySem.W.dataLe false pyK) (f := fun c => (Sum.inr (sing c) : Key)) (fun a _ b _ => leSg_key a b), List.map_map]
  have p : out.Perm (dedS l) := (List.perm_ext_iff_of_nodup nd (dedS_nodup l)).mpr fun k => by rw [hm, dedS_mem]
  have e : out.mergeSort leSg = (dedS l).mergeSort leSg := by
    refine List.Perm.eq_of_pairwise (le := fun a b => leSg a b = true) (fun a b _ _ x y => ?_) (List.pairwise_mergeSort leSg_trans leSg_total _) (List.pairwise_mergeSort leSg_trans leSg_total _) (((List.mergeSort_perm _ _).trans p).trans (List.mergeSort_perm _ _).symm)
    unfold leSg at x y
    rw [decide_eq_true_eq] at x y
    omega
  rw [e]
  rfl
theorem sorted_of_setX {X : Cx} (hc : X.calm = true) (hu : X.A.units + 64 < cLine) {pins : List (Addr × Obj)} {s : Shared} {σ : L2.St} {H : Hp} {Q : VK} {g : Heap} {tk : Nat} {a : Addr} {l : List Nat} (I : Inv X pins σ H s)
    (hk : ∀ b o, s.heap.get? b = some o → g.get? b = some o) (R : SgX X.prog X.w g a l) (hl4 : l.length ≤ 4000) (q : ∀ p, H p = none → Q (.ref p) (upd H p (.lst ((tsort l).map fun c => V.str (sing c))))) :
    wpAny (model X.prog X.w) X.A (call (.builtin "sorted") [.ref a]) (EP X pins σ Q) X.xe { s with heap := g, toks := tk } := by
  obtain ⟨m, D, nd, hm, ho, F, hr, hl⟩ := R
  obtain ⟨es, ep, t⟩ := D
  have hml : m.length ≤ 4000 := by
    rw [dedS_len nd hm]
    exact Nat.le_trans (dedS_le _) hl4
  have hsz : es.size = m.length := F.sz.trans (List.length_map _)
  have hb : es.size < scanBound := by unfold scanBound; omega
  refine Calls.call_function_entry PyProof.Rows.kind_sorted PyProof.Rows.plain_sorted PyProof.Rows.entry_sorted (PyProof.Rows.args_sorted1 _) ?_
  unfold Builtin.«sorted»
  refine wpAny_bind (m := checkCount "sorted" 1 1 _) (wpAny_pure ?_)
  refine wpAny_bind (collect_set (A := X.A.in1) (s := { s with heap := g, toks := tk }) (es := es) (ep := ep) (t := t) (I.ok.hd hc) ⟨_, ho, rfl, rfl⟩ F.fit hb hr hl fun s2 out k2 z2 g2 o2 hp => ?_)
  have kall : ∀ b u, s.heap.get? b = some u → s2.heap.get? b = some u := fun b u e => k2 b u (hk b u e)
  have I2 : Inv X pins σ H s2 := I.call' (ch := []) o2 (Un.kept kall) (I.hok.kept kall) (by rw [g2]; exact I.bare) (fun _ z => nomatch z)
  have hstr : ∀ e ∈ es.toList, ∃ c t, c ∈ m ∧ e.2 = Value.str (sing c) t := fun e he => by
    obtain ⟨⟨k, hk1, _⟩, _⟩ := F.el e he
    obtain ⟨c, hc1, rfl⟩ := List.mem_map.mp ((F.mem k).mpr ⟨e, he, hk1⟩)
    have hk2 : Value.isStrOf (sing c) e.2 = true := hk1
    obtain ⟨e1, e2⟩ := e
    cases e2 with
    | str y u =>
      refine ⟨c, u, hc1, ?_⟩
      have : y = sing c := by
        first
          | simpa [Value.isStrOf] using hk2
          | exact Eq.symm (by simpa [Value.isStrOf] using hk2)
      rw [this]
    | _ => simp [Value.isStrOf] at hk2
  have hv : ∀ v ∈ out, ∃ c t, v = Value.str (sing c) t := fun v hv => by
    obtain ⟨e, he, ev⟩ := List.mem_map.mp (hp.mem_iff.mp hv)
    obtain ⟨c, u, _, e2⟩ := hstr e he
    exact ⟨c, u, ev.symm.trans e2⟩
  obtain ⟨cs, hcl, hvals, hcs⟩ := sgx_vals hv
  have hol : out.length = m.length := by
    rw [hp.length_eq, List.length_map, Array.length_toList]
    exact hsz
  have hmm : ∀ k, k ∈ cs ↔ k ∈ m := fun k => by
    rw [hcs k]
    constructor
    · rintro ⟨u, hu⟩
      obtain ⟨e, he, ev⟩ := List.mem_map.mp (hp.mem_iff.mp hu)
      obtain ⟨c, u2, hc1, e2⟩ := hstr e he
      have e3 : Value.str (sing k) u = Value.str (sing c) u2 := ev.symm.trans e2
      have e4 : sing k = sing c := by injection e3
      rw [sg_inj e4]
      exact hc1
    · intro hk1
      obtain ⟨e, he, hk2⟩ := (F.mem (sing k)).mp (List.mem_map.mpr ⟨k, hk1, rfl⟩)
      obtain ⟨c, u, _, e2⟩ := hstr e he
      have hk3 : Value.isStrOf (sing k) e.2 = true := hk2
      rw [e2] at hk3
      have : sing c = sing k := by
        first
          | simpa [Value.isStrOf] using hk3
          | exact Eq.symm (by simpa [Value.isStrOf] using hk3)
      refine ⟨u, hp.mem_iff.mpr (List.mem_map.mpr ⟨e, he, ?_⟩)⟩
      rw [e2, this]
  have hnd : cs.Nodup := dedS_full (by
    have h1 : m.length = (dedS cs).length := dedS_len nd fun k => (hmm k).symm
    omega)
  have hmk : ∀ k, k ∈ cs ↔ k ∈ l := fun k => (hmm k).trans (hm k)
  have h16 : out.length ≤ sizeLine := by
    rw [hol, ← hsz]
    exact fits_of_scanBound hb
  show wpAny _ _ (newList out >>= _) _ _ s2
  refine wpAny_bind (wpAny_newList ?_ h16)
  have hoL : (s2.heap.push (seqObj "list" out.toArray 0)).get? s2.heap.objs.size = some (seqObj "list" out.toArray 0) := Heap.get?_push_size _ rfl
  have he := vals_each hvals
  show wpAny _ _ _ _ _ { s2 with heap := s2.heap.push (seqObj "list" out.toArray 0) }
  refine wpAny_bind (wpAny_holding (PySem.W.list_sort_data (s := { s2 with heap := s2.heap.push (seqObj "list" out.toArray 0) }) (enc := pyK) hoL he (he.mono fun v k rv => reads_key rv) (alike_sg cs) (sortable_keys _) (by rw [List.length_map, hcl]; exact h16) (fun k hk => ?_) fun out2 h1 h2 => ?_))
  · have : (pyK k).depth ≤ 1 := by cases k <;> simp [pyK, PyData.depth]
    have : X.A.in1.units ≤ X.A.units + 2 := by simp [Around.in1]
    have : X.A.in1.in1.units ≤ X.A.units + 2 := by simp [Around.in1]
    omega
  obtain ⟨e', he'⟩ := PyProof.Rows.sortedHeap_at (vs := out) (out := out2.toArray) hoL
  have hrel : Vals ((tsort l).map fun c => V.str (sing c)) out2 := by
    have := each_valsK h2
    rw [← sortK_sg hnd hmk]
    exact this
  have hlen : ((tsort l).map fun c => V.str (sing c)).length ≤ sizeLine := by
    rw [← sortK_sg hnd hmk, List.length_map, sortK, List.length_mergeSort, List.length_map, hcl]
    exact h16
  refine wpAny_pure ⟨_, rfl, .ref s2.heap.objs.size, upd H s2.heap.objs.size (.lst ((tsort l).map fun c => V.str (sing c))), I2.laid (t' := s2.toks) (fun b u e => ?_) (Nat.le_refl _)
    (show ObjOk X.prog X.w _ _ _ (.lst ((tsort l).map fun c => V.str (sing c))) from ⟨hlen, out2, e', hrel, he'⟩), rfl, q _ (I2.hok.fresh (Nat.le_refl _))⟩
  have hb : b < s2.heap.objs.size := Heap.lt_size e
  rw [PyProof.Rows.sortedHeap_old (Nat.ne_of_lt hb) (by rw [size_push']; exact Nat.lt_succ_of_lt hb)]
  exact Heap.get?_push_of_some _ e
def rSSX : List V → Hp → VK → Prop := fun xs H Q => ∃ x : Str, xs = [.str x] ∧ x.cps.size ≤ 4000 ∧ ∀ q, H q = none → Q (.ref q) (upd H q (.lst ((tsort x.cps.toList).map fun c => V.str (sing c))))
theorem pe_sortsetX {X : Cx} {e : Expr} {p p2 pos pos2 : Pos} {ta : TA} (hc : X.calm = true) (hu : X.A.units + 64 < cLine) (hg : Gl X "sorted") (hm : X.mg "sorted" = none) (hg2 : Gl X "set") (hm2 : X.mg "set" = none) (ha : PA X [e] ta)
    (hs : starEach [e] X.env = [(false, eval e X.env)] := by rfl)
    (hs2 : starEach [.Call (.Name "set" p2) [e] [] pos2] X.env = [(false, eval (.Call (.Name "set" p2) [e] [] pos2) X.env)] := by rfl) : PE X (.Call (.Name "sorted" p) [.Call (.Name "set" p2) [e] [] pos2] [] pos) (tCB rSSX ta) := by
  refine ⟨fun pins s σ H Q I h => ?_⟩
  refine wpAny_Call_Name_kw (ld_blt I hg hm PyProof.Rows.boot_sorted ?_)
  refine PyProof.Rows.callWith_builtin1 ?_ hs2 rfl
  rw [hs2]
  show wpAny _ _ (spliced ((false, eval (.Call (.Name "set" p2) [e] [] pos2) X.env) :: [])) _ _ s
  refine Calls.spliced_cons ?_
  refine wpAny_Call_Name_kw (ld_blt I hg2 hm2 PyProof.Rows.boot_set ?_)
  refine PyProof.Rows.callWith_type1 (thn (ha.run pos2 pins s σ H _ I h) fun us s1 ⟨vs, H1, I1, r1, q1⟩ => ?_) hs rfl
  obtain ⟨x, rfl, hl, q⟩ := q1
  obtain ⟨u, rfl, ru⟩ : ∃ u, us = [u] ∧ RelV (V.str x) u := by cases r1 with | cons a b => cases b; exact ⟨_, rfl, a⟩
  obtain ⟨t, rfl⟩ := ru
  refine set_of_strX (I1.ok.hd hc) (by unfold scanBound; omega) fun g tk R k => ?_
  exact Calls.spliced_nil (sorted_of_setX hc hu I1 k R (by rw [Array.length_toList]; exact hl) q)
/-! as a meaning -/
def sortsetXD : List D → Option (Bool × D)
  | [.str x] => if x.cps.size ≤ 4000 then some (true, .lst ((tsort x.cps.toList).map fun c => D.str (sing c))) else none
  | _ => none
theorem sgs_rep {K : PySem.W.Frag} {U : Addr → Prop} {H : Hp} : ∀ cs : List Nat, RepL K U H (cs.map fun c => D.str (sing c)) (cs.map fun c => V.str (sing c))
  | [] => RepL.nil
  | c :: cs => RepL.cons repStr (sgs_rep cs)
theorem prim_sortsetX {K : PySem.W.Frag} : Prim K rSSX sortsetXD := by
  intro U H ds vs Q b d hU ar e post
  unfold sortsetXD at e
  split at e
  · rename_i x
    split at e
    · rename_i hn
      cases e
      obtain ⟨v, rfl, h1⟩ := ar1 ar
      refine ⟨x, by rw [arStr h1], hn, fun q hq => post _ _ (ext_new hq) (fun z => by cases z) fun _ => newLst hq (sgs_rep _)⟩
    · cases e
  · cases e
theorem e_sortsetX {X : Cx} {W : WX} {e : Expr} {p p2 pos pos2 : Pos} {fs : M (List R)} (hc : X.calm = true) (hu : X.A.units + 64 < cLine) (hg : Gl X "sorted") (hm : X.mg "sorted" = none) (hg2 : Gl X "set") (hm2 : X.mg "set" = none) (ha : PA X [e] (RdA X.K W fs))
    (hs : starEach [e] X.env = [(false, eval e X.env)] := by rfl)
    (hs2 : starEach [.Call (.Name "set" p2) [e] [] pos2] X.env = [(false, eval (.Call (.Name "set" p2) [e] [] pos2) X.env)] := by rfl) :
    PE X (.Call (.Name "sorted" p) [.Call (.Name "set" p2) [e] [] pos2] [] pos) (RdE X.K W (opF sortsetXD fs)) :=
  pe_imp (pe_sortsetX hc hu hg hm hg2 hm2 ha hs hs2) fun σ H Q m => opImp prim_sortsetX m
theorem ssX_tx {l : List Nat} (hl : l.length ≤ 4000) : sortsetXD [.str (tx l)] = some (true, .lst ((tsort l).map fun c => D.str (tx [c]))) := by
  show (if (tx l).cps.size ≤ 4000 then _ else none) = _
  rw [← Array.length_toList, tx_list, if_pos hl]
  rfl
end PyD

end

namespace PyD.S
open PySem PySem.Spec L2
/-! sizes_of: slots 0 rows 1 found* 2 row 3 item -/
def b_sizes_of_v2 : En → Fl :=
  (seqF (asO 1 (lstF nilF))
  (seqF (endF [false, false, true] (frF (itA itD (one (nmF 0))) (gNm 2) (seqF (drF (mutF true 1 isLst appM (consF (opF sumD (consF (lcF (itA itD (one (nmF 2))) (gNm 3) yesT (ifF (tstF (opF (isiD "str") (one (nmF 3)))) (cF (.int 1)) (opF ixUD (two (nmF 1) (nmF 3)))) [3]) nilF)) nilF)))
  (endF [false, false, true] (ifS (tstB (opF gtD (two (opF ixUD (two (nmF 1) (opF negD (one (cF (.int 1)))))) (cF (.int 300))))) (rsF .many) skF)))))
  (rtF (mvF 1))))
def phi_sizes_of_v2 : List D → Out := runF [false] 3 b_sizes_of_v2
end PyD.S

namespace PyD.S
open PySem PySem.Spec L2
/-! text_of_rows: slots 0 rows 1 found* 2 row 3 item -/
def b_text_of_rows_v2 : En → Fl :=
  (seqF (drF (callF [false] phi_sizes_of_v2 (consF (nmF 0) nilF)))
  (seqF (asO 1 (lstF nilF))
  (seqF (endF [false, false, true] (frF (itA itD (one (nmF 0))) (gNm 2) (bodF [false, false, true]
  (drF (mutF true 1 isLst appM (consF (bmF isStr joinD (cF (.str (tx []))) (consF (lcF (itA itD (one (nmF 2))) (gNm 3) yesT (ifF (tstF (opF (isiD "str") (one (nmF 3)))) (nmF 3) (opF ixUD (two (nmF 1) (nmF 3)))) [3]) nilF)) nilF))))))
  (rtF (opF ixUD (two (nmF 1) (opF negD (one (cF (.int 1))))))))))
def phi_text_of_rows_v2 : List D → Out := runF [false] 3 b_text_of_rows_v2
end PyD.S

namespace PyD.S
open PySem PySem.Spec L2
/-! item_places: slots 0 row 1 place 2 sizes 3 found* 4 item -/
def b_item_places : En → Fl :=
  (seqF (asO 3 (lstF nilF))
  (seqF (endF [false, true, false, false, true] (frF (itA itD (one (nmF 0))) (gNm 4) (bodF [false, false, false, false, true]
  (seqF (drF (mutF true 3 isLst appM (consF (tupF (consF (nmF 4) (consF (nmF 1) nilF))) nilF)))
  (asV 1 (opF addD (two (nmF 1) (ifF (tstF (opF (isiD "str") (one (nmF 4)))) (cF (.int 1)) (opF ixUD (two (nmF 2) (nmF 4)))))))))))
  (rtF (mvF 3))))
def phi_item_places : List D → Out := runF [false, false, false] 2 b_item_places
end PyD.S

namespace PyD.S
open PySem PySem.Spec L2
/-! first_met: slots 0 rows 1 sizes 2 found* 3 number 4 row 5 item 6 place -/
def b_first_met_v2 : En → Fl :=
  (seqF (asV 1 (callF [false] phi_sizes_of_v2 (consF (nmF 0) nilF)))
  (seqF (asO 2 (lcF (itA itD (one (nmF 0))) (gNm 4) yesT (cF .non) [4]))
  (seqF (stF 2 (opF negD (one (cF (.int 1)))) (cF (.int 0)) setD)
  (seqF (endF [false, true, false, true] (frF (itA rrgD (one (opF lenD (consF (nmF 0) nilF)))) (gNm 3) (endF [false, false, false, true] (ifS (tstB (opF (isOp true) (two (opF ixUD (two (nmF 2) (nmF 3))) (cF .non)))) (endF [false, false, false, true, false, true, true] (frF (itA itD (one (callF [false, false, false] phi_item_places (consF (opF ixUD (two (nmF 0) (nmF 3))) (consF (opF ixUD (two (nmF 2) (nmF 3))) (consF (nmF 1) nilF)))))) (gTp [5, 6]) (endF [false, false, false, false, false, true, true] (ifS (andT (notT (tstF (opF (isiD "str") (one (nmF 5))))) (orT (tstB (opF (isOp false) (two (opF ixUD (two (nmF 2) (nmF 5))) (cF .non)))) (tstB (opF ltD (two (nmF 6) (opF ixUD (two (nmF 2) (nmF 5)))))))) (stF 2 (nmF 5) (nmF 6) setD) skF)))) skF))))
  (rtF (mvF 2))))))
def phi_first_met_v2 : List D → Out := runF [false] 6 b_first_met_v2
end PyD.S

namespace PyD.S
open PySem PySem.Spec L2
/-! pins_of_rows: slots 0 rows 1 sizes 2 text 3 found* 4 row 5 place 6 letter 7 item 8 there -/
def b_pins_of_rows_v2 : En → Fl :=
  (seqF (asV 1 (callF [false] phi_sizes_of_v2 (consF (nmF 0) nilF)))
  (seqF (asV 2 (callF [false] phi_text_of_rows_v2 (consF (nmF 0) nilF)))
  (seqF (endF [false, false, true] (asO 3 (lcF (itA itD (one (opF sortsetXD (consF (nmF 2) nilF)))) (gNm 6) yesT (bmF isStr indexD (nmF 2) (consF (nmF 6) nilF)) [6])))
  (seqF (endF [false, true, false, false, true, true] (frF (itA zipMD (consF (nmF 0) (consF (callF [false] phi_first_met_v2 (consF (nmF 0) nilF)) nilF))) (gTp [4, 5]) (endF [false, false, false, false, true, true] (ifS (tstB (opF (isOp true) (two (nmF 5) (cF .non)))) (drF (mutF true 3 isLst extM (consF (lcF (itA itD (one (slF slD (callF [false, false, false] phi_item_places (consF (nmF 4) (consF (nmF 5) (consF (nmF 1) nilF)))) (some (cF (.int 1))) none))) (gTp [7, 8]) yesT (opF subD (two (nmF 8) (cF (.int 1)))) [7, 8]) nilF))) skF))))
  (rtF (opF tupleD (consF (opF sortsetD (consF (nmF 3) nilF)) nilF)))))))
def phi_pins_of_rows_v2 : List D → Out := runF [false] 8 b_pins_of_rows_v2
end PyD.S

namespace PyD.S
open PySem PySem.Spec L2
/-! _law_word: slots 0 way 1 some 2 caught 3 e -/
def b_lword_v2 : En → Fl :=
  (seqF (asV 2 (cF .non))
  (seqF (endF [false, false, false, true] (tryF [.pin, .many, .noturned, .norow, .round, .missed, .notext] .pin 3
  (ifS (tstB (opF (eqOp false) (two (nmF 0) (cF (.int 0))))) (drF (callF [false] phi_text_of_rows_v2 (consF (nmF 1) nilF))) (ifS (tstB (opF (eqOp false) (two (nmF 0) (cF (.int 1))))) (drF (callF [false] phi_first_met_v2 (consF (nmF 1) nilF))) (drF (callF [false] phi_pins_of_rows_v2 (consF (nmF 1) nilF)))))
  (asV 2 (nmF 3))))
  (seqF (ifS (tstB (opF (isOp false) (two (nmF 2) (cF .non)))) (rtF (cF (.str (tx [])))) skF)
  (seqF (ifS (orT (tstF (opF (isxTD [.pin, .many, .noturned, .norow, .round, .missed, .notext] [.round, .missed, .norow, .notext, .noturned]) (one (nmF 2)))) (notT (tstF (opF (isvD [.pin, .many, .noturned, .norow, .round, .missed, .notext]) (one (nmF 2)))))) (rtF (cF (.str (tx [111, 100, 100])))) skF)
  (rtF (opF ixUD (two (lstF (consF (cF (.str (tx [111, 100, 100]))) (consF (cF (.str (tx [109, 97, 110, 121]))) nilF))) (opF intD (consF (opF (isxD [.pin, .many, .noturned, .norow, .round, .missed, .notext] .many) (one (nmF 2))) nilF)))))))))
def phi_lword_v2 : List D → Out := runF [false, false] 2 b_lword_v2
end PyD.S

namespace PyD.S
open PySem PySem.Spec L2
/-! _law_take: slots 0 pen* 1 many 2 found 3 at 4 cell 5 one 6 two 7 three -/
def b_ltake : En → Fl :=
  (seqF (ifS (tstB (opF (eqOp false) (two (opF ixUD (two (nmF 0) (cF (.int 2)))) (cF (.int 0))))) (seqF (asV 3 (opF ixUD (two (nmF 0) (cF (.int 1)))))
  (seqF (stF 0 (cF (.int 1)) (opF addD (two (nmF 3) (cF (.int 1)))) setD)
  (seqF (asV 4 (cF (.int 0)))
  (seqF (ifS (tstB (opF ltD (two (nmF 3) (opF lenD (consF (opF ixUD (two (nmF 0) (cF (.int 0)))) nilF))))) (asV 4 (opF ixUD (two (opF ixUD (two (nmF 0) (cF (.int 0)))) (nmF 3)))) (ifS (tstB (opF gtD (two (opF lenD (consF (opF ixUD (two (nmF 0) (cF (.int 0)))) nilF)) (cF (.int 0))))) (asV 4 (opF addD (two (opF modD (two (opF ixUD (two (opF ixUD (two (nmF 0) (cF (.int 0)))) (opF modD (two (opF mulVD (two (nmF 3) (cF (.int 7)))) (opF lenD (consF (opF ixUD (two (nmF 0) (cF (.int 0)))) nilF)))))) (cF (.int 1000003)))) (opF mulVD (two (cF (.int 101)) (nmF 3)))))) skF))
  (seqF (asV 5 (opF modD (two (opF mulVD (two (opF addD (two (opF addD (two (opF modD (two (nmF 4) (cF (.int 998244353)))) (opF mulVD (two (cF (.int 59)) (nmF 3))))) (cF (.int 1)))) (cF (.int 69621)))) (cF (.int 2147483647)))))
  (seqF (asV 6 (opF modD (two (opF addD (two (opF addD (two (opF mulVD (two (nmF 5) (nmF 5))) (opF mulVD (two (cF (.int 16807)) (nmF 3))))) (cF (.int 11)))) (cF (.int 1000000007)))))
  (seqF (asV 7 (opF modD (two (opF addD (two (opF mulVD (two (nmF 6) (nmF 6))) (nmF 5))) (cF (.int 998244353)))))
  (seqF (stF 0 (cF (.int 2)) (opF addD (two (opF fdvD (two (opF addD (two (opF mulVD (two (nmF 6) (cF (.int 998244353)))) (nmF 7))) (cF (.int 8)))) (cF (.int 1)))) setD)
  (endF [false, false, false, true, true, true, true, true] (ifS (tstB (opF geD (two (nmF 4) (opF powD (two (cF (.int 10)) (cF (.int 18))))))) (stF 0 (cF (.int 2)) (opF fdvD (two (nmF 4) (opF powD (two (cF (.int 10)) (cF (.int 18)))))) setD) skF)))))))))) skF)
  (seqF (asV 2 (opF modD (two (opF ixUD (two (nmF 0) (cF (.int 2)))) (nmF 1))))
  (seqF (stF 0 (cF (.int 2)) (opF fdvD (two (opF ixUD (two (nmF 0) (cF (.int 2)))) (nmF 1))) setD)
  (rtF (nmF 2)))))
def phi_ltake : List D → Out := runF [true, false] 6 b_ltake
end PyD.S

namespace PyD.S
open PySem PySem.Spec L2
/-! _law_letter: slots 0 pen* 1 size -/
def b_lletter : En → Fl :=
  (rtF (opF ixUD (two (cF (.str (tx [97, 98, 99, 100, 101, 102, 103, 104, 105, 106, 107, 108, 109, 110, 111, 112, 113, 114, 115, 116, 117, 118, 119, 120, 121, 122]))) (opF modD (two (opF addD (two (opF mulVD (two (callF [true, false] phi_ltake (consF (nmF 0) (consF (nmF 1) nilF))) (cF (.int 7)))) (opF mulVD (two (cF (.int 25)) (opF intD (consF (opF ltD (two (nmF 1) (cF (.int 5)))) nilF)))))) (cF (.int 26)))))))
def phi_lletter : List D → Out := runF [true, false] 0 b_lletter
end PyD.S

namespace PyD.S
open PySem PySem.Spec L2
/-! _law_long: slots 0 pen* 1 many 2 a 3 b 4 way 5 some 6 rest 7 bits 8 k -/
def b_llong : En → Fl :=
  (seqF (asP 2 3 (consF (callF [true, false] phi_lletter (consF (nmF 0) (consF (cF (.int 5)) nilF))) (consF (callF [true, false] phi_lletter (consF (nmF 0) (consF (cF (.int 5)) nilF))) nilF)))
  (seqF (asV 4 (callF [true, false] phi_ltake (consF (nmF 0) (consF (cF (.int 3)) nilF))))
  (seqF (ifS (tstB (opF (eqOp false) (two (nmF 4) (cF (.int 0))))) (rtF (tupF (consF (opF mulVD (two (tupF (consF (nmF 2) (consF (nmF 3) nilF))) (cF (.int 5)))) (consF (opF mulVD (two (tupF (consF (cF (.int 0)) nilF)) (cF (.int 10)))) (consF (opF addD (two (opF addD (two (tupF (consF (cF (.int 1)) (consF (cF (.int 1)) nilF))) (opF mulVD (two (tupF (consF (cF (.int 0)) nilF)) (cF (.int 9)))))) (tupF (consF (nmF 3) nilF)))) (consF (opF addD (two (tupF (consF (cF (.int 2)) nilF)) (opF mulZD (two (tupF (consF (nmF 2) nilF)) (opF subD (two (nmF 1) (cF (.int 291)))))))) nilF)))))) skF)
  (seqF (endF [false, false, false, false, true, true, true, true] (ifS (tstB (opF (eqOp false) (two (nmF 4) (cF (.int 1))))) (seqF (asV 5 (tupF (consF (tupF (consF (nmF 2) nilF)) (consF (tupF (consF (cF (.int 0)) (consF (cF (.int 0)) nilF))) (consF (tupF (consF (cF (.int 1)) (consF (cF (.int 1)) nilF))) (consF (tupF (consF (cF (.int 2)) (consF (cF (.int 2)) nilF))) (consF (tupF (consF (cF (.int 3)) (consF (cF (.int 3)) nilF))) (consF (tupF (consF (cF (.int 4)) (consF (cF (.int 4)) nilF))) (consF (tupF (consF (cF (.int 5)) (consF (cF (.int 5)) nilF))) (consF (tupF (consF (cF (.int 6)) (consF (cF (.int 6)) nilF))) nilF))))))))))
  (seqF (asV 6 (opF subD (two (nmF 1) (cF (.int 256)))))
  (seqF (asV 7 (lcF (itA rg1D (consF (cF (.int 5)) nilF)) (gNm 8) (tstB (opF (eqOp false) (two (opF modD (two (opF fdvD (two (nmF 6) (opF ixUD (two (lstF (consF (cF (.int 1)) (consF (cF (.int 2)) (consF (cF (.int 4)) (consF (cF (.int 8)) (consF (cF (.int 16)) nilF)))))) (nmF 8))))) (cF (.int 2)))) (cF (.int 1))))) (nmF 8) [8]))
  (rtF (opF addD (two (nmF 5) (tupF (consF (opF addD (two (tupF (consF (cF (.int 7)) (consF (cF (.int 7)) (consF (cF (.int 5)) nilF)))) (opF tupleD (consF (nmF 7) nilF)))) nilF)))))))) skF))
  (rtF (tupF (consF (opF mulVD (two (tupF (consF (nmF 2) nilF)) (cF (.int 12)))) (consF (opF addD (two (tupF (consF (nmF 3) (consF (cF (.int 0)) nilF))) (opF mulVD (two (tupF (consF (cF (.int 0)) nilF)) (cF (.int 10)))))) (consF (opF addD (two (tupF (consF (cF (.int 1)) (consF (cF (.int 1)) nilF))) (opF mulVD (two (tupF (consF (cF (.int 0)) nilF)) (cF (.int 2)))))) (consF (opF mulZD (two (tupF (consF (nmF 3) nilF)) (opF subD (two (nmF 1) (cF (.int 290)))))) (consF (tupF (consF (cF (.int 2)) (consF (cF (.int 3)) nilF))) nilF)))))))))))
def phi_llong : List D → Out := runF [true, false] 7 b_llong
end PyD.S

namespace PyD.S
open PySem PySem.Spec L2
/-! _law_pen: slots 0 script -/
def b_lpen : En → Fl :=
  (rtF (lstF (consF (opF listD (consF (slF slD (nmF 0) none (some (cF (.int 63)))) nilF)) (consF (cF (.int 0)) (consF (cF (.int 0)) nilF)))))
def phi_lpen : List D → Out := runF [false] 0 b_lpen
end PyD.S

namespace PyD.S
open PySem PySem.Spec L2
/-! law: slots 0 script 1 pen* 2 turn 3 double 4 short 5 way 6 many 7 some 8 sizes* 9 row 10 behind 11 due 12 number 13 item -/
def b_law_k31 : En → Fl :=
  (seqF (asO 1 (callF [false] phi_lpen (consF (nmF 0) nilF)))
  (seqF (endF [false, false, true] (frF (itA rg1D (consF (cF (.int 4)) nilF)) (gNm 2) (seqF (asV 6 (opF addD (two (cF (.int 299)) (callF [true, false] phi_ltake (consF (nmF 1) (consF (cF (.int 4)) nilF))))))
  (seqF (asV 7 (callF [true, false] phi_llong (consF (nmF 1) (consF (nmF 6) nilF))))
  (seqF (endF [false, false, true, false, false, false, true] (asO 8 (lstF nilF)))
  (seqF (endF [false, false, false, false, false, false, false, false, false, true] (frF (itA itD (one (nmF 7))) (gNm 9) (bodF [false, false, false, false, false, false, false, false, false, true]
  (drF (mutF true 8 isLst appM (consF (opF sumD (consF (lcF (itA itD (one (nmF 9))) (gNm 13) yesT (ifF (tstF (opF (isiD "str") (one (nmF 13)))) (cF (.int 1)) (opF ixUD (two (nmF 8) (nmF 13)))) [13]) nilF)) nilF))))))
  (seqF (asV 10 (opF ixUD (two (lstF (consF (tupF nilF) (consF (tupF (consF (tupF (consF (cF (.str (tx [97]))) nilF)) nilF)) (consF (tupF (consF (tupF (consF (opF subD (two (opF lenD (consF (nmF 7) nilF)) (cF (.int 1)))) nilF)) nilF)) (consF (tupF (consF (tupF (consF (cF (.str (tx [98]))) (consF (cF (.int 0)) nilF))) nilF)) nilF))))) (callF [true, false] phi_ltake (consF (nmF 1) (consF (cF (.int 4)) nilF))))))
  (seqF (endF [false, false, false, false, false, false, false, false, true] (asV 11 (opF ixUD (two (lstF (consF (cF (.str (tx []))) (consF (cF (.str (tx [109, 97, 110, 121]))) nilF))) (opF intD (consF (opF gtD (two (opF maxD (consF (nmF 8) nilF)) (cF (.int 300)))) nilF))))))
  (endF [false, false, false, false, false, true, false, true, false, false, true, true] (frF (itA rg1D (consF (cF (.int 3)) nilF)) (gNm 5) (endF [false, false, false, false, false, true] (ifS (tstB (opF (eqOp true) (two (callF [false, false] phi_lword_v2 (consF (nmF 5) (consF (opF addD (two (nmF 7) (nmF 10))) nilF))) (nmF 11)))) (rtF (cF (.bl false))) skF))))))))))))
  (seqF (asV 3 (opF addD (two (tupF (consF (tupF (consF (cF (.str (tx [97]))) (consF (cF (.str (tx [98]))) nilF))) nilF)) (opF tupleD (consF (lcF (itA rg1D (consF (cF (.int 59)) nilF)) (gNm 12) yesT (tupF (consF (nmF 12) (consF (nmF 12) nilF))) [12]) nilF)))))
  (seqF (endF [false, true] (asV 4 (opF addD (two (cF (.int 2)) (callF [true, false] phi_ltake (consF (nmF 1) (consF (cF (.int 57)) nilF)))))))
  (seqF (endF [false, false, false, true, true, true] (frF (itA rg1D (consF (cF (.int 3)) nilF)) (gNm 5) (seqF (ifS (tstB (opF (eqOp true) (two (callF [false, false] phi_lword_v2 (consF (nmF 5) (consF (slF slD (nmF 3) none (some (nmF 4))) nilF))) (opF ixUD (two (lstF (consF (cF (.str (tx []))) (consF (cF (.str (tx [109, 97, 110, 121]))) nilF))) (opF intD (consF (opF gtD (two (nmF 4) (cF (.int 8)))) nilF))))))) (rtF (cF (.bl false))) skF)
  (endF [false, false, false, false, false, true] (ifS (tstB (opF (eqOp true) (two (callF [false, false] phi_lword_v2 (consF (nmF 5) (consF (nmF 3) nilF))) (cF (.str (tx [109, 97, 110, 121])))))) (rtF (cF (.bl false))) skF)))))
  (rtF (cF (.bl true))))))))
def phi_law_k31 : List D → Out := runF [false] 13 b_law_k31
end PyD.S

section
set_option maxHeartbeats 2000000
namespace PyD.k31
open PySem PySem.Spec L2 PyD.S
def topS (i : Nat) : Stmt := PySem.Challenge.pw_touchpin_k31_rows_too_long.main.body.getD i (.Pass ⟨0, 0, 0, 0⟩)
theorem lit_ : ("" : Str) = (tx []) := by decide +kernel
theorem lit_32d10c7b8cf9 : ("abcdefghijklmnopqrstuvwxyz" : Str) = (tx [97, 98, 99, 100, 101, 102, 103, 104, 105, 106, 107, 108, 109, 110, 111, 112, 113, 114, 115, 116, 117, 118, 119, 120, 121, 122]) := by decide +kernel
theorem lit_61 : ("a" : Str) = (tx [97]) := by decide +kernel
theorem lit_62 : ("b" : Str) = (tx [98]) := by decide +kernel
theorem lit_6d_61_6e_79 : ("many" : Str) = (tx [109, 97, 110, 121]) := by decide +kernel
theorem lit_6f_64_64 : ("odd" : Str) = (tx [111, 100, 100]) := by decide +kernel
abbrev st_sizes_of : Stmt := topS 10
theorem sc_sizes_of : FnScope ["rows", "found", "row", "item"] ["rows"] (defScope st_sizes_of) := ⟨rfl, rfl, rfl, by decide +kernel, rfl, by decide +kernel, by decide +kernel⟩
theorem ok_sizes_of {P : Program} {w : World} {K : PySem.W.Frag} {mg : Str → Option Value} {base : Heap} {f : Addr} {fd : FuncData} (m_isinstance : mg "isinstance" = none) (m_str : mg "str" = none) (m_sum : mg "sum" = none) (c_MOST_SIGNS : ∃ t, mg "MOST_SIGNS" = some (.int 300 t)) {c_pin c_many c_noturned c_norow c_round c_missed c_notext : Addr} (xT : XT K [(.pin, c_pin), (.many, c_many), (.noturned, c_noturned), (.norow, c_norow), (.round, c_round), (.missed, c_missed), (.notext, c_notext)]) (gx_many : mg "TooMany" = some (.ref c_many)) (ei_many : PySem.W.excIn K c_many [.type "ValueError", .type "Exception", .type "BaseException", .type "object"] "ValueError.__new__" = true) (F : Fun K "sizes_of" "sizes_of" st_sizes_of f fd) (hm : mg "sizes_of" = some (.ref f)) :
    DefAt P w K mg base "sizes_of" 1 ["rows"] [false] phi_sizes_of_v2 := by
  refine DefAt.mk (lev := 0) (k := 3) F hm (F.binds (ps := ["rows"]) fun _ _ _ _ _ _ us hl => match us, hl with | [_], _ => rfl) sc_sizes_of rfl rfl (fun cdv A outer s H E hr => ?_) rfl
  have sc := sc_sizes_of
  have tk : Takes (cxOf (L2.CX P w) P w K mg base ["rows", "found", "row", "item"] "sizes_of" (defScope st_sizes_of) f cdv A outer s H E) (fun cls d _ H => E cls d H) := takes_of rfl rfl rfl rfl
  have ps : PassesOwn (model P w) (cxOf (L2.CX P w) P w K mg base ["rows", "found", "row", "item"] "sizes_of" (defScope st_sizes_of) f cdv A outer s H E).A (cxOf (L2.CX P w) P w K mg base ["rows", "found", "row", "item"] "sizes_of" (defScope st_sizes_of) f cdv A outer s H E).env (cxOf (L2.CX P w) P w K mg base ["rows", "found", "row", "item"] "sizes_of" (defScope st_sizes_of) f cdv A outer s H E).xe := passes_of rfl
  exact ((s_cons (s_asO (i := 1) sc.nd (e_lstD a_nil))
    (s_cons (s_end (s_for ps rfl (i_seq (e_nm 0)) (g_nm sc.nd) (s_cons (s_expr (e_mut ty_lst prim_append PySem.F.plainAttrs_list PySem.F.slot_list_append PySem.F.type_list_append mt_append (pv 1) (a_cons (e_callB (cr_sum rfl) prim_sum (by rfl) m_sum PyProof.Rows.boot_sum (a_cons (e_lc (own := [("item", 3)]) (tgNm 3) rfl sc.nd (i_seq (e_nm 2)) (blkOk_by (by rfl)) (fun _ _ _ _ _ => (pg_name sc.nd rfl (by first | exact .inl rfl | exact .inr rfl))) (fun _ _ _ _ _ => pts_0) (fun _ _ _ _ _ => (e_if (t_truth (e_isi (by rfl) m_isinstance (by rfl) m_str PyProof.Rows.boot_str (by rfl) (e_nm 3))) e_int (e_ix (ix_U (hu_of hr)) prim_ixU (e_nm 1) (e_nm 3) (fun _ _ => rfl))))) a_nil)) a_nil)))
    (s_one (s_end (s_if (t_cmp op_gtU prim_ord (e_ix (ix_U (hu_of hr)) prim_ixU (e_nm 1) (e_un un_neg prim_neg e_int) (fun _ _ => rfl)) (e_gi c_MOST_SIGNS (by rfl)) (nomark _)) (s_one (s_raise1 rfl tk (xT.cl _ _ (List.mem_cons_of_mem _ (List.mem_cons_self))) ei_many gx_many)) s_nil))))))
    (s_one (s_ret (e_mv 1))))))
abbrev st_text_of_rows : Stmt := topS 11
theorem sc_text_of_rows : FnScope ["rows", "found", "row", "item"] ["rows"] (defScope st_text_of_rows) := ⟨rfl, rfl, rfl, by decide +kernel, rfl, by decide +kernel, by decide +kernel⟩
theorem ok_text_of_rows {P : Program} {w : World} {K : PySem.W.Frag} {mg : Str → Option Value} {base : Heap} {f : Addr} {fd : FuncData} (m_isinstance : mg "isinstance" = none) (m_str : mg "str" = none) (g_sizes_of : DefAt P w K mg base "sizes_of" 1 ["rows"] [false] phi_sizes_of_v2) (F : Fun K "text_of_rows" "text_of_rows" st_text_of_rows f fd) (hm : mg "text_of_rows" = some (.ref f)) :
    DefAt P w K mg base "text_of_rows" 2 ["rows"] [false] phi_text_of_rows_v2 := by
  refine DefAt.mk (lev := 1) (k := 3) F hm (F.binds (ps := ["rows"]) fun _ _ _ _ _ _ us hl => match us, hl with | [_], _ => rfl) sc_text_of_rows rfl rfl (fun cdv A outer s H E hr => ?_) rfl
  have sc := sc_text_of_rows
  have tk : Takes (cxOf (L2.CX P w) P w K mg base ["rows", "found", "row", "item"] "text_of_rows" (defScope st_text_of_rows) f cdv A outer s H E) (fun cls d _ H => E cls d H) := takes_of rfl rfl rfl rfl
  have ps : PassesOwn (model P w) (cxOf (L2.CX P w) P w K mg base ["rows", "found", "row", "item"] "text_of_rows" (defScope st_text_of_rows) f cdv A outer s H E).A (cxOf (L2.CX P w) P w K mg base ["rows", "found", "row", "item"] "text_of_rows" (defScope st_text_of_rows) f cdv A outer s H E).env (cxOf (L2.CX P w) P w K mg base ["rows", "found", "row", "item"] "text_of_rows" (defScope st_text_of_rows) f cdv A outer s H E).xe := passes_of rfl
  exact ((s_cons (s_expr (e_callD g_sizes_of (hr.mono (by omega)) tk (a_cons (e_nm 0) a_nil)))
    (s_cons (s_asO (i := 1) sc.nd (e_lstD a_nil))
    (s_cons (s_end (s_for ps rfl (i_seq (e_nm 0)) (g_nm sc.nd) (s_bod (s_one (s_expr (e_mut ty_lst prim_append PySem.F.plainAttrs_list PySem.F.slot_list_append PySem.F.type_list_append mt_append (pv 1) (a_cons (e_bm ta_str prim_join PySem.F.plainAttrs_str PySem.F.slot_str_join PySem.F.type_str_join mt_join (e_strT lit_) (a_cons (e_lc (own := [("item", 3)]) (tgNm 3) rfl sc.nd (i_seq (e_nm 2)) (blkOk_by (by rfl)) (fun _ _ _ _ _ => (pg_name sc.nd rfl (by first | exact .inl rfl | exact .inr rfl))) (fun _ _ _ _ _ => pts_0) (fun _ _ _ _ _ => (e_if (t_truth (e_isi (by rfl) m_isinstance (by rfl) m_str PyProof.Rows.boot_str (by rfl) (e_nm 3))) (e_nm 3) (e_ix (ix_U (hu_of hr)) prim_ixU (e_nm 1) (e_nm 3) (fun _ _ => rfl))))) a_nil)) a_nil)))))))
    (s_one (s_ret (e_ix (ix_U (hu_of hr)) prim_ixU (e_nm 1) (e_un un_neg prim_neg e_int) (fun _ _ => rfl))))))))
abbrev st_item_places : Stmt := topS 12
theorem sc_item_places : FnScope ["row", "place", "sizes", "found", "item"] ["row", "place", "sizes"] (defScope st_item_places) := ⟨rfl, rfl, rfl, by decide +kernel, rfl, by decide +kernel, by decide +kernel⟩
theorem ok_item_places {P : Program} {w : World} {K : PySem.W.Frag} {mg : Str → Option Value} {base : Heap} {f : Addr} {fd : FuncData} (m_isinstance : mg "isinstance" = none) (m_str : mg "str" = none) (F : Fun K "item_places" "item_places" st_item_places f fd) (hm : mg "item_places" = some (.ref f)) :
    DefAt P w K mg base "item_places" 1 ["row", "place", "sizes"] [false, false, false] phi_item_places := by
  refine DefAt.mk (lev := 0) (k := 2) F hm (F.binds (ps := ["row", "place", "sizes"]) fun _ _ _ _ _ _ us hl => match us, hl with | [_, _, _], _ => rfl) sc_item_places rfl rfl (fun cdv A outer s H E hr => ?_) rfl
  have sc := sc_item_places
  have tk : Takes (cxOf (L2.CX P w) P w K mg base ["row", "place", "sizes", "found", "item"] "item_places" (defScope st_item_places) f cdv A outer s H E) (fun cls d _ H => E cls d H) := takes_of rfl rfl rfl rfl
  have ps : PassesOwn (model P w) (cxOf (L2.CX P w) P w K mg base ["row", "place", "sizes", "found", "item"] "item_places" (defScope st_item_places) f cdv A outer s H E).A (cxOf (L2.CX P w) P w K mg base ["row", "place", "sizes", "found", "item"] "item_places" (defScope st_item_places) f cdv A outer s H E).env (cxOf (L2.CX P w) P w K mg base ["row", "place", "sizes", "found", "item"] "item_places" (defScope st_item_places) f cdv A outer s H E).xe := passes_of rfl
  exact ((s_cons (s_asO (i := 3) sc.nd (e_lstD a_nil))
    (s_cons (s_end (s_for ps rfl (i_seq (e_nm 0)) (g_nm sc.nd) (s_bod (s_cons (s_expr (e_mut ty_lst prim_append PySem.F.plainAttrs_list PySem.F.slot_list_append PySem.F.type_list_append mt_append (pv 3) (a_cons (e_tupD (a_cons (e_nm 4) (a_cons (e_nm 1) a_nil))) a_nil)))
    (s_one (s_asV (i := 1) sc.nd (e_bin op_addU prim_add (e_nm 1) (e_if (t_truth (e_isi (by rfl) m_isinstance (by rfl) m_str PyProof.Rows.boot_str (by rfl) (e_nm 4))) e_int (e_ix (ix_U (hu_of hr)) prim_ixU (e_nm 2) (e_nm 4) (fun _ _ => rfl))))))))))
    (s_one (s_ret (e_mv 3))))))
abbrev st_first_met : Stmt := topS 13
theorem sc_first_met : FnScope ["rows", "sizes", "found", "number", "row", "item", "place"] ["rows"] (defScope st_first_met) := ⟨rfl, rfl, rfl, by decide +kernel, rfl, by decide +kernel, by decide +kernel⟩
theorem ok_first_met {P : Program} {w : World} {K : PySem.W.Frag} {mg : Str → Option Value} {base : Heap} {f : Addr} {fd : FuncData} (m_isinstance : mg "isinstance" = none) (m_len : mg "len" = none) (m_range : mg "range" = none) (m_reversed : mg "reversed" = none) (m_str : mg "str" = none) (g_item_places : DefAt P w K mg base "item_places" 1 ["row", "place", "sizes"] [false, false, false] phi_item_places) (g_sizes_of : DefAt P w K mg base "sizes_of" 1 ["rows"] [false] phi_sizes_of_v2) (F : Fun K "first_met" "first_met" st_first_met f fd) (hm : mg "first_met" = some (.ref f)) :
    DefAt P w K mg base "first_met" 2 ["rows"] [false] phi_first_met_v2 := by
  refine DefAt.mk (lev := 1) (k := 6) F hm (F.binds (ps := ["rows"]) fun _ _ _ _ _ _ us hl => match us, hl with | [_], _ => rfl) sc_first_met rfl rfl (fun cdv A outer s H E hr => ?_) rfl
  have sc := sc_first_met
  have tk : Takes (cxOf (L2.CX P w) P w K mg base ["rows", "sizes", "found", "number", "row", "item", "place"] "first_met" (defScope st_first_met) f cdv A outer s H E) (fun cls d _ H => E cls d H) := takes_of rfl rfl rfl rfl
  have ps : PassesOwn (model P w) (cxOf (L2.CX P w) P w K mg base ["rows", "sizes", "found", "number", "row", "item", "place"] "first_met" (defScope st_first_met) f cdv A outer s H E).A (cxOf (L2.CX P w) P w K mg base ["rows", "sizes", "found", "number", "row", "item", "place"] "first_met" (defScope st_first_met) f cdv A outer s H E).env (cxOf (L2.CX P w) P w K mg base ["rows", "sizes", "found", "number", "row", "item", "place"] "first_met" (defScope st_first_met) f cdv A outer s H E).xe := passes_of rfl
  exact ((s_cons (s_asV (i := 1) sc.nd (e_callD g_sizes_of (hr.mono (by omega)) tk (a_cons (e_nm 0) a_nil)))
    (s_cons (s_lcO (own := [("row", 4)]) (tgNm 4) rfl sc.nd (sw_true rfl rfl rfl (by decide +kernel)) (i_seq (e_nm 0)) (blkOk_by (by rfl)) (fun _ _ _ _ _ => (pg_name sc.nd rfl (by first | exact .inl rfl | exact .inr rfl))) (fun _ _ _ _ _ => pts_0) (fun _ _ _ _ _ => e_non))
    (s_cons (s_sub (set_U (hu_of hr)) prim_set e_int (pv 2) (e_un un_neg prim_neg e_int) (by intro _; rfl))
    (s_cons (s_end (s_for ps rfl (i_rrg (by rfl) m_reversed (by rfl) m_range (e_callB cr_lenU prim_len (by rfl) m_len PySem.boot_len (a_cons (e_nm 0) a_nil))) (g_nm sc.nd) (s_one (s_end (s_if (t_cmp op_isnU prim_is (e_ix (ix_U (hu_of hr)) prim_ixU (e_nm 2) (e_nm 3) (fun _ _ => rfl)) e_non (nomark _)) (s_one (s_end (s_for ps rfl (i_seq (e_callD g_item_places (hr.mono (by omega)) tk (a_cons (e_ix (ix_U (hu_of hr)) prim_ixU (e_nm 0) (e_nm 3) (fun _ _ => rfl)) (a_cons (e_ix (ix_U (hu_of hr)) prim_ixU (e_nm 2) (e_nm 3) (fun _ _ => rfl)) (a_cons (e_nm 1) a_nil))))) (g_tup rfl (g_cons sc.nd (g_cons sc.nd g_nil))) (s_one (s_end (s_if (w_and (t_not (t_truth (e_isi (by rfl) m_isinstance (by rfl) m_str PyProof.Rows.boot_str (by rfl) (e_nm 5)))) (w_and1 (w_or (t_cmp op_isU prim_is (e_ix (ix_U (hu_of hr)) prim_ixU (e_nm 2) (e_nm 5) (fun _ _ => rfl)) e_non (nomark _)) (w_or1 (t_cmp op_ltU prim_ord (e_nm 6) (e_ix (ix_U (hu_of hr)) prim_ixU (e_nm 2) (e_nm 5) (fun _ _ => rfl)) (nomark _)))).pt)).pt (s_one (s_sub (set_U (hu_of hr)) prim_set (e_nm 6) (pv 2) (e_nm 5) (by intro _; rfl))) s_nil)))))) s_nil)))))
    (s_one (s_ret (e_mv 2))))))))
abbrev st_pins_of_rows : Stmt := topS 14
theorem sc_pins_of_rows : FnScope ["rows", "sizes", "text", "found", "row", "place", "letter", "item", "there"] ["rows"] (defScope st_pins_of_rows) := ⟨rfl, rfl, rfl, by decide +kernel, rfl, by decide +kernel, by decide +kernel⟩
theorem ok_pins_of_rows {P : Program} {w : World} {K : PySem.W.Frag} {mg : Str → Option Value} {base : Heap} {f : Addr} {fd : FuncData} (m_set : mg "set" = none) (m_sorted : mg "sorted" = none) (m_tuple : mg "tuple" = none) (m_zip : mg "zip" = none) (g_first_met : DefAt P w K mg base "first_met" 2 ["rows"] [false] phi_first_met_v2) (g_item_places : DefAt P w K mg base "item_places" 1 ["row", "place", "sizes"] [false, false, false] phi_item_places) (g_text_of_rows : DefAt P w K mg base "text_of_rows" 2 ["rows"] [false] phi_text_of_rows_v2) (g_sizes_of : DefAt P w K mg base "sizes_of" 1 ["rows"] [false] phi_sizes_of_v2) (F : Fun K "pins_of_rows" "pins_of_rows" st_pins_of_rows f fd) (hm : mg "pins_of_rows" = some (.ref f)) :
    DefAt P w K mg base "pins_of_rows" 3 ["rows"] [false] phi_pins_of_rows_v2 := by
  refine DefAt.mk (lev := 2) (k := 8) F hm (F.binds (ps := ["rows"]) fun _ _ _ _ _ _ us hl => match us, hl with | [_], _ => rfl) sc_pins_of_rows rfl rfl (fun cdv A outer s H E hr => ?_) rfl
  have sc := sc_pins_of_rows
  have tk : Takes (cxOf (L2.CX P w) P w K mg base ["rows", "sizes", "text", "found", "row", "place", "letter", "item", "there"] "pins_of_rows" (defScope st_pins_of_rows) f cdv A outer s H E) (fun cls d _ H => E cls d H) := takes_of rfl rfl rfl rfl
  have ps : PassesOwn (model P w) (cxOf (L2.CX P w) P w K mg base ["rows", "sizes", "text", "found", "row", "place", "letter", "item", "there"] "pins_of_rows" (defScope st_pins_of_rows) f cdv A outer s H E).A (cxOf (L2.CX P w) P w K mg base ["rows", "sizes", "text", "found", "row", "place", "letter", "item", "there"] "pins_of_rows" (defScope st_pins_of_rows) f cdv A outer s H E).env (cxOf (L2.CX P w) P w K mg base ["rows", "sizes", "text", "found", "row", "place", "letter", "item", "there"] "pins_of_rows" (defScope st_pins_of_rows) f cdv A outer s H E).xe := passes_of rfl
  exact ((s_cons (s_asV (i := 1) sc.nd (e_callD g_sizes_of (hr.mono (by omega)) tk (a_cons (e_nm 0) a_nil)))
    (s_cons (s_asV (i := 2) sc.nd (e_callD g_text_of_rows (hr.mono (by omega)) tk (a_cons (e_nm 0) a_nil)))
    (s_cons (s_end (s_lcO (own := [("letter", 6)]) (tgNm 6) rfl sc.nd (sw_true rfl rfl rfl (by decide +kernel)) (i_seq (e_sortsetX rfl hr.units (by rfl) m_sorted (by rfl) m_set (a_cons (e_nm 2) a_nil))) (blkOk_by (by rfl)) (fun _ _ _ _ _ => (pg_name sc.nd rfl (by first | exact .inl rfl | exact .inr rfl))) (fun _ _ _ _ _ => pts_0) (fun _ _ _ _ _ => (e_bm ta_str prim_index PySem.F.plainAttrs_str PySem.F.slot_str_index PySem.F.type_str_index mt_sindex (e_nm 2) (a_cons (e_nm 6) a_nil)))))
    (s_cons (s_end (s_for ps rfl (i_zipM (by rfl) m_zip (a_cons (e_nm 0) (a_cons (e_callD g_first_met (hr.mono (by omega)) tk (a_cons (e_nm 0) a_nil)) a_nil))) (g_tup rfl (g_cons sc.nd (g_cons sc.nd g_nil))) (s_one (s_end (s_if (t_cmp op_isnU prim_is (e_nm 5) e_non (nomark _)) (s_one (s_expr (e_mut ty_lst prim_extend PySem.F.plainAttrs_list PySem.F.slot_list_extend PySem.F.type_list_extend mt_extend (pv 3) (a_cons (e_lc (own := [("item", 7), ("there", 8)]) (tgTp [7, 8]) rfl sc.nd (i_seq (e_slice sl_U prim_sl (e_callD g_item_places (hr.mono (by omega)) tk (a_cons (e_nm 4) (a_cons (e_nm 5) (a_cons (e_nm 1) a_nil)))) (o_some e_int) o_none)) (blkOk_by (by rfl)) (fun _ _ _ _ _ => (pg_tup rfl (pgs_cons (pg_name (i := 7) sc.nd rfl (by first | exact .inl rfl | exact .inr rfl)) (pgs_cons (pg_name (i := 8) sc.nd rfl (by first | exact .inl rfl | exact .inr rfl)) pgs_nil)))) (fun _ _ _ _ _ => pts_0) (fun _ _ _ _ _ => (e_bin op_subU prim_sub (e_nm 8) e_int))) a_nil)))) s_nil)))))
    (s_one (s_ret (e_callTy call_tuple_of prim_tuple (by rfl) m_tuple PyProof.Rows.boot_tuple (a_cons (e_sortset rfl hr.units (by rfl) m_sorted (by rfl) m_set (a_cons (e_nm 3) a_nil)) a_nil)))))))))
abbrev st_lword : Stmt := topS 20
theorem sc_lword : FnScope ["way", "some", "caught", "e"] ["way", "some"] (defScope st_lword) := ⟨rfl, rfl, rfl, by decide +kernel, rfl, by decide +kernel, by decide +kernel⟩
theorem ok_lword {P : Program} {w : World} {K : PySem.W.Frag} {mg : Str → Option Value} {base : Heap} {f : Addr} {fd : FuncData} (m_ValueError : mg "ValueError" = none) (m_int : mg "int" = none) (m_isinstance : mg "isinstance" = none) (g_text_of_rows : DefAt P w K mg base "text_of_rows" 2 ["rows"] [false] phi_text_of_rows_v2) (g_first_met : DefAt P w K mg base "first_met" 2 ["rows"] [false] phi_first_met_v2) (g_pins_of_rows : DefAt P w K mg base "pins_of_rows" 3 ["rows"] [false] phi_pins_of_rows_v2) {c_pin c_many c_noturned c_norow c_round c_missed c_notext : Addr} (xT : XT K [(.pin, c_pin), (.many, c_many), (.noturned, c_noturned), (.norow, c_norow), (.round, c_round), (.missed, c_missed), (.notext, c_notext)]) (gx_round : mg "GoesRound" = some (.ref c_round)) (gx_missed : mg "Missed" = some (.ref c_missed)) (gx_norow : mg "NoRow" = some (.ref c_norow)) (gx_notext : mg "NoText" = some (.ref c_notext)) (gx_noturned : mg "NoTurned" = some (.ref c_noturned)) (gx_pin : mg "PinError" = some (.ref c_pin)) (gx_many : mg "TooMany" = some (.ref c_many)) (F : Fun K "_law_word" "_law_word" st_lword f fd) (hm : mg "_law_word" = some (.ref f)) :
    DefAt P w K mg base "_law_word" 4 ["way", "some"] [false, false] phi_lword_v2 := by
  refine DefAt.mk (lev := 3) (k := 2) F hm (F.binds (ps := ["way", "some"]) fun _ _ _ _ _ _ us hl => match us, hl with | [_, _], _ => rfl) sc_lword rfl rfl (fun cdv A outer s H E hr => ?_) rfl
  have sc := sc_lword
  have tk : Takes (cxOf (L2.CX P w) P w K mg base ["way", "some", "caught", "e"] "_law_word" (defScope st_lword) f cdv A outer s H E) (fun cls d _ H => E cls d H) := takes_of rfl rfl rfl rfl
  have ps : PassesOwn (model P w) (cxOf (L2.CX P w) P w K mg base ["way", "some", "caught", "e"] "_law_word" (defScope st_lword) f cdv A outer s H E).A (cxOf (L2.CX P w) P w K mg base ["way", "some", "caught", "e"] "_law_word" (defScope st_lword) f cdv A outer s H E).env (cxOf (L2.CX P w) P w K mg base ["way", "some", "caught", "e"] "_law_word" (defScope st_lword) f cdv A outer s H E).xe := passes_of rfl
  exact ((s_cons (s_asV (i := 2) sc.nd e_non)
    (s_cons (s_end (s_try xT (List.mem_cons_self) sc.nd gx_pin tk (fun _ _ _ tk ps => (s_one (s_if (t_cmp (op_eqU hr.units) prim_eq (e_nm 0) e_int (nomark _)) (s_one (s_expr (e_callD g_text_of_rows (hr.mono (by omega)) tk (a_cons (e_nm 1) a_nil)))) (s_one (s_if (t_cmp (op_eqU hr.units) prim_eq (e_nm 0) e_int (nomark _)) (s_one (s_expr (e_callD g_first_met (hr.mono (by omega)) tk (a_cons (e_nm 1) a_nil)))) (s_one (s_expr (e_callD g_pins_of_rows (hr.mono (by omega)) tk (a_cons (e_nm 1) a_nil))))))))) (fun _ _ => (s_one (s_asV (i := 2) sc.nd (e_nm 3)))) (i := 3)))
    (s_cons (s_if (t_cmp op_isU prim_is (e_nm 2) e_non (nomark _)) (s_one (s_ret (e_strT lit_))) s_nil)
    (s_cons (s_if (w_or (t_truth (e_isxT xT (.cons (List.mem_cons_of_mem _ (List.mem_cons_of_mem _ (List.mem_cons_of_mem _ (List.mem_cons_of_mem _ (List.mem_cons_self))))) (.cons (List.mem_cons_of_mem _ (List.mem_cons_of_mem _ (List.mem_cons_of_mem _ (List.mem_cons_of_mem _ (List.mem_cons_of_mem _ (List.mem_cons_self)))))) (.cons (List.mem_cons_of_mem _ (List.mem_cons_of_mem _ (List.mem_cons_of_mem _ (List.mem_cons_self)))) (.cons (List.mem_cons_of_mem _ (List.mem_cons_of_mem _ (List.mem_cons_of_mem _ (List.mem_cons_of_mem _ (List.mem_cons_of_mem _ (List.mem_cons_of_mem _ (List.mem_cons_self))))))) (.cons (List.mem_cons_of_mem _ (List.mem_cons_of_mem _ (List.mem_cons_self))) .nil))))) (by exact (pa_clsN gx_round (by rfl) (pa_clsN gx_missed (by rfl) (pa_clsN gx_norow (by rfl) (pa_clsN gx_notext (by rfl) (pa_clsN gx_noturned (by rfl) pa_cls0)))))) (by rw [sizeLine_eq]; simp) (by rfl) m_isinstance (e_nm 2))) (w_or1 (t_not (t_truth (e_isv xT (kit_ty (by decide +kernel)) (by rfl) m_isinstance (by rfl) m_ValueError (e_nm 2)))))).pt (s_one (s_ret (e_strT lit_6f_64_64))) s_nil)
    (s_one (s_ret (e_ix (ix_U (hu_of hr)) prim_ixU (e_lstD (a_cons (e_strT lit_6f_64_64) (a_cons (e_strT lit_6d_61_6e_79) a_nil))) (e_callTy cr_intU prim_int (by rfl) m_int PyProof.Rows.boot_int (a_cons (e_isx xT (List.mem_cons_of_mem _ (List.mem_cons_self)) gx_many (by rfl) m_isinstance (by rfl) (e_nm 2)) a_nil)) (fun _ _ => rfl)))))))))
abbrev st_ltake : Stmt := topS 17
theorem sc_ltake : FnScope ["pen", "many", "found", "at", "cell", "one", "two", "three"] ["pen", "many"] (defScope st_ltake) := ⟨rfl, rfl, rfl, by decide +kernel, rfl, by decide +kernel, by decide +kernel⟩
theorem ok_ltake {P : Program} {w : World} {K : PySem.W.Frag} {mg : Str → Option Value} {base : Heap} {f : Addr} {fd : FuncData} (m_len : mg "len" = none) (F : Fun K "_law_take" "_law_take" st_ltake f fd) (hm : mg "_law_take" = some (.ref f)) :
    DefAt P w K mg base "_law_take" 1 ["pen", "many"] [true, false] phi_ltake := by
  refine DefAt.mk (lev := 0) (k := 6) F hm (F.binds (ps := ["pen", "many"]) fun _ _ _ _ _ _ us hl => match us, hl with | [_, _], _ => rfl) sc_ltake rfl rfl (fun cdv A outer s H E hr => ?_) rfl
  have sc := sc_ltake
  have tk : Takes (cxOf (L2.CX P w) P w K mg base ["pen", "many", "found", "at", "cell", "one", "two", "three"] "_law_take" (defScope st_ltake) f cdv A outer s H E) (fun cls d _ H => E cls d H) := takes_of rfl rfl rfl rfl
  have ps : PassesOwn (model P w) (cxOf (L2.CX P w) P w K mg base ["pen", "many", "found", "at", "cell", "one", "two", "three"] "_law_take" (defScope st_ltake) f cdv A outer s H E).A (cxOf (L2.CX P w) P w K mg base ["pen", "many", "found", "at", "cell", "one", "two", "three"] "_law_take" (defScope st_ltake) f cdv A outer s H E).env (cxOf (L2.CX P w) P w K mg base ["pen", "many", "found", "at", "cell", "one", "two", "three"] "_law_take" (defScope st_ltake) f cdv A outer s H E).xe := passes_of rfl
  exact ((s_cons (s_if (t_cmp (op_eqU hr.units) prim_eq (e_ix (ix_U (hu_of hr)) prim_ixU (e_nm 0) e_int (fun _ _ => rfl)) e_int (nomark _)) (s_cons (s_asV (i := 3) sc.nd (e_ix (ix_U (hu_of hr)) prim_ixU (e_nm 0) e_int (fun _ _ => rfl)))
    (s_cons (s_sub (set_U (hu_of hr)) prim_set (e_bin op_addU prim_add (e_nm 3) e_int) (pv 0) e_int (by intro _; rfl))
    (s_cons (s_asV (i := 4) sc.nd e_int)
    (s_cons (s_if (t_cmp op_ltU prim_ord (e_nm 3) (e_callB cr_lenU prim_len (by rfl) m_len PySem.boot_len (a_cons (e_ix (ix_U (hu_of hr)) prim_ixU (e_nm 0) e_int (fun _ _ => rfl)) a_nil)) (nomark _)) (s_one (s_asV (i := 4) sc.nd (e_ix (ix_U (hu_of hr)) prim_ixU (e_ix (ix_U (hu_of hr)) prim_ixU (e_nm 0) e_int (fun _ _ => rfl)) (e_nm 3) (fun _ _ => rfl)))) (s_one (s_if (t_cmp op_gtU prim_ord (e_callB cr_lenU prim_len (by rfl) m_len PySem.boot_len (a_cons (e_ix (ix_U (hu_of hr)) prim_ixU (e_nm 0) e_int (fun _ _ => rfl)) a_nil)) e_int (nomark _)) (s_one (s_asV (i := 4) sc.nd (e_bin op_addU prim_add (e_bin op_mod prim_mod (e_ix (ix_U (hu_of hr)) prim_ixU (e_ix (ix_U (hu_of hr)) prim_ixU (e_nm 0) e_int (fun _ _ => rfl)) (e_bin op_mod prim_mod (e_bin op_mulV prim_mulV (e_nm 3) e_int) (e_callB cr_lenU prim_len (by rfl) m_len PySem.boot_len (a_cons (e_ix (ix_U (hu_of hr)) prim_ixU (e_nm 0) e_int (fun _ _ => rfl)) a_nil))) (fun _ _ => rfl)) e_int) (e_bin op_mulV prim_mulV e_int (e_nm 3))))) s_nil)))
    (s_cons (s_asV (i := 5) sc.nd (e_bin op_mod prim_mod (e_bin op_mulV prim_mulV (e_bin op_addU prim_add (e_bin op_addU prim_add (e_bin op_mod prim_mod (e_nm 4) e_int) (e_bin op_mulV prim_mulV e_int (e_nm 3))) e_int) e_int) e_int))
    (s_cons (s_asV (i := 6) sc.nd (e_bin op_mod prim_mod (e_bin op_addU prim_add (e_bin op_addU prim_add (e_bin op_mulV prim_mulV (e_nm 5) (e_nm 5)) (e_bin op_mulV prim_mulV e_int (e_nm 3))) e_int) e_int))
    (s_cons (s_asV (i := 7) sc.nd (e_bin op_mod prim_mod (e_bin op_addU prim_add (e_bin op_mulV prim_mulV (e_nm 6) (e_nm 6)) (e_nm 5)) e_int))
    (s_cons (s_sub (set_U (hu_of hr)) prim_set (e_bin op_addU prim_add (e_bin op_fdivW prim_fdv (e_bin op_addU prim_add (e_bin op_mulV prim_mulV (e_nm 6) e_int) (e_nm 7)) e_int) e_int) (pv 0) e_int (by intro _; rfl))
    (s_one (s_end (s_if (t_cmp op_geU prim_ord (e_nm 4) (e_bin op_pow prim_pow e_int e_int) (nomark _)) (s_one (s_sub (set_U (hu_of hr)) prim_set (e_bin op_fdivW prim_fdv (e_nm 4) (e_bin op_pow prim_pow e_int e_int)) (pv 0) e_int (by intro _; rfl))) s_nil))))))))))) s_nil)
    (s_cons (s_asV (i := 2) sc.nd (e_bin op_mod prim_mod (e_ix (ix_U (hu_of hr)) prim_ixU (e_nm 0) e_int (fun _ _ => rfl)) (e_nm 1)))
    (s_cons (s_sub (set_U (hu_of hr)) prim_set (e_bin op_fdivW prim_fdv (e_ix (ix_U (hu_of hr)) prim_ixU (e_nm 0) e_int (fun _ _ => rfl)) (e_nm 1)) (pv 0) e_int (by intro _; rfl))
    (s_one (s_ret (e_nm 2)))))))
abbrev st_lletter : Stmt := topS 18
theorem sc_lletter : FnScope ["pen", "size"] ["pen", "size"] (defScope st_lletter) := ⟨rfl, rfl, rfl, by decide +kernel, rfl, by decide +kernel, by decide +kernel⟩
theorem ok_lletter {P : Program} {w : World} {K : PySem.W.Frag} {mg : Str → Option Value} {base : Heap} {f : Addr} {fd : FuncData} (m_int : mg "int" = none) (g_ltake : DefAt P w K mg base "_law_take" 1 ["pen", "many"] [true, false] phi_ltake) (F : Fun K "_law_letter" "_law_letter" st_lletter f fd) (hm : mg "_law_letter" = some (.ref f)) :
    DefAt P w K mg base "_law_letter" 2 ["pen", "size"] [true, false] phi_lletter := by
  refine DefAt.mk (lev := 1) (k := 0) F hm (F.binds (ps := ["pen", "size"]) fun _ _ _ _ _ _ us hl => match us, hl with | [_, _], _ => rfl) sc_lletter rfl rfl (fun cdv A outer s H E hr => ?_) rfl
  have sc := sc_lletter
  have tk : Takes (cxOf (L2.CX P w) P w K mg base ["pen", "size"] "_law_letter" (defScope st_lletter) f cdv A outer s H E) (fun cls d _ H => E cls d H) := takes_of rfl rfl rfl rfl
  have ps : PassesOwn (model P w) (cxOf (L2.CX P w) P w K mg base ["pen", "size"] "_law_letter" (defScope st_lletter) f cdv A outer s H E).A (cxOf (L2.CX P w) P w K mg base ["pen", "size"] "_law_letter" (defScope st_lletter) f cdv A outer s H E).env (cxOf (L2.CX P w) P w K mg base ["pen", "size"] "_law_letter" (defScope st_lletter) f cdv A outer s H E).xe := passes_of rfl
  exact ((s_one (s_ret (e_ix (ix_U (hu_of hr)) prim_ixU (e_strT lit_32d10c7b8cf9) (e_bin op_mod prim_mod (e_bin op_addU prim_add (e_bin op_mulV prim_mulV (e_callD g_ltake (hr.mono (by omega)) tk (a_cons (e_nm 0) (a_cons (e_nm 1) a_nil))) e_int) (e_bin op_mulV prim_mulV e_int (e_callTy cr_intU prim_int (by rfl) m_int PyProof.Rows.boot_int (a_cons (e_cmp op_ltU prim_ord (e_nm 1) e_int (nomark _)) a_nil)))) e_int) (fun _ _ => rfl)))))
abbrev st_llong : Stmt := topS 21
theorem sc_llong : FnScope ["pen", "many", "a", "b", "way", "some", "rest", "bits", "k"] ["pen", "many"] (defScope st_llong) := ⟨rfl, rfl, rfl, by decide +kernel, rfl, by decide +kernel, by decide +kernel⟩
theorem ok_llong {P : Program} {w : World} {K : PySem.W.Frag} {mg : Str → Option Value} {base : Heap} {f : Addr} {fd : FuncData} (m_range : mg "range" = none) (m_tuple : mg "tuple" = none) (g_ltake : DefAt P w K mg base "_law_take" 1 ["pen", "many"] [true, false] phi_ltake) (g_lletter : DefAt P w K mg base "_law_letter" 2 ["pen", "size"] [true, false] phi_lletter) (F : Fun K "_law_long" "_law_long" st_llong f fd) (hm : mg "_law_long" = some (.ref f)) :
    DefAt P w K mg base "_law_long" 3 ["pen", "many"] [true, false] phi_llong := by
  refine DefAt.mk (lev := 2) (k := 7) F hm (F.binds (ps := ["pen", "many"]) fun _ _ _ _ _ _ us hl => match us, hl with | [_, _], _ => rfl) sc_llong rfl rfl (fun cdv A outer s H E hr => ?_) rfl
  have sc := sc_llong
  have tk : Takes (cxOf (L2.CX P w) P w K mg base ["pen", "many", "a", "b", "way", "some", "rest", "bits", "k"] "_law_long" (defScope st_llong) f cdv A outer s H E) (fun cls d _ H => E cls d H) := takes_of rfl rfl rfl rfl
  have ps : PassesOwn (model P w) (cxOf (L2.CX P w) P w K mg base ["pen", "many", "a", "b", "way", "some", "rest", "bits", "k"] "_law_long" (defScope st_llong) f cdv A outer s H E).A (cxOf (L2.CX P w) P w K mg base ["pen", "many", "a", "b", "way", "some", "rest", "bits", "k"] "_law_long" (defScope st_llong) f cdv A outer s H E).env (cxOf (L2.CX P w) P w K mg base ["pen", "many", "a", "b", "way", "some", "rest", "bits", "k"] "_law_long" (defScope st_llong) f cdv A outer s H E).xe := passes_of rfl
  exact ((s_cons (s_par (i := 2) (j := 3) rfl sc.nd (a_cons (e_callD g_lletter (hr.mono (by omega)) tk (a_cons (e_nm 0) (a_cons e_int a_nil))) (a_cons (e_callD g_lletter (hr.mono (by omega)) tk (a_cons (e_nm 0) (a_cons e_int a_nil))) a_nil)))
    (s_cons (s_asV (i := 4) sc.nd (e_callD g_ltake (hr.mono (by omega)) tk (a_cons (e_nm 0) (a_cons e_int a_nil))))
    (s_cons (s_if (t_cmp (op_eqU hr.units) prim_eq (e_nm 4) e_int (nomark _)) (s_one (s_ret (e_tupD (a_cons (e_bin op_mulV prim_mulV (e_tupD (a_cons (e_nm 2) (a_cons (e_nm 3) a_nil))) e_int) (a_cons (e_bin op_mulV prim_mulV (e_tupD (a_cons e_int a_nil)) e_int) (a_cons (e_bin op_addU prim_add (e_bin op_addU prim_add (e_tupD (a_cons e_int (a_cons e_int a_nil))) (e_bin op_mulV prim_mulV (e_tupD (a_cons e_int a_nil)) e_int)) (e_tupD (a_cons (e_nm 3) a_nil))) (a_cons (e_bin op_addU prim_add (e_tupD (a_cons e_int a_nil)) (e_bin op_mulZ prim_mulZ (e_tupD (a_cons (e_nm 2) a_nil)) (e_bin op_subU prim_sub (e_nm 1) e_int))) a_nil))))))) s_nil)
    (s_cons (s_end (s_if (t_cmp (op_eqU hr.units) prim_eq (e_nm 4) e_int (nomark _)) (s_cons (s_asV (i := 5) sc.nd (e_tupD (a_cons (e_tupD (a_cons (e_nm 2) a_nil)) (a_cons (e_tupD (a_cons e_int (a_cons e_int a_nil))) (a_cons (e_tupD (a_cons e_int (a_cons e_int a_nil))) (a_cons (e_tupD (a_cons e_int (a_cons e_int a_nil))) (a_cons (e_tupD (a_cons e_int (a_cons e_int a_nil))) (a_cons (e_tupD (a_cons e_int (a_cons e_int a_nil))) (a_cons (e_tupD (a_cons e_int (a_cons e_int a_nil))) (a_cons (e_tupD (a_cons e_int (a_cons e_int a_nil))) a_nil))))))))))
    (s_cons (s_asV (i := 6) sc.nd (e_bin op_subU prim_sub (e_nm 1) e_int))
    (s_cons (s_lcV (own := [("k", 8)]) (tgNm 8) rfl sc.nd (sw_true rfl rfl rfl (by decide +kernel)) (i_rg1 (by rfl) m_range (a_cons e_int a_nil)) (blkOk_by (by rfl)) (fun _ _ _ _ _ => (pg_name sc.nd rfl (by first | exact .inl rfl | exact .inr rfl))) (fun _ _ _ _ _ => (pts_1 (t_cmp (op_eqU hr.units) prim_eq (e_bin op_mod prim_mod (e_bin op_fdivW prim_fdv (e_nm 6) (e_ix (ix_U (hu_of hr)) prim_ixU (e_lstD (a_cons e_int (a_cons e_int (a_cons e_int (a_cons e_int (a_cons e_int a_nil)))))) (e_nm 8) (fun _ _ => rfl))) e_int) e_int (nomark _)))) (fun _ _ _ _ _ => (e_nm 8)))
    (s_one (s_ret (e_bin op_addU prim_add (e_nm 5) (e_tupD (a_cons (e_bin op_addU prim_add (e_tupD (a_cons e_int (a_cons e_int (a_cons e_int a_nil)))) (e_callTy call_tuple_of prim_tuple (by rfl) m_tuple PyProof.Rows.boot_tuple (a_cons (e_nm 7) a_nil))) a_nil)))))))) s_nil))
    (s_one (s_ret (e_tupD (a_cons (e_bin op_mulV prim_mulV (e_tupD (a_cons (e_nm 2) a_nil)) e_int) (a_cons (e_bin op_addU prim_add (e_tupD (a_cons (e_nm 3) (a_cons e_int a_nil))) (e_bin op_mulV prim_mulV (e_tupD (a_cons e_int a_nil)) e_int)) (a_cons (e_bin op_addU prim_add (e_tupD (a_cons e_int (a_cons e_int a_nil))) (e_bin op_mulV prim_mulV (e_tupD (a_cons e_int a_nil)) e_int)) (a_cons (e_bin op_mulZ prim_mulZ (e_tupD (a_cons (e_nm 3) a_nil)) (e_bin op_subU prim_sub (e_nm 1) e_int)) (a_cons (e_tupD (a_cons e_int (a_cons e_int a_nil))) a_nil)))))))))))))
abbrev st_lpen : Stmt := topS 16
theorem sc_lpen : FnScope ["script"] ["script"] (defScope st_lpen) := ⟨rfl, rfl, rfl, by decide +kernel, rfl, by decide +kernel, by decide +kernel⟩
theorem ok_lpen {P : Program} {w : World} {K : PySem.W.Frag} {mg : Str → Option Value} {base : Heap} {f : Addr} {fd : FuncData} (m_list : mg "list" = none) (F : Fun K "_law_pen" "_law_pen" st_lpen f fd) (hm : mg "_law_pen" = some (.ref f)) :
    DefAt P w K mg base "_law_pen" 1 ["script"] [false] phi_lpen := by
  refine DefAt.mk (lev := 0) (k := 0) F hm (F.binds (ps := ["script"]) fun _ _ _ _ _ _ us hl => match us, hl with | [_], _ => rfl) sc_lpen rfl rfl (fun cdv A outer s H E hr => ?_) rfl
  have sc := sc_lpen
  have tk : Takes (cxOf (L2.CX P w) P w K mg base ["script"] "_law_pen" (defScope st_lpen) f cdv A outer s H E) (fun cls d _ H => E cls d H) := takes_of rfl rfl rfl rfl
  have ps : PassesOwn (model P w) (cxOf (L2.CX P w) P w K mg base ["script"] "_law_pen" (defScope st_lpen) f cdv A outer s H E).A (cxOf (L2.CX P w) P w K mg base ["script"] "_law_pen" (defScope st_lpen) f cdv A outer s H E).env (cxOf (L2.CX P w) P w K mg base ["script"] "_law_pen" (defScope st_lpen) f cdv A outer s H E).xe := passes_of rfl
  exact ((s_one (s_ret (e_lstD (a_cons (e_callTy (cr_listU rfl) prim_list (by rfl) m_list PyProof.Rows.boot_list (a_cons (e_slice sl_U prim_sl (e_nm 0) o_none (o_some e_int)) a_nil)) (a_cons e_int (a_cons e_int a_nil)))))))
abbrev st_law : Stmt := topS 22
theorem sc_law : FnScope ["script", "pen", "turn", "double", "short", "way", "many", "some", "sizes", "row", "behind", "due", "number", "item"] ["script"] (defScope st_law) := ⟨rfl, rfl, rfl, by decide +kernel, rfl, by decide +kernel, by decide +kernel⟩
theorem ok_law {P : Program} {w : World} {K : PySem.W.Frag} {mg : Str → Option Value} {base : Heap} {f : Addr} {fd : FuncData} (m_int : mg "int" = none) (m_isinstance : mg "isinstance" = none) (m_len : mg "len" = none) (m_max : mg "max" = none) (m_range : mg "range" = none) (m_str : mg "str" = none) (m_sum : mg "sum" = none) (m_tuple : mg "tuple" = none) (g_lword : DefAt P w K mg base "_law_word" 4 ["way", "some"] [false, false] phi_lword_v2) (g_ltake : DefAt P w K mg base "_law_take" 1 ["pen", "many"] [true, false] phi_ltake) (g_llong : DefAt P w K mg base "_law_long" 3 ["pen", "many"] [true, false] phi_llong) (g_lpen : DefAt P w K mg base "_law_pen" 1 ["script"] [false] phi_lpen) (F : Fun K "law" "law" st_law f fd) :
    FnOk P w K mg base (L2.CX P w) 5 f fd ["script"] (spD K [false] phi_law_k31) := by
  refine ok_def (lev := 4) (k := 13) F sc_law rfl rfl (fun cdv A outer s H E hr => ?_)
  have sc := sc_law
  have tk : Takes (cxOf (L2.CX P w) P w K mg base ["script", "pen", "turn", "double", "short", "way", "many", "some", "sizes", "row", "behind", "due", "number", "item"] "law" (defScope st_law) f cdv A outer s H E) (fun cls d _ H => E cls d H) := takes_of rfl rfl rfl rfl
  have ps : PassesOwn (model P w) (cxOf (L2.CX P w) P w K mg base ["script", "pen", "turn", "double", "short", "way", "many", "some", "sizes", "row", "behind", "due", "number", "item"] "law" (defScope st_law) f cdv A outer s H E).A (cxOf (L2.CX P w) P w K mg base ["script", "pen", "turn", "double", "short", "way", "many", "some", "sizes", "row", "behind", "due", "number", "item"] "law" (defScope st_law) f cdv A outer s H E).env (cxOf (L2.CX P w) P w K mg base ["script", "pen", "turn", "double", "short", "way", "many", "some", "sizes", "row", "behind", "due", "number", "item"] "law" (defScope st_law) f cdv A outer s H E).xe := passes_of rfl
  exact ((s_cons (s_asO (i := 1) sc.nd (e_callD g_lpen (hr.mono (by omega)) tk (a_cons (e_nm 0) a_nil)))
    (s_cons (s_end (s_for ps rfl (i_rg1 (by rfl) m_range (a_cons e_int a_nil)) (g_nm sc.nd) (s_cons (s_asV (i := 6) sc.nd (e_bin op_addU prim_add e_int (e_callD g_ltake (hr.mono (by omega)) tk (a_cons (e_nm 1) (a_cons e_int a_nil)))))
    (s_cons (s_asV (i := 7) sc.nd (e_callD g_llong (hr.mono (by omega)) tk (a_cons (e_nm 1) (a_cons (e_nm 6) a_nil))))
    (s_cons (s_end (s_asO (i := 8) sc.nd (e_lstD a_nil)))
    (s_cons (s_end (s_for ps rfl (i_seq (e_nm 7)) (g_nm sc.nd) (s_bod (s_one (s_expr (e_mut ty_lst prim_append PySem.F.plainAttrs_list PySem.F.slot_list_append PySem.F.type_list_append mt_append (pv 8) (a_cons (e_callB (cr_sum rfl) prim_sum (by rfl) m_sum PyProof.Rows.boot_sum (a_cons (e_lc (own := [("item", 13)]) (tgNm 13) rfl sc.nd (i_seq (e_nm 9)) (blkOk_by (by rfl)) (fun _ _ _ _ _ => (pg_name sc.nd rfl (by first | exact .inl rfl | exact .inr rfl))) (fun _ _ _ _ _ => pts_0) (fun _ _ _ _ _ => (e_if (t_truth (e_isi (by rfl) m_isinstance (by rfl) m_str PyProof.Rows.boot_str (by rfl) (e_nm 13))) e_int (e_ix (ix_U (hu_of hr)) prim_ixU (e_nm 8) (e_nm 13) (fun _ _ => rfl))))) a_nil)) a_nil)))))))
    (s_cons (s_asV (i := 10) sc.nd (e_ix (ix_U (hu_of hr)) prim_ixU (e_lstD (a_cons (e_tupD a_nil) (a_cons (e_tupD (a_cons (e_tupD (a_cons (e_strT lit_61) a_nil)) a_nil)) (a_cons (e_tupD (a_cons (e_tupD (a_cons (e_bin op_subU prim_sub (e_callB cr_lenU prim_len (by rfl) m_len PySem.boot_len (a_cons (e_nm 7) a_nil)) e_int) a_nil)) a_nil)) (a_cons (e_tupD (a_cons (e_tupD (a_cons (e_strT lit_62) (a_cons e_int a_nil))) a_nil)) a_nil))))) (e_callD g_ltake (hr.mono (by omega)) tk (a_cons (e_nm 1) (a_cons e_int a_nil))) (fun _ _ => rfl)))
    (s_cons (s_end (s_asV (i := 11) sc.nd (e_ix (ix_U (hu_of hr)) prim_ixU (e_lstD (a_cons (e_strT lit_) (a_cons (e_strT lit_6d_61_6e_79) a_nil))) (e_callTy cr_intU prim_int (by rfl) m_int PyProof.Rows.boot_int (a_cons (e_cmp op_gtU prim_ord (e_callB (cr_max rfl) prim_max (by rfl) m_max PyProof.Rows.boot_max (a_cons (e_nm 8) a_nil)) e_int (nomark _)) a_nil)) (fun _ _ => rfl))))
    (s_one (s_end (s_for ps rfl (i_rg1 (by rfl) m_range (a_cons e_int a_nil)) (g_nm sc.nd) (s_one (s_end (s_if (t_cmp (op_neU hr.units) prim_eq (e_callD g_lword (hr.mono (by omega)) tk (a_cons (e_nm 5) (a_cons (e_bin op_addU prim_add (e_nm 7) (e_nm 10)) a_nil))) (e_nm 11) (nomark _)) (s_one (s_ret e_bl)) s_nil))))))))))))))
    (s_cons (s_asV (i := 3) sc.nd (e_bin op_addU prim_add (e_tupD (a_cons (e_tupD (a_cons (e_strT lit_61) (a_cons (e_strT lit_62) a_nil))) a_nil)) (e_callTy call_tuple_of prim_tuple (by rfl) m_tuple PyProof.Rows.boot_tuple (a_cons (e_lc (own := [("number", 12)]) (tgNm 12) rfl sc.nd (i_rg1 (by rfl) m_range (a_cons e_int a_nil)) (blkOk_by (by rfl)) (fun _ _ _ _ _ => (pg_name sc.nd rfl (by first | exact .inl rfl | exact .inr rfl))) (fun _ _ _ _ _ => pts_0) (fun _ _ _ _ _ => (e_tupD (a_cons (e_nm 12) (a_cons (e_nm 12) a_nil))))) a_nil))))
    (s_cons (s_end (s_asV (i := 4) sc.nd (e_bin op_addU prim_add e_int (e_callD g_ltake (hr.mono (by omega)) tk (a_cons (e_nm 1) (a_cons e_int a_nil))))))
    (s_cons (s_end (s_for ps rfl (i_rg1 (by rfl) m_range (a_cons e_int a_nil)) (g_nm sc.nd) (s_cons (s_if (t_cmp (op_neU hr.units) prim_eq (e_callD g_lword (hr.mono (by omega)) tk (a_cons (e_nm 5) (a_cons (e_slice sl_U prim_sl (e_nm 3) o_none (o_some (e_nm 4))) a_nil))) (e_ix (ix_U (hu_of hr)) prim_ixU (e_lstD (a_cons (e_strT lit_) (a_cons (e_strT lit_6d_61_6e_79) a_nil))) (e_callTy cr_intU prim_int (by rfl) m_int PyProof.Rows.boot_int (a_cons (e_cmp op_gtU prim_ord (e_nm 4) e_int (nomark _)) a_nil)) (fun _ _ => rfl)) (nomark _)) (s_one (s_ret e_bl)) s_nil)
    (s_one (s_end (s_if (t_cmp (op_neU hr.units) prim_eq (e_callD g_lword (hr.mono (by omega)) tk (a_cons (e_nm 5) (a_cons (e_nm 3) a_nil))) (e_strT lit_6d_61_6e_79) (nomark _)) (s_one (s_ret e_bl)) s_nil))))))
    (s_one (s_ret e_bl))))))))
theorem all_mk {l : PySem.W.OpenLaw} {w : World} {K : PySem.W.Frag} {h : Heap} {mg : Str → Option Value} {fa : Addr} (X : K.In h) (G : h.Ns mainGlobals mg) (hfa : mg "law" = some (.ref fa))
    {f0 : Addr} {od0 an0 : Option Addr} {sl0 : Array (Option Value)} {oc0 kV0 dc0 pm0 cd0 ct0 : Value}
    (a0 : PySem.W.nsIn K mainGlobals "sizes_of" = some (some (.ref f0))) (l0 : K.lookup f0 = some ⟨oc0, od0, .func (PySem.W.fnOf "sizes_of" "sizes_of" (defArgs st_sizes_of) (defBody st_sizes_of) (defScope st_sizes_of) .none kV0 dc0 pm0 an0 cd0 ct0), sl0⟩) (c0 : PySem.W.codeIn K cd0 "sizes_of" = true) (k0 : PySem.W.keepIn K (.ref f0) = true)
    {f1 : Addr} {od1 an1 : Option Addr} {sl1 : Array (Option Value)} {oc1 kV1 dc1 pm1 cd1 ct1 : Value}
    (a1 : PySem.W.nsIn K mainGlobals "text_of_rows" = some (some (.ref f1))) (l1 : K.lookup f1 = some ⟨oc1, od1, .func (PySem.W.fnOf "text_of_rows" "text_of_rows" (defArgs st_text_of_rows) (defBody st_text_of_rows) (defScope st_text_of_rows) .none kV1 dc1 pm1 an1 cd1 ct1), sl1⟩) (c1 : PySem.W.codeIn K cd1 "text_of_rows" = true) (k1 : PySem.W.keepIn K (.ref f1) = true)
    {f2 : Addr} {od2 an2 : Option Addr} {sl2 : Array (Option Value)} {oc2 kV2 dc2 pm2 cd2 ct2 : Value}
    (a2 : PySem.W.nsIn K mainGlobals "item_places" = some (some (.ref f2))) (l2 : K.lookup f2 = some ⟨oc2, od2, .func (PySem.W.fnOf "item_places" "item_places" (defArgs st_item_places) (defBody st_item_places) (defScope st_item_places) .none kV2 dc2 pm2 an2 cd2 ct2), sl2⟩) (c2 : PySem.W.codeIn K cd2 "item_places" = true) (k2 : PySem.W.keepIn K (.ref f2) = true)
    {f3 : Addr} {od3 an3 : Option Addr} {sl3 : Array (Option Value)} {oc3 kV3 dc3 pm3 cd3 ct3 : Value}
    (a3 : PySem.W.nsIn K mainGlobals "first_met" = some (some (.ref f3))) (l3 : K.lookup f3 = some ⟨oc3, od3, .func (PySem.W.fnOf "first_met" "first_met" (defArgs st_first_met) (defBody st_first_met) (defScope st_first_met) .none kV3 dc3 pm3 an3 cd3 ct3), sl3⟩) (c3 : PySem.W.codeIn K cd3 "first_met" = true) (k3 : PySem.W.keepIn K (.ref f3) = true)
    {f4 : Addr} {od4 an4 : Option Addr} {sl4 : Array (Option Value)} {oc4 kV4 dc4 pm4 cd4 ct4 : Value}
    (a4 : PySem.W.nsIn K mainGlobals "pins_of_rows" = some (some (.ref f4))) (l4 : K.lookup f4 = some ⟨oc4, od4, .func (PySem.W.fnOf "pins_of_rows" "pins_of_rows" (defArgs st_pins_of_rows) (defBody st_pins_of_rows) (defScope st_pins_of_rows) .none kV4 dc4 pm4 an4 cd4 ct4), sl4⟩) (c4 : PySem.W.codeIn K cd4 "pins_of_rows" = true) (k4 : PySem.W.keepIn K (.ref f4) = true)
    {f5 : Addr} {od5 an5 : Option Addr} {sl5 : Array (Option Value)} {oc5 kV5 dc5 pm5 cd5 ct5 : Value}
    (a5 : PySem.W.nsIn K mainGlobals "_law_word" = some (some (.ref f5))) (l5 : K.lookup f5 = some ⟨oc5, od5, .func (PySem.W.fnOf "_law_word" "_law_word" (defArgs st_lword) (defBody st_lword) (defScope st_lword) .none kV5 dc5 pm5 an5 cd5 ct5), sl5⟩) (c5 : PySem.W.codeIn K cd5 "_law_word" = true) (k5 : PySem.W.keepIn K (.ref f5) = true)
    {f6 : Addr} {od6 an6 : Option Addr} {sl6 : Array (Option Value)} {oc6 kV6 dc6 pm6 cd6 ct6 : Value}
    (a6 : PySem.W.nsIn K mainGlobals "_law_take" = some (some (.ref f6))) (l6 : K.lookup f6 = some ⟨oc6, od6, .func (PySem.W.fnOf "_law_take" "_law_take" (defArgs st_ltake) (defBody st_ltake) (defScope st_ltake) .none kV6 dc6 pm6 an6 cd6 ct6), sl6⟩) (c6 : PySem.W.codeIn K cd6 "_law_take" = true) (k6 : PySem.W.keepIn K (.ref f6) = true)
    {f7 : Addr} {od7 an7 : Option Addr} {sl7 : Array (Option Value)} {oc7 kV7 dc7 pm7 cd7 ct7 : Value}
    (a7 : PySem.W.nsIn K mainGlobals "_law_letter" = some (some (.ref f7))) (l7 : K.lookup f7 = some ⟨oc7, od7, .func (PySem.W.fnOf "_law_letter" "_law_letter" (defArgs st_lletter) (defBody st_lletter) (defScope st_lletter) .none kV7 dc7 pm7 an7 cd7 ct7), sl7⟩) (c7 : PySem.W.codeIn K cd7 "_law_letter" = true) (k7 : PySem.W.keepIn K (.ref f7) = true)
    {f8 : Addr} {od8 an8 : Option Addr} {sl8 : Array (Option Value)} {oc8 kV8 dc8 pm8 cd8 ct8 : Value}
    (a8 : PySem.W.nsIn K mainGlobals "_law_long" = some (some (.ref f8))) (l8 : K.lookup f8 = some ⟨oc8, od8, .func (PySem.W.fnOf "_law_long" "_law_long" (defArgs st_llong) (defBody st_llong) (defScope st_llong) .none kV8 dc8 pm8 an8 cd8 ct8), sl8⟩) (c8 : PySem.W.codeIn K cd8 "_law_long" = true) (k8 : PySem.W.keepIn K (.ref f8) = true)
    {f9 : Addr} {od9 an9 : Option Addr} {sl9 : Array (Option Value)} {oc9 kV9 dc9 pm9 cd9 ct9 : Value}
    (a9 : PySem.W.nsIn K mainGlobals "_law_pen" = some (some (.ref f9))) (l9 : K.lookup f9 = some ⟨oc9, od9, .func (PySem.W.fnOf "_law_pen" "_law_pen" (defArgs st_lpen) (defBody st_lpen) (defScope st_lpen) .none kV9 dc9 pm9 an9 cd9 ct9), sl9⟩) (c9 : PySem.W.codeIn K cd9 "_law_pen" = true) (k9 : PySem.W.keepIn K (.ref f9) = true)
    {f10 : Addr} {od10 an10 : Option Addr} {sl10 : Array (Option Value)} {oc10 kV10 dc10 pm10 cd10 ct10 : Value}
    (a10 : PySem.W.nsIn K mainGlobals "law" = some (some (.ref f10))) (l10 : K.lookup f10 = some ⟨oc10, od10, .func (PySem.W.fnOf "law" "law" (defArgs st_law) (defBody st_law) (defScope st_law) .none kV10 dc10 pm10 an10 cd10 ct10), sl10⟩) (c10 : PySem.W.codeIn K cd10 "law" = true) (k10 : PySem.W.keepIn K (.ref f10) = true)
    (z0 : PySem.W.nsIn K mainGlobals "ValueError" = some none)
    (z1 : PySem.W.nsIn K mainGlobals "int" = some none)
    (z2 : PySem.W.nsIn K mainGlobals "isinstance" = some none)
    (z3 : PySem.W.nsIn K mainGlobals "len" = some none)
    (z4 : PySem.W.nsIn K mainGlobals "list" = some none)
    (z5 : PySem.W.nsIn K mainGlobals "max" = some none)
    (z6 : PySem.W.nsIn K mainGlobals "range" = some none)
    (z7 : PySem.W.nsIn K mainGlobals "reversed" = some none)
    (z8 : PySem.W.nsIn K mainGlobals "set" = some none)
    (z9 : PySem.W.nsIn K mainGlobals "sorted" = some none)
    (z10 : PySem.W.nsIn K mainGlobals "str" = some none)
    (z11 : PySem.W.nsIn K mainGlobals "sum" = some none)
    (z12 : PySem.W.nsIn K mainGlobals "tuple" = some none)
    (z13 : PySem.W.nsIn K mainGlobals "zip" = some none)
    {tk0 : Tok} (q0 : PySem.W.nsIn K mainGlobals "MOST_SIGNS" = some (some (.int 300 tk0)))
    {c_pin : Addr} (xa_pin : PySem.W.nsIn K mainGlobals "PinError" = some (some (.ref c_pin)))
    {c_many : Addr} (xa_many : PySem.W.nsIn K mainGlobals "TooMany" = some (some (.ref c_many)))
    {c_noturned : Addr} (xa_noturned : PySem.W.nsIn K mainGlobals "NoTurned" = some (some (.ref c_noturned)))
    {c_norow : Addr} (xa_norow : PySem.W.nsIn K mainGlobals "NoRow" = some (some (.ref c_norow)))
    {c_round : Addr} (xa_round : PySem.W.nsIn K mainGlobals "GoesRound" = some (some (.ref c_round)))
    {c_missed : Addr} (xa_missed : PySem.W.nsIn K mainGlobals "Missed" = some (some (.ref c_missed)))
    {c_notext : Addr} (xa_notext : PySem.W.nsIn K mainGlobals "NoText" = some (some (.ref c_notext)))
    (xB : xtB K [(.pin, c_pin), (.many, c_many), (.noturned, c_noturned), (.norow, c_norow), (.round, c_round), (.missed, c_missed), (.notext, c_notext)] = true)
    (ei_many : PySem.W.excIn K c_many [.type "ValueError", .type "Exception", .type "BaseException", .type "object"] "ValueError.__new__" = true)
    : ∃ fd : FuncData, (∀ (s : Shared) (v : Value), BindsTo s fd ⟨[v], []⟩ [("script", v)]) ∧ ∀ base : Heap, K.In base → base.Ns mainGlobals mg → FnOk l.prog w K mg base (L2.CX l.prog w) 5 fa fd ["script"] (spD K [false] phi_law_k31) := by
  have e := hfa.symm.trans (PySem.W.mg_of X G a10)
  cases e
  have m_ValueError := PySem.W.mg_none_of X G z0
  have m_int := PySem.W.mg_none_of X G z1
  have m_isinstance := PySem.W.mg_none_of X G z2
  have m_len := PySem.W.mg_none_of X G z3
  have m_list := PySem.W.mg_none_of X G z4
  have m_max := PySem.W.mg_none_of X G z5
  have m_range := PySem.W.mg_none_of X G z6
  have m_reversed := PySem.W.mg_none_of X G z7
  have m_set := PySem.W.mg_none_of X G z8
  have m_sorted := PySem.W.mg_none_of X G z9
  have m_str := PySem.W.mg_none_of X G z10
  have m_sum := PySem.W.mg_none_of X G z11
  have m_tuple := PySem.W.mg_none_of X G z12
  have m_zip := PySem.W.mg_none_of X G z13
  have c_MOST_SIGNS : ∃ t, mg "MOST_SIGNS" = some (.int 300 t) := ⟨_, PySem.W.mg_of X G q0⟩
  have F0 := fun_mk (st := st_sizes_of) l0 c0 k0
  have F1 := fun_mk (st := st_text_of_rows) l1 c1 k1
  have F2 := fun_mk (st := st_item_places) l2 c2 k2
  have F3 := fun_mk (st := st_first_met) l3 c3 k3
  have F4 := fun_mk (st := st_pins_of_rows) l4 c4 k4
  have F5 := fun_mk (st := st_lword) l5 c5 k5
  have F6 := fun_mk (st := st_ltake) l6 c6 k6
  have F7 := fun_mk (st := st_lletter) l7 c7 k7
  have F8 := fun_mk (st := st_llong) l8 c8 k8
  have F9 := fun_mk (st := st_lpen) l9 c9 k9
  have F10 := fun_mk (st := st_law) l10 c10 k10
  have xT := XT.of xB
  have gx_pin : mg "PinError" = some (.ref c_pin) := PySem.W.mg_of X G xa_pin
  have gx_many : mg "TooMany" = some (.ref c_many) := PySem.W.mg_of X G xa_many
  have gx_noturned : mg "NoTurned" = some (.ref c_noturned) := PySem.W.mg_of X G xa_noturned
  have gx_norow : mg "NoRow" = some (.ref c_norow) := PySem.W.mg_of X G xa_norow
  have gx_round : mg "GoesRound" = some (.ref c_round) := PySem.W.mg_of X G xa_round
  have gx_missed : mg "Missed" = some (.ref c_missed) := PySem.W.mg_of X G xa_missed
  have gx_notext : mg "NoText" = some (.ref c_notext) := PySem.W.mg_of X G xa_notext
  refine ⟨PySem.W.fnOf "law" "law" (defArgs st_law) (defBody st_law) (defScope st_law) .none kV10 dc10 pm10 an10 cd10 ct10, fun s v => .of_eq rfl, fun base _ _ => ?_⟩
  have g_sizes_of := ok_sizes_of (P := l.prog) (w := w) (base := base) m_isinstance m_str m_sum c_MOST_SIGNS  xT gx_many ei_many F0 (PySem.W.mg_of X G a0)
  have g_text_of_rows := ok_text_of_rows (P := l.prog) (w := w) (base := base) m_isinstance m_str  g_sizes_of F1 (PySem.W.mg_of X G a1)
  have g_item_places := ok_item_places (P := l.prog) (w := w) (base := base) m_isinstance m_str   F2 (PySem.W.mg_of X G a2)
  have g_first_met := ok_first_met (P := l.prog) (w := w) (base := base) m_isinstance m_len m_range m_reversed m_str  g_item_places g_sizes_of F3 (PySem.W.mg_of X G a3)
  have g_pins_of_rows := ok_pins_of_rows (P := l.prog) (w := w) (base := base) m_set m_sorted m_tuple m_zip  g_first_met g_item_places g_text_of_rows g_sizes_of F4 (PySem.W.mg_of X G a4)
  have g_lword := ok_lword (P := l.prog) (w := w) (base := base) m_ValueError m_int m_isinstance  g_text_of_rows g_first_met g_pins_of_rows xT gx_round gx_missed gx_norow gx_notext gx_noturned gx_pin gx_many F5 (PySem.W.mg_of X G a5)
  have g_ltake := ok_ltake (P := l.prog) (w := w) (base := base) m_len   F6 (PySem.W.mg_of X G a6)
  have g_lletter := ok_lletter (P := l.prog) (w := w) (base := base) m_int  g_ltake F7 (PySem.W.mg_of X G a7)
  have g_llong := ok_llong (P := l.prog) (w := w) (base := base) m_range m_tuple  g_ltake g_lletter F8 (PySem.W.mg_of X G a8)
  have g_lpen := ok_lpen (P := l.prog) (w := w) (base := base) m_list   F9 (PySem.W.mg_of X G a9)
  exact ok_law m_int m_isinstance m_len m_max m_range m_str m_sum m_tuple  g_lword g_ltake g_llong g_lpen F10
end PyD.k31

end

section
set_option maxHeartbeats 2000000
namespace PyD.S
open PySem PySem.Spec L2 PyD.S
theorem two64 : (2 : Int) ^ 64 = 18446744073709551616 := rfl
theorem mulOk_r {a b : Int} (h : b < 18446744073709551616) (h' : -18446744073709551616 < b) : mulOk a b := .inr ⟨by rw [two64]; exact h', by rw [two64]; exact h⟩
theorem mulOk_l {a b : Int} (h : a < 18446744073709551616) (h' : -18446744073709551616 < a) : mulOk a b := .inl ⟨by rw [two64]; exact h', by rw [two64]; exact h⟩
theorem mulOk_m {x m b : Int} (h : 0 < m) (h' : m ≤ 9223372036854775808) : mulOk (x % m) b := by
  have h1 := Int.emod_nonneg x (show m ≠ 0 by omega)
  have h2 := Int.emod_lt_of_pos x h
  exact mulOk_l (by omega) (by omega)
theorem log_lit {m : Int} (h0 : 0 < m) (h : m < 1152921504606846976) : m.natAbs.log2 ≤ 8000 := by
  have h1 : m.natAbs < 2 ^ 60 := by omega
  have h2 : m.natAbs ≠ 0 := by omega
  exact Nat.le_trans (Nat.le_of_lt ((Nat.log2_lt h2).mpr h1)) (by decide)
theorem log_ok {m : Int} (h0 : 0 < m) (h : m ≤ 1000000000) : m.natAbs.log2 ≤ 8000 := by
  have h1 : m.natAbs < 2 ^ 30 := by omega
  have h2 : m.natAbs ≠ 0 := by omega
  exact Nat.le_trans (Nat.le_of_lt ((Nat.log2_lt h2).mpr h1)) (by decide)
/-- a small letter -/
def Lt (c : Nat) : Prop := 97 ≤ c ∧ c ≤ 122
theorem abc : ("abcdefghijklmnopqrstuvwxyz" : Str) = tx [97,98,99,100,101,102,103,104,105,106,107,108,109,110,111,112,113,114,115,116,117,118,119,120,121,122] := by decide +kernel
theorem lit0 : ("" : Str) = tx [] := by decide +kernel
def Lts (l : List Nat) : Prop := ∀ c ∈ l, Lt c
theorem Lts.ok {l : List Nat} (h : Lts l) : okT l := fun c hc => by have := h c hc; unfold Lt at this; omega
theorem Lts.app {a b : List Nat} (h : Lts a) (h' : Lts b) : Lts (a ++ b) := fun c hc => (List.mem_append.mp hc).elim (h c) (h' c)
theorem Lts.take {a : List Nat} (n : Nat) (h : Lts a) : Lts (a.take n) := fun c hc => h c (List.mem_of_mem_take hc)
theorem Lts.drop {a : List Nat} (n : Nat) (h : Lts a) : Lts (a.drop n) := fun c hc => h c (List.mem_of_mem_drop hc)
theorem Lts.one {c : Nat} (h : Lt c) : Lts [c] := fun x hx => by rw [List.mem_singleton.mp hx]; exact h
theorem Lts.nil : Lts [] := fun x hx => by cases hx
theorem okT_nil : okT [] := fun x hx => by cases hx
instance (l : List Nat) : Decidable (Lts l) := by unfold Lts Lt; infer_instance
instance (l : List Nat) : Decidable (okT l) := by unfold okT; infer_instance
theorem bi_mk {b : Bool} {p q : Prop} (h : b = true → p) (h' : b = false → q) : bi b p q := ⟨h, h'⟩
theorem mxmn {a b n : Int} (h : a ≤ b) : a ≤ maxI a (minI b n) ∧ maxI a (minI b n) ≤ b := by
  unfold maxI minI
  split <;> split at * <;> omega
theorem okL_eqc {a b : Nat} {k : Bool → Prop} (ha : a < 1114112) (hb : b < 1114112) (hk : k (decide (a = b))) : okL (eqD (.str (tx [a])) (.str (tx [b]))) k := by
  refine okL_eqtx (fun c hc => by rw [List.mem_singleton.mp hc]; exact ha) (fun c hc => by rw [List.mem_singleton.mp hc]; exact hb) ?_
  have e : decide ([a] = [b]) = decide (a = b) := by simp
  rw [e]
  exact hk
theorem okT.at {l : List Nat} {i c : Nat} (h : okT l) (e : l[i]? = some c) : c < 1114112 := h c (List.mem_of_getElem? e)
theorem okL_of {α : Type} {o : Option α} {a : α} {k : α → Prop} (h : o = some a) (hk : k a) : okL o k := by rw [h]; exact hk
theorem minU_ints {n : Int} {ns : List Int} : minUD [.lst (.int n :: ns.map .int)] = some (false, .int (minL n ns)) := by
  have e : asStrs (D.int n :: ns.map .int) = none := rfl
  simp only [minUD, e]
  exact min_ints
def minT : List Nat → List (List Nat) → List Nat
  | m, [] => m
  | m, n :: ns => minT (if n < m then n else m) ns
theorem minS_tx : ∀ (ns : List (List Nat)) (m : List Nat), minS (tx m) (ns.map tx) = tx (minT m ns)
  | [], m => rfl
  | n :: ns, m => by
    show minS (if ltS (tx n) (tx m) = true then tx n else tx m) (ns.map tx) = tx (minT (if n < m then n else m) ns)
    have e : (ltS (tx n) (tx m) = true) = (n < m) := by simp [ltS, tx_list]
    by_cases h : n < m
    · rw [if_pos (by rw [e]; exact h), if_pos h, minS_tx]
    · rw [if_neg (by rw [e]; exact h), if_neg h, minS_tx]
theorem minU_txs {n : List Nat} {ns : List (List Nat)} : minUD [.lst (dtx n :: ns.map dtx)] = some (false, .str (tx (minT n ns))) := by
  have e : asStrs (dtx n :: ns.map dtx) = some (tx n :: ns.map tx) := asStrs_tx (n :: ns)
  simp only [minUD, e, minS_tx]
theorem ok_pureB (B : Bool → Prop) {f : M R} {en : En} {k : R → En → Prop} {x : Ex → En → Prop} (h1 : okE f en (fun r en1 => ∃ b, B b ∧ r = .sh (.bl b) ∧ en1 = en) (fun _ _ => False)) (h2 : ∀ b, B b → k (.sh (.bl b)) en) : okE f en k x :=
  oe_mono h1 (fun r en1 ⟨b, hb, e1, e2⟩ => by subst e1; subst e2; exact h2 b hb) fun _ _ z => z.elim
theorem rev_tx {l : List Nat} {i : Int} : revD [.str (tx l), .int i] = if l.length ≤ 16777216 ∧ i = -1 then some (false, .str (tx l.reverse)) else none := by
  simp only [revD, tx_len, tx_list]
  rfl
theorem mul_tx {l : List Nat} {n : Int} : mulVD [.str (tx l), .int n] = if l.length ≤ 1000 ∧ -1000 ≤ n ∧ n ≤ 1000 then some (false, .str (tx (List.replicate n.toNat l).flatten)) else none := by
  simp only [mulVD, mulD, tx_len, tx_list]
  rfl
theorem at_last {α : Type} {l : List α} (h : l ≠ []) : atI l (-1) = l.getLast? := by
  have hl : 0 < l.length := List.length_pos_iff.mpr h
  unfold atI ixN
  have h1 : ¬ (0 : Int) ≤ -1 := by omega
  rw [if_neg h1, if_pos (by omega)]
  simp only [Option.bind_some]
  rw [List.getLast?_eq_getElem?]
  congr 1
  omega
theorem join_txs {ls : List (List Nat)} (h : ∀ l ∈ ls, l.length = 1) (hl : ls.length ≤ 16777216) : joinD [.str (tx []), .lst (ls.map dtx)] = some (false, .str (tx ls.flatten)) := by
  rw [join_lst, if_pos (by rw [sum_ones h]; simp; omega), joinL_nil]
end PyD.S

end

section
set_option maxHeartbeats 2000000
namespace PyD.S
open PySem PySem.Spec L2 PyD.S PyProof.Rows
/-! ### sorting texts, pairs of a text and a number -/
abbrev T := List Nat
def leT (a b : T) : Bool := !decide (b < a)
theorem leT_iff {a b : T} : leT a b = true ↔ a ≤ b := by simp [leT, List.not_lt]
theorem leT_trans (a b c : T) (h : leT a b = true) (h' : leT b c = true) : leT a c = true := leT_iff.mpr (List.le_trans (leT_iff.mp h) (leT_iff.mp h'))
theorem leT_total (a b : T) : (leT a b || leT b a) = true := by
  rw [Bool.or_eq_true, leT_iff, leT_iff]
  exact List.le_total a b
theorem leT_anti {a b : T} (h : leT a b = true) (h' : leT b a = true) : a = b := List.le_antisymm (leT_iff.mp h) (leT_iff.mp h')
/-- pairs by the text, then the number -/
def leP (p q : T × Nat) : Bool := !(decide (q.1 < p.1) || (!decide (p.1 < q.1) && decide (q.2 < p.2)))
theorem leP_iff {p q : T × Nat} : leP p q = true ↔ p.1 < q.1 ∨ (p.1 = q.1 ∧ p.2 ≤ q.2) := by
  unfold leP
  by_cases h : q.1 < p.1
  · have h1 : ¬ p.1 < q.1 := List.lt_asymm h
    have h2 : p.1 ≠ q.1 := fun e => by rw [e] at h; exact List.lt_irrefl _ h
    simp [h, h1, h2]
  · by_cases h1 : p.1 < q.1
    · simp [h, h1]
    · have e : p.1 = q.1 := List.le_antisymm (List.not_lt.mp h) (List.not_lt.mp h1)
      simp [e]
theorem leP_trans (a b c : T × Nat) (h : leP a b = true) (h' : leP b c = true) : leP a c = true := by
  rw [leP_iff] at *
  rcases h with h | ⟨h, h1⟩
  · rcases h' with h' | ⟨h', h2⟩
    · exact .inl (List.lt_trans h h')
    · exact .inl (by rw [← h']; exact h)
  · rcases h' with h' | ⟨h', h2⟩
    · exact .inl (by rw [h]; exact h')
    · exact .inr ⟨h.trans h', by omega⟩
theorem leP_total (a b : T × Nat) : (leP a b || leP b a) = true := by
  rw [Bool.or_eq_true, leP_iff, leP_iff]
  by_cases h : a.1 < b.1
  · exact .inl (.inl h)
  · by_cases h' : b.1 < a.1
    · exact .inr (.inl h')
    · have e : a.1 = b.1 := List.le_antisymm (List.not_lt.mp h') (List.not_lt.mp h)
      rcases Nat.le_total a.2 b.2 with q | q
      · exact .inl (.inr ⟨e, q⟩)
      · exact .inr (.inr ⟨e.symm, q⟩)
theorem leP_anti {a b : T × Nat} (h : leP a b = true) (h' : leP b a = true) : a = b := by
  rw [leP_iff] at h h'
  rcases h with h | ⟨h, h1⟩
  · rcases h' with h' | ⟨h', h2⟩
    · exact absurd h' (List.lt_asymm h)
    · rw [h'] at h; exact absurd h (List.lt_irrefl _)
  · rcases h' with h' | ⟨h', h2⟩
    · rw [h] at h'; exact absurd h' (List.lt_irrefl _)
    · exact Prod.ext h (by omega)
def dP (p : T × Nat) : D := .tup [.str (tx p.1), .int p.2]
theorem py_dP (p : T × Nat) : toPy (dP p) = some (.tuple [.str (tx p.1), .int p.2]) := rfl
theorem py_dPs : ∀ ps : List (T × Nat), toPyL (ps.map dP) = some (ps.map fun p => PyData.tuple [.str (tx p.1), .int p.2])
  | [] => rfl
  | p :: ps => by
    rw [List.map_cons, toPyL, py_dPs ps, py_dP]
    rfl
theorem le_dP (p q : T × Nat) : leP p q = leD' (dP p) (dP q) := by
  show _ = !(PyProof.Rows.listOrd PyProof.Rows.itemOrd).blt (PySem.W.keyToks (pyG (dP q))) (PySem.W.keyToks (pyG (dP p)))
  have e : ∀ p : T × Nat, PySem.W.keyToks (pyG (dP p)) = [.inl 1, .inr p.1, .inl 1, .inl (p.2 : Int), .inl 0] := fun p => by
    show [Sum.inl 1, Sum.inr (tx p.1).cps.toList, .inl 1, .inl (p.2 : Int), .inl 0] = _
    rw [tx_list]
  rw [e, e]
  show _ = !PyProof.Rows.lexLt PyProof.Rows.itemOrd [.inl 1, .inr q.1, .inl 1, .inl (q.2 : Int), .inl 0] [.inl 1, .inr p.1, .inl 1, .inl (p.2 : Int), .inl 0]
  have l1 : ∀ x y : Int, PyProof.Rows.itemOrd.blt (.inl x) (.inl y) = decide (x < y) := fun _ _ => rfl
  have l2 : ∀ x y : T, PyProof.Rows.itemOrd.blt (.inr x) (.inr y) = decide (x < y) := fun _ _ => rfl
  simp only [PyProof.Rows.lex_cons, l1, l2, Int.lt_irrefl, decide_false, Bool.false_or, Bool.not_false, Bool.true_and, PyProof.Rows.lexLt, Bool.and_false, Bool.or_false]
  have l3 : ∀ x y : Int, itemLt (.inl x) (.inl y) = decide (x < y) := fun _ _ => rfl
  have l4 : ∀ x y : T, itemLt (.inr x) (.inr y) = decide (x < y) := fun _ _ => rfl
  unfold leP
  simp [l3, l4]
theorem sort_dP {ps : List (T × Nat)} : sortD [.lst (ps.map dP)] = some (true, .lst ((ps.mergeSort leP).map dP)) := by
  unfold sortD
  simp only [py_dPs]
  have c : PySem.W.AllAlike (ps.map fun p => PyData.tuple [.str (tx p.1), .int p.2]) ∧ sortable (ps.map fun p => PyData.tuple [.str (tx p.1), .int p.2]) = true ∧ ∀ q ∈ (ps.map fun p => PyData.tuple [.str (tx p.1), .int p.2]), q.depth ≤ 60 := by
    refine ⟨?_, ?_, ?_⟩
    · intro d hd d' hd'
      obtain ⟨p, _, rfl⟩ := List.mem_map.mp hd
      obtain ⟨p', _, rfl⟩ := List.mem_map.mp hd'
      rfl
    · unfold sortable
      rw [Bool.or_eq_true]
      refine .inl (List.all_eq_true.mpr fun d hd => ?_)
      obtain ⟨p, _, rfl⟩ := List.mem_map.mp hd
      rfl
    · intro d hd
      obtain ⟨p, _, rfl⟩ := List.mem_map.mp hd
      simp [PyData.depth, PyData.depthAll]
  rw [if_pos c, List.map_mergeSort (r := leP) (s := leD') (fun a _ b _ => le_dP a b)]
theorem py_dtxs : ∀ ps : List T, toPyL (ps.map dtx) = some (ps.map fun p => PyData.str (tx p))
  | [] => rfl
  | p :: ps => by
    rw [List.map_cons, toPyL, py_dtxs ps, show toPy (dtx p) = some (PyData.str (tx p)) from rfl]
    rfl
theorem le_dtx (p q : T) : leT p q = leD' (dtx p) (dtx q) := by
  show _ = !(PyProof.Rows.listOrd PyProof.Rows.itemOrd).blt (PySem.W.keyToks (pyG (dtx q))) (PySem.W.keyToks (pyG (dtx p)))
  have e : ∀ p : T, PySem.W.keyToks (pyG (dtx p)) = [.inr p] := fun p => by
    show [Sum.inr (tx p).cps.toList] = _
    rw [tx_list]
  rw [e, e]
  show _ = !PyProof.Rows.lexLt PyProof.Rows.itemOrd [.inr q] [.inr p]
  have l2 : ∀ x y : T, PyProof.Rows.itemOrd.blt (.inr x) (.inr y) = decide (x < y) := fun _ _ => rfl
  simp only [PyProof.Rows.lex_cons, l2, PyProof.Rows.lexLt, Bool.and_false, Bool.or_false]
  rfl
theorem sort_dtx {ps : List T} : sortD [.lst (ps.map dtx)] = some (true, .lst ((ps.mergeSort leT).map dtx)) := by
  unfold sortD
  simp only [py_dtxs]
  have c : PySem.W.AllAlike (ps.map fun p => PyData.str (tx p)) ∧ sortable (ps.map fun p => PyData.str (tx p)) = true ∧ ∀ q ∈ (ps.map fun p => PyData.str (tx p)), q.depth ≤ 60 := by
    refine ⟨?_, ?_, ?_⟩
    · intro d hd d' hd'
      obtain ⟨p, _, rfl⟩ := List.mem_map.mp hd
      obtain ⟨p', _, rfl⟩ := List.mem_map.mp hd'
      rfl
    · unfold sortable
      rw [Bool.or_eq_true]
      refine .inr (List.all_eq_true.mpr fun d hd => ?_)
      obtain ⟨p, _, rfl⟩ := List.mem_map.mp hd
      rfl
    · intro d hd
      obtain ⟨p, _, rfl⟩ := List.mem_map.mp hd
      simp [PyData.depth]
  rw [if_pos c, List.map_mergeSort (r := leT) (s := leD') (fun a _ b _ => le_dtx a b)]
theorem sortU_dtx {ps : List T} : sortUD [.lst (ps.map dtx)] = some (true, .lst ((ps.mergeSort leT).map dtx)) := sort_dtx
theorem sortU_dP {ps : List (T × Nat)} : sortUD [.lst (ps.map dP)] = some (true, .lst ((ps.mergeSort leP).map dP)) := sort_dP
def kT (x : T) : Key := .inr (tx x)
theorem le_kT (p q : T) : leT p q = PySem.W.dataLe false pyK (kT p) (kT q) := by
  show _ = !(PyProof.Rows.listOrd PyProof.Rows.itemOrd).blt (PySem.W.keyToks (.str (tx q))) (PySem.W.keyToks (.str (tx p)))
  have e : ∀ p : T, PySem.W.keyToks (.str (tx p)) = [.inr p] := fun p => by
    show [Sum.inr (tx p).cps.toList] = _
    rw [tx_list]
  rw [e, e]
  show _ = !PyProof.Rows.lexLt PyProof.Rows.itemOrd [.inr q] [.inr p]
  have l2 : ∀ x y : T, PyProof.Rows.itemOrd.blt (.inr x) (.inr y) = decide (x < y) := fun _ _ => rfl
  simp only [PyProof.Rows.lex_cons, l2, PyProof.Rows.lexLt, Bool.and_false, Bool.or_false]
  rfl
theorem sort_keys {kvs : List (Key × D)} {ks : List T} (h : kvs.map (·.1) = ks.map kT) : sortUD [.dic kvs] = some (true, .lst ((ks.mergeSort leT).map dtx)) := by
  unfold sortUD
  have c : PySem.W.AllAlike ((kvs.map (·.1)).map pyK) := by
    rw [h]
    intro d hd d' hd'
    obtain ⟨p, hp, rfl⟩ := List.mem_map.mp hd
    obtain ⟨p', hp', rfl⟩ := List.mem_map.mp hd'
    obtain ⟨q, _, rfl⟩ := List.mem_map.mp hp
    obtain ⟨q', _, rfl⟩ := List.mem_map.mp hp'
    rfl
  dsimp only
  rw [if_pos c, h]
  unfold sortK
  rw [← List.map_mergeSort (r := leT) (s := PySem.W.dataLe false pyK) (f := kT) (fun a _ b _ => le_kT a b), List.map_map]
  rfl
def dNat (i : Nat) : D := .int i
def leN (a b : Nat) : Bool := decide (a ≤ b)
theorem py_nats : ∀ ps : List Nat, toPyL (ps.map dNat) = some (ps.map fun p : Nat => PyData.int p)
  | [] => rfl
  | p :: ps => by
    rw [List.map_cons, toPyL, py_nats ps, show toPy (dNat p) = some (PyData.int p) from rfl]
    rfl
theorem le_nat (p q : Nat) : leN p q = leD' (dNat p) (dNat q) := by
  show _ = !(PyProof.Rows.listOrd PyProof.Rows.itemOrd).blt (PySem.W.keyToks (.int q)) (PySem.W.keyToks (.int p))
  have e : ∀ p : Nat, PySem.W.keyToks (.int p) = [.inl (p : Int)] := fun p => rfl
  rw [e, e]
  show _ = !PyProof.Rows.lexLt PyProof.Rows.itemOrd [.inl (q : Int)] [.inl (p : Int)]
  have l2 : ∀ x y : Int, PyProof.Rows.itemOrd.blt (.inl x) (.inl y) = decide (x < y) := fun _ _ => rfl
  have l3 : ∀ x y : Int, itemLt (.inl x) (.inl y) = decide (x < y) := fun _ _ => rfl
  simp only [PyProof.Rows.lex_cons, l2, l3, PyProof.Rows.lexLt, Bool.and_false, Bool.or_false]
  unfold leN
  by_cases h : p ≤ q
  · rw [decide_eq_true h, decide_eq_false (by omega)]; rfl
  · rw [decide_eq_false h, decide_eq_true (by omega)]; rfl
theorem sort_nats {ps : List Nat} : sortUD [.lst (ps.map dNat)] = some (true, .lst ((ps.mergeSort leN).map dNat)) := by
  show sortD [.lst (ps.map dNat)] = _
  unfold sortD
  simp only [py_nats]
  have c : PySem.W.AllAlike (ps.map fun p : Nat => PyData.int p) ∧ sortable (ps.map fun p : Nat => PyData.int p) = true ∧ ∀ q ∈ (ps.map fun p : Nat => PyData.int p), q.depth ≤ 60 := by
    refine ⟨?_, ?_, ?_⟩
    · intro d hd d' hd'
      obtain ⟨p, _, rfl⟩ := List.mem_map.mp hd
      obtain ⟨p', _, rfl⟩ := List.mem_map.mp hd'
      rfl
    · unfold sortable
      rw [Bool.or_eq_true]
      refine .inr (List.all_eq_true.mpr fun d hd => ?_)
      obtain ⟨p, _, rfl⟩ := List.mem_map.mp hd
      rfl
    · intro d hd
      obtain ⟨p, _, rfl⟩ := List.mem_map.mp hd
      simp [PyData.depth]
  rw [if_pos c, List.map_mergeSort (r := leN) (s := leD') (fun a _ b _ => le_nat a b)]
theorem sort_nats_of {as bs : List Nat} (p : as.Perm bs) (h : bs.Pairwise (· < ·)) : sortUD [.lst (as.map dNat)] = some (true, .lst (bs.map dNat)) := by
  rw [sort_nats]
  have e : as.mergeSort leN = bs := by
    refine List.Perm.eq_of_pairwise (le := fun a b => leN a b = true) (fun a b _ _ x y => ?_) (List.pairwise_mergeSort (fun a b c x y => ?_) (fun a b => ?_) _) (h.imp fun {a b} z => ?_) ((List.mergeSort_perm _ _).trans p)
    · unfold leN at x y
      have := of_decide_eq_true x
      have := of_decide_eq_true y
      omega
    · unfold leN at *
      have := of_decide_eq_true x
      have := of_decide_eq_true y
      exact decide_eq_true (by omega)
    · unfold leN
      rw [Bool.or_eq_true, decide_eq_true_iff, decide_eq_true_iff]
      omega
    · unfold leN
      exact decide_eq_true (by omega)
  rw [e]
theorem sorted_uniq {a b : List T} (p : a.Perm b) (h : a.Pairwise fun x y => leT x y = true) (h' : b.Pairwise fun x y => leT x y = true) : a = b :=
  List.Perm.eq_of_pairwise (fun _ _ _ _ x y => leT_anti x y) h h' p
theorem ord_lt_tx {a b : T} : ltD [.str (tx a), .str (tx b)] = some (false, .bl (decide (a < b))) := by
  show some (false, D.bl (decide ((tx a).cps.toList < (tx b).cps.toList))) = _
  rw [tx_list, tx_list]
end PyD.S

end

namespace PyD.S
open PySem PySem.Spec L2
/-! sizes_of: slots 0 rows 1 found* 2 row 3 item -/
def b_sizes_of : En → Fl :=
  (seqF (asO 1 (lstF nilF))
  (seqF (endF [false, false, true] (frF (itA itD (one (nmF 0))) (gNm 2) (seqF (drF (mutF true 1 isLst appM (consF (opF sumD (consF (lcF (itA itD (one (nmF 2))) (gNm 3) yesT (ifF (tstF (opF (isiD "str") (one (nmF 3)))) (cF (.int 1)) (opF ixUD (two (nmF 1) (nmF 3)))) [3]) nilF)) nilF)))
  (endF [false, false, true] (ifS (tstB (opF gtD (two (opF ixUD (two (nmF 1) (opF negD (one (cF (.int 1)))))) (cF (.int 300))))) badF skF)))))
  (rtF (mvF 1))))
def phi_sizes_of : List D → Out := runF [false] 3 b_sizes_of
end PyD.S

namespace PyD.S
open PySem PySem.Spec L2
/-! text_of_rows: slots 0 rows 1 found* 2 row 3 item -/
def b_text_of_rows : En → Fl :=
  (seqF (drF (callF [false] phi_sizes_of (consF (nmF 0) nilF)))
  (seqF (asO 1 (lstF nilF))
  (seqF (endF [false, false, true] (frF (itA itD (one (nmF 0))) (gNm 2) (bodF [false, false, true]
  (drF (mutF true 1 isLst appM (consF (bmF isStr joinD (cF (.str (tx []))) (consF (lcF (itA itD (one (nmF 2))) (gNm 3) yesT (ifF (tstF (opF (isiD "str") (one (nmF 3)))) (nmF 3) (opF ixUD (two (nmF 1) (nmF 3)))) [3]) nilF)) nilF))))))
  (rtF (opF ixUD (two (nmF 1) (opF negD (one (cF (.int 1))))))))))
def phi_text_of_rows : List D → Out := runF [false] 3 b_text_of_rows
end PyD.S

section
set_option maxHeartbeats 4000000
namespace PyD.S
open PySem PySem.Spec L2 PyD.S
local macro_rules | `(tactic| walk_at "ev") => `(tactic| simp -dsimp -implicitDefEqProofs only [is_nn, is_in, is_sn, is_tn, is_ln, is_bn, os_endA, os_endO, os_endG, os_endP, os_endD, os_endS, os_endFr, os_endWh, os_bod, endK_nx, endK_rt, endK_bk, endK_ct, endK_exc, bodK_nx, bodK_rt, bodK_bk, bodK_ct, bodK_exc, frM_t, frM_f, frM_n, wpM_t, wpM_f, wpM_n, ok_c, ok_nm, nmK_v, nmK_o, ok_mv, mvK_v, mvK_o, ok_dm, dmK_v, dmK_o, ok_nil, ok_cons, ok_one, ok_two, ok_op, ok_tstB, ok_tstF, ok_not, bi_true, bi_false, bi_dec, bj_true, bj_false, bj_not, bi_not_dec, ok_and, ok_or, ok_ifF, ok_andF, ok_orF, ok_notF, ok_tup, ok_lst, ok_dic, ok_bm, intR_int, ok_prtN, ok_prtS, ok_sl, callK_ret, ok_call, ok_itA, ok_lc, ok_ch, ok_mut, mutG, shK_sh, shK2_sh, ordB, ownK_o, os_sk, os_bk, os_ct, seqK_nx, seqK_rt, seqK_bk, seqK_ct, seqK_exc, os_seq, os_dr, os_rt, vK_sh, vK_fr, os_asV, os_asO, os_asG, os_asP, os_st, oK_fr, ok_gNm, ok_gTp, ok_gNms0, ok_gNms1, os_fr, ok_run, defK_nx, defK_sh, defK_fr, loopK_nx, loopK_ct, loopK_bk, loopK_rt, okL_some, okL_map, okL_if, okL_ifo, rsls, rsl, stos, stoD, mkR, blD, free_eq, frS_e, frS_v, frS_o, nxK_nx, List.getElem?_cons_zero, List.getElem?_cons_succ, List.set_cons_zero, List.set_cons_succ, List.length_cons, List.length_nil, Nat.zero_add, Nat.reduceAdd, mkE, slIn, List.replicate, List.cons_append, List.nil_append, outsOf, pick, lentOk, nodupB, slotsOf, borrows, putBack, resFlat, add_tx, add_lst, add_tup, add_int, sub_int, mulV_int, mod_int, fdv_int, pow_int, neg_int, eq_int, eqOp_eq, ne_false, ne_true, tx_list, len_tx, len_lst, len_tup, len_scr, len_dic, ix_lst, ix_tup, ix_tx, ix_scr, at_0, at_1, at_2, set_lst, app_lst, ixN_30, ixN_31, ixN_32, ixN_20, ixN_21, ixN_10, sl_tx, sl_lst, sl_tup, sl_scr, true_and, and_true, ordD, Bool.not_false, Bool.not_true, Bool.and_true, Bool.true_and, Bool.or_true, Bool.true_or, List.elem, Bool.false_eq_true, if_true, if_false, isLst, isStr, isDic, int_bl, int_int, list_lst, list_tup, list_scr, tuple_lst, tuple_tup, max2_int, min2_int, isi_int, isi_bl, isi_str, isi_tup, isi_lst, isi_non, isi_dic, ty_ii, ty_ib, ty_is, ty_it, ty_il, ty_bi, ty_bb, ty_bs, ty_bt, ty_bL, ty_si, ty_sb, ty_ss, ty_st, ty_sl, ty_ti, ty_tb, ty_ts, ty_tt, ty_tl, ty_li, ty_lb, ty_ls, ty_lt, ty_ll, ty_ni, ty_nb, ty_ns, ty_nt, ty_nl, rg1, rg2, rg3, it_lst, it_tup, it_scr, it_str, enum_lst, zip_lst, zip_tup, rev_lst, rev_tup, tru_int, tru_bl, tru_lst, tru_tup, wipeE, resE, List.all_cons, List.all_nil, Bool.and_eq_true, dtx, yesT_ok, and_self])
local macro_rules | `(tactic| walk_at "evi") => `(tactic| simp -dsimp -implicitDefEqProofs only [os_if, os_endIf, is_nn, is_in, is_sn, is_tn, is_ln, is_bn, os_endA, os_endO, os_endG, os_endP, os_endD, os_endS, os_endFr, os_endWh, os_bod, endK_nx, endK_rt, endK_bk, endK_ct, endK_exc, bodK_nx, bodK_rt, bodK_bk, bodK_ct, bodK_exc, frM_t, frM_f, frM_n, wpM_t, wpM_f, wpM_n, ok_c, ok_nm, nmK_v, nmK_o, ok_mv, mvK_v, mvK_o, ok_dm, dmK_v, dmK_o, ok_nil, ok_cons, ok_one, ok_two, ok_op, ok_tstB, ok_tstF, ok_not, bi_true, bi_false, bi_dec, bj_true, bj_false, bj_not, bi_not_dec, ok_and, ok_or, ok_ifF, ok_andF, ok_orF, ok_notF, ok_tup, ok_lst, ok_dic, ok_bm, intR_int, ok_prtN, ok_prtS, ok_sl, callK_ret, ok_call, ok_itA, ok_lc, ok_ch, ok_mut, mutG, shK_sh, shK2_sh, ordB, ownK_o, os_sk, os_bk, os_ct, seqK_nx, seqK_rt, seqK_bk, seqK_ct, seqK_exc, os_seq, os_dr, os_rt, vK_sh, vK_fr, os_asV, os_asO, os_asG, os_asP, os_st, oK_fr, ok_gNm, ok_gTp, ok_gNms0, ok_gNms1, os_fr, ok_run, defK_nx, defK_sh, defK_fr, loopK_nx, loopK_ct, loopK_bk, loopK_rt, okL_some, okL_map, okL_if, okL_ifo, rsls, rsl, stos, stoD, mkR, blD, free_eq, frS_e, frS_v, frS_o, nxK_nx, List.getElem?_cons_zero, List.getElem?_cons_succ, List.set_cons_zero, List.set_cons_succ, List.length_cons, List.length_nil, Nat.zero_add, Nat.reduceAdd, mkE, slIn, List.replicate, List.cons_append, List.nil_append, outsOf, pick, lentOk, nodupB, slotsOf, borrows, putBack, resFlat, add_tx, add_lst, add_tup, add_int, sub_int, mulV_int, mod_int, fdv_int, pow_int, neg_int, eq_int, eqOp_eq, ne_false, ne_true, tx_list, len_tx, len_lst, len_tup, len_scr, len_dic, ix_lst, ix_tup, ix_tx, ix_scr, at_0, at_1, at_2, set_lst, app_lst, ixN_30, ixN_31, ixN_32, ixN_20, ixN_21, ixN_10, sl_tx, sl_lst, sl_tup, sl_scr, true_and, and_true, ordD, Bool.not_false, Bool.not_true, Bool.and_true, Bool.true_and, Bool.or_true, Bool.true_or, List.elem, Bool.false_eq_true, if_true, if_false, isLst, isStr, isDic, int_bl, int_int, list_lst, list_tup, list_scr, tuple_lst, tuple_tup, max2_int, min2_int, isi_int, isi_bl, isi_str, isi_tup, isi_lst, isi_non, isi_dic, ty_ii, ty_ib, ty_is, ty_it, ty_il, ty_bi, ty_bb, ty_bs, ty_bt, ty_bL, ty_si, ty_sb, ty_ss, ty_st, ty_sl, ty_ti, ty_tb, ty_ts, ty_tt, ty_tl, ty_li, ty_lb, ty_ls, ty_lt, ty_ll, ty_ni, ty_nb, ty_ns, ty_nt, ty_nl, rg1, rg2, rg3, it_lst, it_tup, it_scr, it_str, enum_lst, zip_lst, zip_tup, rev_lst, rev_tup, tru_int, tru_bl, tru_lst, tru_tup, wipeE, resE, List.all_cons, List.all_nil, Bool.and_eq_true, dtx, yesT_ok, and_self])
local macro_rules | `(tactic| walk_at "eva") => `(tactic| simp -dsimp -implicitDefEqProofs only [is_nn, is_in, is_sn, is_tn, is_ln, is_bn, os_endA, os_endO, os_endG, os_endP, os_endD, os_endS, os_endFr, os_endWh, os_bod, endK_nx, endK_rt, endK_bk, endK_ct, endK_exc, bodK_nx, bodK_rt, bodK_bk, bodK_ct, bodK_exc, frM_t, frM_f, frM_n, wpM_t, wpM_f, wpM_n, ok_c, ok_nm, nmK_v, nmK_o, ok_mv, mvK_v, mvK_o, ok_dm, dmK_v, dmK_o, ok_nil, ok_cons, ok_one, ok_two, ok_op, ok_tstB, ok_tstF, ok_not, bi_true, bi_false, bi_dec, bj_true, bj_false, bj_not, bi_not_dec, ok_and, ok_or, ok_notF, ok_tup, ok_lst, ok_dic, ok_bm, intR_int, ok_prtN, ok_prtS, ok_sl, callK_ret, ok_call, ok_itA, ok_lc, ok_ch, ok_mut, mutG, shK_sh, shK2_sh, ordB, ownK_o, os_sk, os_bk, os_ct, seqK_nx, seqK_rt, seqK_bk, seqK_ct, seqK_exc, os_seq, os_dr, os_rt, vK_sh, vK_fr, os_asV, os_asO, os_asG, os_asP, os_st, oK_fr, ok_gNm, ok_gTp, ok_gNms0, ok_gNms1, os_fr, ok_run, defK_nx, defK_sh, defK_fr, loopK_nx, loopK_ct, loopK_bk, loopK_rt, okL_some, okL_map, okL_if, okL_ifo, rsls, rsl, stos, stoD, mkR, blD, free_eq, frS_e, frS_v, frS_o, nxK_nx, List.getElem?_cons_zero, List.getElem?_cons_succ, List.set_cons_zero, List.set_cons_succ, List.length_cons, List.length_nil, Nat.zero_add, Nat.reduceAdd, mkE, slIn, List.replicate, List.cons_append, List.nil_append, outsOf, pick, lentOk, nodupB, slotsOf, borrows, putBack, resFlat, add_tx, add_lst, add_tup, add_int, sub_int, mulV_int, mod_int, fdv_int, pow_int, neg_int, eq_int, eqOp_eq, ne_false, ne_true, tx_list, len_tx, len_lst, len_tup, len_scr, len_dic, ix_lst, ix_tup, ix_tx, ix_scr, at_0, at_1, at_2, set_lst, app_lst, ixN_30, ixN_31, ixN_32, ixN_20, ixN_21, ixN_10, sl_tx, sl_lst, sl_tup, sl_scr, true_and, and_true, ordD, Bool.not_false, Bool.not_true, Bool.and_true, Bool.true_and, Bool.or_true, Bool.true_or, List.elem, Bool.false_eq_true, if_true, if_false, isLst, isStr, isDic, int_bl, int_int, list_lst, list_tup, list_scr, tuple_lst, tuple_tup, max2_int, min2_int, isi_int, isi_bl, isi_str, isi_tup, isi_lst, isi_non, isi_dic, ty_ii, ty_ib, ty_is, ty_it, ty_il, ty_bi, ty_bb, ty_bs, ty_bt, ty_bL, ty_si, ty_sb, ty_ss, ty_st, ty_sl, ty_ti, ty_tb, ty_ts, ty_tt, ty_tl, ty_li, ty_lb, ty_ls, ty_lt, ty_ll, ty_ni, ty_nb, ty_ns, ty_nt, ty_nl, rg1, rg2, rg3, it_lst, it_tup, it_scr, it_str, enum_lst, zip_lst, zip_tup, rev_lst, rev_tup, tru_int, tru_bl, tru_lst, tru_tup, wipeE, resE, List.all_cons, List.all_nil, Bool.and_eq_true, dtx, yesT_ok, and_self])
local macro_rules | `(tactic| walk_at "sd") => `(tactic| repeat (refine And.intro (by first | omega | assumption | exact rfl) ?_))
local macro_rules | `(tactic| walk_at "sc") => `(tactic| first | assumption | omega | exact rfl | exact mulOk_r (by omega) (by omega) | exact mulOk_l (by omega) (by omega) | exact log_ok (by omega) (by omega) | (simp only [List.length_append, List.length_cons, List.length_nil, List.length_take, List.length_drop, List.length_map, List.length_replicate, upL_len]; omega) | (refine And.intro ?_ ?_ <;> walk_at "sc") | decide)
set_option hygiene false in
local macro_rules | `(tactic| walk_at "lm") => `(tactic| first
  | ((with_reducible refine take_ok ?_ ?_ ?_ fun p r hp hr0 hr1 => ?_); (focus assumption); (focus omega); (focus omega))
  | ((with_reducible refine pick_ok ?_ ?_ ?_ fun p r hp hr0 hr1 => ?_); (focus assumption); (focus omega); (focus omega))
  | ((with_reducible refine pick2_ok ?_ ?_ ?_ fun p r hp hr0 hr1 => ?_); (focus assumption); (focus omega); (focus omega))
  | ((with_reducible refine letter_ok ?_ ?_ ?_ fun p c hp hc => ?_); (focus assumption); (focus omega); (focus omega))
  | ((with_reducible refine signs_ok ?_ ?_ ?_ ?_ ?_ fun p l hp hl hc => ?_); (focus assumption); (focus omega); (focus omega); (focus omega); (focus omega))
  | ((with_reducible refine text_ok ?_ ?_ ?_ fun p l hp hl hc => ?_); (focus assumption); (focus omega); (focus omega))
  | ((with_reducible refine rtext_ok ?_ ?_ ?_ fun p l hp hl hc => ?_); (focus assumption); (focus omega); (focus omega))
  | ((with_reducible refine rtext2_ok ?_ ?_ ?_ fun p l hp hl hc => ?_); (focus assumption); (focus omega); (focus omega))
  | (with_reducible refine whole_ok ?_))
local macro_rules | `(tactic| walk_at "ok") => `(tactic| first | assumption | exact okT_nil | exact Lts.ok (by assumption) | decide)
local macro_rules | `(tactic| walk_at "g0") => `(tactic| first
  | ((with_reducible refine And.intro ?_ ?_); (focus walk_at "sc"))
  | walk_at "lm"
  | ((with_reducible refine okL_eqtx ?_ ?_ ?_); (focus walk_at "ok"); (focus walk_at "ok"))
  | ((with_reducible refine bj_t ?_ ?_); (focus (first | with_reducible rfl | omega)))
  | ((with_reducible refine bj_f ?_ ?_); (focus omega)))
local macro_rules | `(tactic| walk_at "g1") => `(tactic| first
  | walk_at "ev"
  | walk_at "g0")
local macro_rules | `(tactic| walk_at "g2") => `(tactic| first
  | walk_at "evi"
  | walk_at "g0")
local macro_rules | `(tactic| walk_at "go") => `(tactic| repeat walk_at "g1")
local macro_rules | `(tactic| walk_at "goi") => `(tactic| repeat walk_at "g2")
local macro_rules | `(tactic| walk_at "goa") => `(tactic| repeat first | walk_at "eva" | walk_at "g0")
/-- an item: a letter, a row's number -/
inductive It where
  | c (x : Nat) | r (i : Nat)
def dI : It → D
  | .c x => .str (tx [x])
  | .r i => .int i
def dRow (r : List It) : D := .tup (r.map dI)
theorem dI_c {x : Nat} : dI (.c x) = .str (tx [x]) := rfl
theorem dI_r {i : Nat} : dI (.r i) = .int i := rfl
/-- what is gathered row by row -/
def bld {α : Type} (f : List α → List It → α) (acc : List α) (Rs : List (List It)) : List α := Rs.foldl (fun acc row => acc ++ [f acc row]) acc
section
variable {α β : Type} {f : List α → List It → α} {g : List β → List It → β}
theorem bld_snoc {acc : List α} {Rs : List (List It)} {row : List It} : bld f acc (Rs ++ [row]) = bld f acc Rs ++ [f (bld f acc Rs) row] := by
  unfold bld
  rw [List.foldl_append]
  rfl
theorem bld_pre : ∀ (Rs : List (List It)) (acc : List α), ∃ t, bld f acc Rs = acc ++ t ∧ t.length = Rs.length
  | [], acc => ⟨[], by simp [bld], rfl⟩
  | row :: Rs, acc => by
    obtain ⟨t, h1, h2⟩ := bld_pre Rs (acc ++ [f acc row])
    refine ⟨f acc row :: t, ?_, by simp [h2]⟩
    show bld f (acc ++ [f acc row]) Rs = _
    rw [h1]
    simp
theorem bld_len {Rs : List (List It)} : (bld f [] Rs).length = Rs.length := by
  obtain ⟨t, h1, h2⟩ := bld_pre (f := f) Rs []
  rw [h1]
  simpa using h2
theorem bld_app {acc : List α} {Rs Rs' : List (List It)} : bld f acc (Rs ++ Rs') = bld f (bld f acc Rs) Rs' := by
  unfold bld
  rw [List.foldl_append]
theorem bld_take {Rs : List (List It)} {i : Nat} {row : List It} (h : Rs[i]? = some row) : bld f [] (Rs.take (i + 1)) = bld f [] (Rs.take i) ++ [f (bld f [] (Rs.take i)) row] := by
  rw [List.take_succ, h]
  exact bld_snoc
theorem bld_sub {Rs : List (List It)} {i : Nat} {x : α} (h : x ∈ bld f [] (Rs.take i)) : x ∈ bld f [] Rs := by
  rw [← List.take_append_drop i Rs, bld_app]
  obtain ⟨t, h1, _⟩ := bld_pre (f := f) (Rs.drop i) (bld f [] (Rs.take i))
  rw [h1]
  exact List.mem_append_left _ h
end
def szI (acc : List Nat) : It → Nat
  | .c _ => 1
  | .r i => acc.getD i 0
def ttI (acc : List T) : It → T
  | .c x => [x]
  | .r i => acc.getD i []
def rowS (acc : List Nat) (row : List It) : Nat := (row.map (szI acc)).sum
def rowT (acc : List T) (row : List It) : T := (row.map (ttI acc)).flatten
def szs (Rs : List (List It)) : List Nat := bld rowS [] Rs
def txs (Rs : List (List It)) : List T := bld rowT [] Rs
theorem ttI_len (acc : List T) (it : It) : (ttI acc it).length = szI (acc.map List.length) it := by
  cases it with
  | c x => rfl
  | r i =>
    show (acc.getD i []).length = (acc.map List.length).getD i 0
    rw [List.getD_eq_getElem?_getD, List.getD_eq_getElem?_getD, List.getElem?_map]
    cases acc[i]? <;> rfl
theorem rowT_len (acc : List T) (row : List It) : (rowT acc row).length = rowS (acc.map List.length) row := by
  unfold rowT rowS
  rw [List.length_flatten, List.map_map]
  congr 1
  apply List.map_congr_left
  intro it _
  exact ttI_len acc it
theorem bld_lens : ∀ (Rs : List (List It)) (acc : List T), (bld rowT acc Rs).map List.length = bld rowS (acc.map List.length) Rs
  | [], acc => rfl
  | row :: Rs, acc => by
    show (bld rowT (acc ++ [rowT acc row]) Rs).map List.length = bld rowS (acc.map List.length ++ [rowS (acc.map List.length) row]) Rs
    rw [bld_lens Rs, List.map_append, List.map_cons, List.map_nil, rowT_len]
theorem txs_lens (Rs : List (List It)) : (txs Rs).map List.length = szs Rs := bld_lens Rs []
/-- rows that name rows ahead -/
def okI (n : Nat) : It → Prop
  | .c x => Lt x
  | .r i => i < n
def WF (Rs : List (List It)) : Prop := ∀ (n : Nat) (row : List It), Rs[n]? = some row → ∀ it ∈ row, okI n it
theorem WF.snoc {Rs : List (List It)} {row : List It} (h : WF Rs) (h' : ∀ it ∈ row, okI Rs.length it) : WF (Rs ++ [row]) := fun n ro hn it hit => by
  by_cases hl : n < Rs.length
  · rw [List.getElem?_append_left hl] at hn
    exact h n ro hn it hit
  · have hl2 := (List.getElem?_eq_some_iff.mp hn).1
    simp only [List.length_append, List.length_cons, List.length_nil] at hl2
    have e : n = Rs.length := by omega
    subst e
    rw [List.getElem?_append_right (Nat.le_refl _), Nat.sub_self] at hn
    cases hn
    exact h' it hit
theorem bld_lts : ∀ (Rs : List (List It)) (acc : List T), (∀ t ∈ acc, Lts t) → (∀ row ∈ Rs, ∀ x, It.c x ∈ row → Lt x) → ∀ t ∈ bld rowT acc Rs, Lts t
  | [], acc, h, _ => h
  | row :: Rs, acc, h, h2 => by
    refine bld_lts Rs (acc ++ [rowT acc row]) (fun t ht => ?_) fun ro hr => h2 ro (by simp [hr])
    rcases List.mem_append.mp ht with ht | ht
    · exact h t ht
    · rw [List.mem_singleton.mp ht]
      intro c hc
      obtain ⟨u, hu, hcu⟩ := List.mem_flatten.mp hc
      obtain ⟨it, hit, rfl⟩ := List.mem_map.mp hu
      cases it with
      | c x =>
        have := List.mem_singleton.mp hcu
        subst this
        exact h2 row (by simp) _ hit
      | r i =>
        have hcu : c ∈ acc.getD i [] := hcu
        rw [List.getD_eq_getElem?_getD] at hcu
        cases e : acc[i]? with
        | none => rw [e] at hcu; cases hcu
        | some t => rw [e] at hcu; exact h t (List.mem_of_getElem? e) c hcu
theorem txs_lts {Rs : List (List It)} (h : WF Rs) : ∀ t ∈ txs Rs, Lts t := bld_lts Rs [] (fun _ z => by cases z) fun row hr x hx => by
  obtain ⟨n, hn⟩ := List.getElem?_of_mem hr
  exact h n row hn _ hx
theorem sum_nats {ns : List Nat} : sumD [.lst (ns.map dNat)] = some (false, .int (ns.sum : Nat)) := by
  have e : ns.map dNat = (ns.map fun n : Nat => (n : Int)).map D.int := by simp [dNat, Function.comp_def]
  have e2 : (ns.map fun n : Nat => (n : Int)).sum = ((ns.sum : Nat) : Int) := by
    induction ns with
    | nil => rfl
    | cons n ns ih => rw [List.map_cons, List.sum_cons, List.sum_cons, ih (by simp [dNat, Function.comp_def])]; omega
  show (asInts (ns.map dNat)).map _ = _
  rw [e, asInts_map, ← e2]
  rfl
theorem szs_at {Rs : List (List It)} {n i : Nat} (h : i < n) (hn : n ≤ Rs.length) : atI ((szs (Rs.take n)).map dNat) (i : Int) = some (dNat ((szs (Rs.take n)).getD i 0)) := by
  have hl : (szs (Rs.take n)).length = n := by unfold szs; rw [bld_len, List.length_take]; omega
  unfold atI
  rw [ixN_at (by omega) (by rw [List.length_map, hl]; omega)]
  simp only [Option.bind_some]
  rw [List.getElem?_map, show ((i : Int)).toNat = i by omega, List.getD_eq_getElem?_getD, List.getElem?_eq_getElem (by omega)]
  rfl
theorem txs_at {Rs : List (List It)} {n i : Nat} (h : i < n) (hn : n ≤ Rs.length) : atI ((txs (Rs.take n)).map dtx) (i : Int) = some (dtx ((txs (Rs.take n)).getD i [])) := by
  have hl : (txs (Rs.take n)).length = n := by unfold txs; rw [bld_len, List.length_take]; omega
  unfold atI
  rw [ixN_at (by omega) (by rw [List.length_map, hl]; omega)]
  simp only [Option.bind_some]
  rw [List.getElem?_map, show ((i : Int)).toNat = i by omega, List.getD_eq_getElem?_getD, List.getElem?_eq_getElem (by omega)]
  rfl
/-- rows whose texts are not too long -/
def SZ (Rs : List (List It)) : Prop := ∀ s ∈ szs Rs, s ≤ 300
def LN (Rs : List (List It)) : Prop := Rs.length ≤ 1000 ∧ ∀ row ∈ Rs, 1 ≤ row.length ∧ row.length ≤ 12
theorem lastI {α : Type} {l : List α} {x : α} : atI (l ++ [x]) (-1) = some x := by
  rw [at_last (by simp)]
  simp
theorem sizes_ok {Rs : List (List It)} {rws : D} {k : Out → Prop} (hit : itD [rws] = some (Rs.map dRow)) (hwf : WF Rs) (hln : LN Rs) (hsz : SZ Rs) (h : k (.ret true (.lst ((szs Rs).map dNat)) [rws])) : okO (phi_sizes_of [rws]) k := by
  unfold phi_sizes_of b_sizes_of
  walk_at "go"
  refine okL_of hit ?_
  refine os_ix (fun i en => en = [.v rws, .o false (.lst ((szs (Rs.take i)).map dNat)), .e, .e]) rfl ?_ ?_
  · rintro i d hd en rfl
    rw [List.getElem?_map] at hd
    obtain ⟨row, hrow, rfl⟩ := Option.map_eq_some_iff.mp hd
    have hil := (List.getElem?_eq_some_iff.mp hrow).1
    have hrl := hln.2 row (List.mem_of_getElem? hrow)
    have hsl : (szs (Rs.take i)).length = i := by unfold szs; rw [bld_len, List.length_take]; omega
    have hnext : szs (Rs.take (i + 1)) = szs (Rs.take i) ++ [rowS (szs (Rs.take i)) row] := bld_take hrow
    unfold dRow
    walk_at "go"
    refine ok_lcY (fun acc en => acc = ((row.take acc.length).map (szI (szs (Rs.take i)))).map dNat ∧ en = [.v rws, .o false (.lst ((szs (Rs.take i)).map dNat)), .v (.tup (row.map dI)), .e]) ⟨rfl, rfl⟩ ?_ ?_ ?_
    · rw [List.length_map]; omega
    · rintro q d hd acc en hq ⟨ha, rfl⟩
      rw [List.getElem?_map] at hd
      obtain ⟨it, hit, rfl⟩ := Option.map_eq_some_iff.mp hd
      subst hq
      have e : row.take (acc.length + 1) = row.take acc.length ++ [it] := by
        rw [List.take_succ, hit]
        rfl
      have hw := hwf i row hrow it (List.mem_of_getElem? hit)
      have fin : ∀ z : D, z = dNat (szI (szs (Rs.take i)) it) → acc ++ [z] = ((row.take (acc ++ [z]).length).map (szI (szs (Rs.take i)))).map dNat := fun z hz => by
        rw [List.length_append, List.length_singleton, e, List.map_append, List.map_append, ← ha, hz]
        rfl
      cases it with
      | c x =>
        simp -dsimp -implicitDefEqProofs (disch := omega) only [dI_c]
        walk_at "goi"
        exact fin _ rfl
      | r j =>
        simp -dsimp -implicitDefEqProofs (disch := omega) only [dI_r]
        walk_at "goi"
        refine okL_of (szs_at (show j < i from hw) (by omega)) ?_
        walk_at "goi"
        exact fin _ rfl
    rintro acc en hlen ⟨ha, rfl⟩
    rw [List.length_map] at hlen
    rw [hlen, List.take_length] at ha
    subst ha
    walk_at "goi"
    refine okL_of sum_nats ?_
    walk_at "goi"
    have hb : rowS (szs (Rs.take i)) row ≤ 300 := hsz _ (bld_sub (i := i + 1) (by show _ ∈ szs _; rw [hnext]; simp))
    have hb : (row.map (szI (szs (Rs.take i)))).sum ≤ 300 := hb
    have hll := hln.1
    refine And.intro (by rw [List.length_map]; omega) ?_
    refine okL_of lastI ?_
    walk_at "goi"
    rw [hnext, List.map_append]
    rfl
  · rintro en rfl
    rw [List.length_map, List.take_length]
    walk_at "goi"
    exact h
theorem join_row {acc : List T} {row : List It} (h : (rowT acc row).length ≤ 300) : joinD [.str (tx []), .lst ((row.map (ttI acc)).map dtx)] = some (false, .str (tx (rowT acc row))) := by
  rw [join_lst, if_pos ?_, joinL_nil]
  · rfl
  · unfold rowT at h
    rw [List.length_flatten] at h
    simp only [List.length_nil, Nat.mul_zero, Nat.add_zero]
    omega
theorem txs_last {Rs : List (List It)} (h : Rs ≠ []) : atI ((txs Rs).map dtx) (-1) = some (dtx ((txs Rs).getLastD [])) := by
  have hl : (txs Rs).length = Rs.length := by unfold txs; rw [bld_len]
  have hp : 0 < Rs.length := List.length_pos_iff.mpr h
  have hne : (txs Rs).map dtx ≠ [] := fun z => by
    have := congrArg List.length z
    rw [List.length_map, hl] at this
    simp at this
    exact h this
  rw [at_last hne, List.getLast?_map]
  cases e : (txs Rs).getLast? with
  | none =>
    rw [List.getLast?_eq_none_iff] at e
    rw [e] at hl
    simp at hl
    omega
  | some t =>
    have : (txs Rs).getLastD [] = t := by
      rw [List.getLastD_eq_getLast?, e]
      rfl
    rw [this]
    rfl
theorem textrows_ok {Rs : List (List It)} {rws : D} {k : Out → Prop} (hit : itD [rws] = some (Rs.map dRow)) (hne : Rs ≠ []) (hwf : WF Rs) (hln : LN Rs) (hsz : SZ Rs) (h : k (.ret false (dtx ((txs Rs).getLastD [])) [rws])) : okO (phi_text_of_rows [rws]) k := by
  unfold phi_text_of_rows b_text_of_rows
  walk_at "go"
  refine sizes_ok hit hwf hln hsz ?_
  walk_at "go"
  refine okL_of hit ?_
  refine os_ix (fun i en => en = [.v rws, .o false (.lst ((txs (Rs.take i)).map dtx)), .e, .e]) rfl ?_ ?_
  · rintro i d hd en rfl
    rw [List.getElem?_map] at hd
    obtain ⟨row, hrow, rfl⟩ := Option.map_eq_some_iff.mp hd
    have hil := (List.getElem?_eq_some_iff.mp hrow).1
    have hrl := hln.2 row (List.mem_of_getElem? hrow)
    have hsl : (txs (Rs.take i)).length = i := by unfold txs; rw [bld_len, List.length_take]; omega
    have hnext : txs (Rs.take (i + 1)) = txs (Rs.take i) ++ [rowT (txs (Rs.take i)) row] := bld_take hrow
    have hll := hln.1
    unfold dRow
    walk_at "go"
    refine ok_lcY (fun acc en => acc = ((row.take acc.length).map (ttI (txs (Rs.take i)))).map dtx ∧ en = [.v rws, .o false (.lst ((txs (Rs.take i)).map dtx)), .v (.tup (row.map dI)), .e]) ⟨rfl, rfl⟩ ?_ ?_ ?_
    · rw [List.length_map]; omega
    · rintro q d hd acc en hq ⟨ha, rfl⟩
      rw [List.getElem?_map] at hd
      obtain ⟨it, hit, rfl⟩ := Option.map_eq_some_iff.mp hd
      subst hq
      have e : row.take (acc.length + 1) = row.take acc.length ++ [it] := by
        rw [List.take_succ, hit]
        rfl
      have hw := hwf i row hrow it (List.mem_of_getElem? hit)
      have fin : ∀ z : D, z = dtx (ttI (txs (Rs.take i)) it) → acc ++ [z] = ((row.take (acc ++ [z]).length).map (ttI (txs (Rs.take i)))).map dtx := fun z hz => by
        rw [List.length_append, List.length_singleton, e, List.map_append, List.map_append, ← ha, hz]
        rfl
      cases it with
      | c x =>
        simp -dsimp -implicitDefEqProofs (disch := omega) only [dI_c]
        walk_at "goi"
        exact fin _ rfl
      | r j =>
        simp -dsimp -implicitDefEqProofs (disch := omega) only [dI_r]
        walk_at "goi"
        refine okL_of (txs_at (show j < i from hw) (by omega)) ?_
        walk_at "goi"
        exact fin _ rfl
    rintro acc en hlen ⟨ha, rfl⟩
    rw [List.length_map] at hlen
    rw [hlen, List.take_length] at ha
    subst ha
    have hb : (rowT (txs (Rs.take i)) row).length ≤ 300 := by
      have hm : rowT (txs (Rs.take i)) row ∈ txs Rs := bld_sub (i := i + 1) (by show _ ∈ txs _; rw [hnext]; simp)
      refine hsz _ ?_
      rw [← txs_lens]
      exact List.mem_map.mpr ⟨_, hm, rfl⟩
    walk_at "goi"
    refine okL_of (join_row hb) ?_
    walk_at "goi"
    rw [hnext, List.map_append]
    rfl
  · rintro en rfl
    rw [List.length_map, List.take_length]
    walk_at "goi"
    refine okL_of (txs_last hne) ?_
    walk_at "goi"
    exact h
theorem last_lts {Rs : List (List It)} (hwf : WF Rs) : Lts ((txs Rs).getLastD []) := by
  cases e : (txs Rs).getLast? with
  | none =>
    rw [List.getLastD_eq_getLast?, e]
    exact Lts.nil
  | some t =>
    rw [List.getLastD_eq_getLast?, e]
    exact txs_lts hwf t (List.mem_of_getLast? e)
end PyD.S

end

namespace PyD.S
open PySem PySem.Spec L2 PyD.S
/-- a text or none -/
def dO : Option (List Nat) → D
  | none => .non
  | some x => .str (tx x)
theorem dO_n : dO none = .non := rfl
theorem dO_s {x : List Nat} : dO (some x) = .str (tx x) := rfl
end PyD.S

namespace PyD.S
open PySem PySem.Spec L2
/-! first_met: slots 0 rows 1 sizes 2 found* 3 number 4 row 5 item 6 place -/
def b_first_met : En → Fl :=
  (seqF (asV 1 (callF [false] phi_sizes_of (consF (nmF 0) nilF)))
  (seqF (asO 2 (lcF (itA itD (one (nmF 0))) (gNm 4) yesT (cF .non) [4]))
  (seqF (stF 2 (opF negD (one (cF (.int 1)))) (cF (.int 0)) setD)
  (seqF (endF [false, true, false, true] (frF (itA rrgD (one (opF lenD (consF (nmF 0) nilF)))) (gNm 3) (endF [false, false, false, true] (ifS (tstB (opF (isOp true) (two (opF ixUD (two (nmF 2) (nmF 3))) (cF .non)))) (endF [false, false, false, true, false, true, true] (frF (itA itD (one (callF [false, false, false] phi_item_places (consF (opF ixUD (two (nmF 0) (nmF 3))) (consF (opF ixUD (two (nmF 2) (nmF 3))) (consF (nmF 1) nilF)))))) (gTp [5, 6]) (endF [false, false, false, false, false, true, true] (ifS (andT (notT (tstF (opF (isiD "str") (one (nmF 5))))) (orT (tstB (opF (isOp false) (two (opF ixUD (two (nmF 2) (nmF 5))) (cF .non)))) (tstB (opF ltD (two (nmF 6) (opF ixUD (two (nmF 2) (nmF 5)))))))) (stF 2 (nmF 5) (nmF 6) setD) skF)))) skF))))
  (rtF (mvF 2))))))
def phi_first_met : List D → Out := runF [false] 6 b_first_met
end PyD.S

section
set_option maxHeartbeats 8000000
namespace PyD.S
open PySem PySem.Spec L2 PyD.S
local macro_rules | `(tactic| walk_at "ev") => `(tactic| simp -dsimp -implicitDefEqProofs only [is_nn, is_in, is_sn, is_tn, is_ln, is_bn, os_endA, os_endO, os_endG, os_endP, os_endD, os_endS, os_endFr, os_endWh, os_bod, endK_nx, endK_rt, endK_bk, endK_ct, endK_exc, bodK_nx, bodK_rt, bodK_bk, bodK_ct, bodK_exc, frM_t, frM_f, frM_n, wpM_t, wpM_f, wpM_n, ok_c, ok_nm, nmK_v, nmK_o, ok_mv, mvK_v, mvK_o, ok_dm, dmK_v, dmK_o, ok_nil, ok_cons, ok_one, ok_two, ok_op, ok_tstB, ok_tstF, ok_not, bi_true, bi_false, bi_dec, bj_true, bj_false, bj_not, bi_not_dec, ok_and, ok_or, ok_ifF, ok_andF, ok_orF, ok_notF, ok_tup, ok_lst, ok_dic, ok_bm, intR_int, ok_prtN, ok_prtS, ok_sl, callK_ret, ok_call, ok_itA, ok_lc, ok_ch, ok_mut, mutG, shK_sh, shK2_sh, ordB, ownK_o, os_sk, os_bk, os_ct, seqK_nx, seqK_rt, seqK_bk, seqK_ct, seqK_exc, os_seq, os_dr, os_rt, vK_sh, vK_fr, os_asV, os_asO, os_asG, os_asP, os_st, oK_fr, ok_gNm, ok_gTp, ok_gNms0, ok_gNms1, os_fr, ok_run, defK_nx, defK_sh, defK_fr, loopK_nx, loopK_ct, loopK_bk, loopK_rt, okL_some, okL_map, okL_if, okL_ifo, rsls, rsl, stos, stoD, mkR, blD, free_eq, frS_e, frS_v, frS_o, nxK_nx, List.getElem?_cons_zero, List.getElem?_cons_succ, List.set_cons_zero, List.set_cons_succ, List.length_cons, List.length_nil, Nat.zero_add, Nat.reduceAdd, mkE, slIn, List.replicate, List.cons_append, List.nil_append, outsOf, pick, lentOk, nodupB, slotsOf, borrows, putBack, resFlat, add_tx, add_lst, add_tup, add_int, sub_int, mulV_int, mod_int, fdv_int, pow_int, neg_int, eq_int, eqOp_eq, ne_false, ne_true, tx_list, len_tx, len_lst, len_tup, len_scr, len_dic, ix_lst, ix_tup, ix_tx, ix_scr, at_0, at_1, at_2, set_lst, app_lst, ixN_30, ixN_31, ixN_32, ixN_20, ixN_21, ixN_10, sl_tx, sl_lst, sl_tup, sl_scr, true_and, and_true, ordD, Bool.not_false, Bool.not_true, Bool.and_true, Bool.true_and, Bool.or_true, Bool.true_or, List.elem, Bool.false_eq_true, if_true, if_false, isLst, isStr, isDic, int_bl, int_int, list_lst, list_tup, list_scr, tuple_lst, tuple_tup, max2_int, min2_int, isi_int, isi_bl, isi_str, isi_tup, isi_lst, isi_non, isi_dic, ty_ii, ty_ib, ty_is, ty_it, ty_il, ty_bi, ty_bb, ty_bs, ty_bt, ty_bL, ty_si, ty_sb, ty_ss, ty_st, ty_sl, ty_ti, ty_tb, ty_ts, ty_tt, ty_tl, ty_li, ty_lb, ty_ls, ty_lt, ty_ll, ty_ni, ty_nb, ty_ns, ty_nt, ty_nl, rg1, rg2, rg3, it_lst, it_tup, it_scr, it_str, enum_lst, zip_lst, zip_tup, rev_lst, rev_tup, tru_int, tru_bl, tru_lst, tru_tup, wipeE, resE, List.all_cons, List.all_nil, Bool.and_eq_true, dtx, yesT_ok, and_self])
local macro_rules | `(tactic| walk_at "evi") => `(tactic| simp -dsimp -implicitDefEqProofs only [os_if, os_endIf, is_nn, is_in, is_sn, is_tn, is_ln, is_bn, os_endA, os_endO, os_endG, os_endP, os_endD, os_endS, os_endFr, os_endWh, os_bod, endK_nx, endK_rt, endK_bk, endK_ct, endK_exc, bodK_nx, bodK_rt, bodK_bk, bodK_ct, bodK_exc, frM_t, frM_f, frM_n, wpM_t, wpM_f, wpM_n, ok_c, ok_nm, nmK_v, nmK_o, ok_mv, mvK_v, mvK_o, ok_dm, dmK_v, dmK_o, ok_nil, ok_cons, ok_one, ok_two, ok_op, ok_tstB, ok_tstF, ok_not, bi_true, bi_false, bi_dec, bj_true, bj_false, bj_not, bi_not_dec, ok_and, ok_or, ok_ifF, ok_andF, ok_orF, ok_notF, ok_tup, ok_lst, ok_dic, ok_bm, intR_int, ok_prtN, ok_prtS, ok_sl, callK_ret, ok_call, ok_itA, ok_lc, ok_ch, ok_mut, mutG, shK_sh, shK2_sh, ordB, ownK_o, os_sk, os_bk, os_ct, seqK_nx, seqK_rt, seqK_bk, seqK_ct, seqK_exc, os_seq, os_dr, os_rt, vK_sh, vK_fr, os_asV, os_asO, os_asG, os_asP, os_st, oK_fr, ok_gNm, ok_gTp, ok_gNms0, ok_gNms1, os_fr, ok_run, defK_nx, defK_sh, defK_fr, loopK_nx, loopK_ct, loopK_bk, loopK_rt, okL_some, okL_map, okL_if, okL_ifo, rsls, rsl, stos, stoD, mkR, blD, free_eq, frS_e, frS_v, frS_o, nxK_nx, List.getElem?_cons_zero, List.getElem?_cons_succ, List.set_cons_zero, List.set_cons_succ, List.length_cons, List.length_nil, Nat.zero_add, Nat.reduceAdd, mkE, slIn, List.replicate, List.cons_append, List.nil_append, outsOf, pick, lentOk, nodupB, slotsOf, borrows, putBack, resFlat, add_tx, add_lst, add_tup, add_int, sub_int, mulV_int, mod_int, fdv_int, pow_int, neg_int, eq_int, eqOp_eq, ne_false, ne_true, tx_list, len_tx, len_lst, len_tup, len_scr, len_dic, ix_lst, ix_tup, ix_tx, ix_scr, at_0, at_1, at_2, set_lst, app_lst, ixN_30, ixN_31, ixN_32, ixN_20, ixN_21, ixN_10, sl_tx, sl_lst, sl_tup, sl_scr, true_and, and_true, ordD, Bool.not_false, Bool.not_true, Bool.and_true, Bool.true_and, Bool.or_true, Bool.true_or, List.elem, Bool.false_eq_true, if_true, if_false, isLst, isStr, isDic, int_bl, int_int, list_lst, list_tup, list_scr, tuple_lst, tuple_tup, max2_int, min2_int, isi_int, isi_bl, isi_str, isi_tup, isi_lst, isi_non, isi_dic, ty_ii, ty_ib, ty_is, ty_it, ty_il, ty_bi, ty_bb, ty_bs, ty_bt, ty_bL, ty_si, ty_sb, ty_ss, ty_st, ty_sl, ty_ti, ty_tb, ty_ts, ty_tt, ty_tl, ty_li, ty_lb, ty_ls, ty_lt, ty_ll, ty_ni, ty_nb, ty_ns, ty_nt, ty_nl, rg1, rg2, rg3, it_lst, it_tup, it_scr, it_str, enum_lst, zip_lst, zip_tup, rev_lst, rev_tup, tru_int, tru_bl, tru_lst, tru_tup, wipeE, resE, List.all_cons, List.all_nil, Bool.and_eq_true, dtx, yesT_ok, and_self])
local macro_rules | `(tactic| walk_at "eva") => `(tactic| simp -dsimp -implicitDefEqProofs only [is_nn, is_in, is_sn, is_tn, is_ln, is_bn, os_endA, os_endO, os_endG, os_endP, os_endD, os_endS, os_endFr, os_endWh, os_bod, endK_nx, endK_rt, endK_bk, endK_ct, endK_exc, bodK_nx, bodK_rt, bodK_bk, bodK_ct, bodK_exc, frM_t, frM_f, frM_n, wpM_t, wpM_f, wpM_n, ok_c, ok_nm, nmK_v, nmK_o, ok_mv, mvK_v, mvK_o, ok_dm, dmK_v, dmK_o, ok_nil, ok_cons, ok_one, ok_two, ok_op, ok_tstB, ok_tstF, ok_not, bi_true, bi_false, bi_dec, bj_true, bj_false, bj_not, bi_not_dec, ok_and, ok_or, ok_notF, ok_tup, ok_lst, ok_dic, ok_bm, intR_int, ok_prtN, ok_prtS, ok_sl, callK_ret, ok_call, ok_itA, ok_lc, ok_ch, ok_mut, mutG, shK_sh, shK2_sh, ordB, ownK_o, os_sk, os_bk, os_ct, seqK_nx, seqK_rt, seqK_bk, seqK_ct, seqK_exc, os_seq, os_dr, os_rt, vK_sh, vK_fr, os_asV, os_asO, os_asG, os_asP, os_st, oK_fr, ok_gNm, ok_gTp, ok_gNms0, ok_gNms1, os_fr, ok_run, defK_nx, defK_sh, defK_fr, loopK_nx, loopK_ct, loopK_bk, loopK_rt, okL_some, okL_map, okL_if, okL_ifo, rsls, rsl, stos, stoD, mkR, blD, free_eq, frS_e, frS_v, frS_o, nxK_nx, List.getElem?_cons_zero, List.getElem?_cons_succ, List.set_cons_zero, List.set_cons_succ, List.length_cons, List.length_nil, Nat.zero_add, Nat.reduceAdd, mkE, slIn, List.replicate, List.cons_append, List.nil_append, outsOf, pick, lentOk, nodupB, slotsOf, borrows, putBack, resFlat, add_tx, add_lst, add_tup, add_int, sub_int, mulV_int, mod_int, fdv_int, pow_int, neg_int, eq_int, eqOp_eq, ne_false, ne_true, tx_list, len_tx, len_lst, len_tup, len_scr, len_dic, ix_lst, ix_tup, ix_tx, ix_scr, at_0, at_1, at_2, set_lst, app_lst, ixN_30, ixN_31, ixN_32, ixN_20, ixN_21, ixN_10, sl_tx, sl_lst, sl_tup, sl_scr, true_and, and_true, ordD, Bool.not_false, Bool.not_true, Bool.and_true, Bool.true_and, Bool.or_true, Bool.true_or, List.elem, Bool.false_eq_true, if_true, if_false, isLst, isStr, isDic, int_bl, int_int, list_lst, list_tup, list_scr, tuple_lst, tuple_tup, max2_int, min2_int, isi_int, isi_bl, isi_str, isi_tup, isi_lst, isi_non, isi_dic, ty_ii, ty_ib, ty_is, ty_it, ty_il, ty_bi, ty_bb, ty_bs, ty_bt, ty_bL, ty_si, ty_sb, ty_ss, ty_st, ty_sl, ty_ti, ty_tb, ty_ts, ty_tt, ty_tl, ty_li, ty_lb, ty_ls, ty_lt, ty_ll, ty_ni, ty_nb, ty_ns, ty_nt, ty_nl, rg1, rg2, rg3, it_lst, it_tup, it_scr, it_str, enum_lst, zip_lst, zip_tup, rev_lst, rev_tup, tru_int, tru_bl, tru_lst, tru_tup, wipeE, resE, List.all_cons, List.all_nil, Bool.and_eq_true, dtx, yesT_ok, and_self])
local macro_rules | `(tactic| walk_at "sd") => `(tactic| repeat (refine And.intro (by first | omega | assumption | exact rfl) ?_))
local macro_rules | `(tactic| walk_at "sc") => `(tactic| first | assumption | omega | exact rfl | exact mulOk_r (by omega) (by omega) | exact mulOk_l (by omega) (by omega) | exact log_ok (by omega) (by omega) | (simp only [List.length_append, List.length_cons, List.length_nil, List.length_take, List.length_drop, List.length_map, List.length_replicate, upL_len]; omega) | (refine And.intro ?_ ?_ <;> walk_at "sc") | decide)
set_option hygiene false in
local macro_rules | `(tactic| walk_at "lm") => `(tactic| first
  | ((with_reducible refine take_ok ?_ ?_ ?_ fun p r hp hr0 hr1 => ?_); (focus assumption); (focus omega); (focus omega))
  | ((with_reducible refine pick_ok ?_ ?_ ?_ fun p r hp hr0 hr1 => ?_); (focus assumption); (focus omega); (focus omega))
  | ((with_reducible refine pick2_ok ?_ ?_ ?_ fun p r hp hr0 hr1 => ?_); (focus assumption); (focus omega); (focus omega))
  | ((with_reducible refine letter_ok ?_ ?_ ?_ fun p c hp hc => ?_); (focus assumption); (focus omega); (focus omega))
  | ((with_reducible refine signs_ok ?_ ?_ ?_ ?_ ?_ fun p l hp hl hc => ?_); (focus assumption); (focus omega); (focus omega); (focus omega); (focus omega))
  | ((with_reducible refine text_ok ?_ ?_ ?_ fun p l hp hl hc => ?_); (focus assumption); (focus omega); (focus omega))
  | ((with_reducible refine rtext_ok ?_ ?_ ?_ fun p l hp hl hc => ?_); (focus assumption); (focus omega); (focus omega))
  | ((with_reducible refine rtext2_ok ?_ ?_ ?_ fun p l hp hl hc => ?_); (focus assumption); (focus omega); (focus omega))
  | (with_reducible refine whole_ok ?_))
local macro_rules | `(tactic| walk_at "ok") => `(tactic| first | assumption | exact okT_nil | exact Lts.ok (by assumption) | decide)
local macro_rules | `(tactic| walk_at "g0") => `(tactic| first
  | ((with_reducible refine And.intro ?_ ?_); (focus walk_at "sc"))
  | walk_at "lm"
  | ((with_reducible refine okL_eqtx ?_ ?_ ?_); (focus walk_at "ok"); (focus walk_at "ok"))
  | ((with_reducible refine bj_t ?_ ?_); (focus (first | with_reducible rfl | omega)))
  | ((with_reducible refine bj_f ?_ ?_); (focus omega)))
local macro_rules | `(tactic| walk_at "g1") => `(tactic| first
  | walk_at "ev"
  | walk_at "g0")
local macro_rules | `(tactic| walk_at "g2") => `(tactic| first
  | walk_at "evi"
  | walk_at "g0")
local macro_rules | `(tactic| walk_at "go") => `(tactic| repeat walk_at "g1")
local macro_rules | `(tactic| walk_at "goi") => `(tactic| repeat walk_at "g2")
local macro_rules | `(tactic| walk_at "goa") => `(tactic| repeat first | walk_at "eva" | walk_at "g0")
/-! where the items of a row stand -/
def plcs (acc : List Nat) : Nat → List It → List (It × Nat)
  | _, [] => []
  | p, it :: r => (it, p) :: plcs acc (p + szI acc it) r
def dIP (x : It × Nat) : D := .tup [dI x.1, .int (x.2 : Nat)]
theorem rowS_snoc {acc : List Nat} {l : List It} {it : It} : rowS acc (l ++ [it]) = rowS acc l + szI acc it := by
  unfold rowS
  rw [List.map_append, List.sum_append]
  simp
theorem rowS_cons {acc : List Nat} {l : List It} {it : It} : rowS acc (it :: l) = szI acc it + rowS acc l := by
  unfold rowS
  rw [List.map_cons, List.sum_cons]
theorem plcs_snoc {acc : List Nat} {it : It} : ∀ {l : List It} {p : Nat}, plcs acc p (l ++ [it]) = plcs acc p l ++ [(it, p + rowS acc l)]
  | [], p => by simp [plcs, rowS]
  | x :: l, p => by
    show (x, p) :: plcs acc (p + szI acc x) (l ++ [it]) = (x, p) :: plcs acc (p + szI acc x) l ++ _
    rw [plcs_snoc (l := l), rowS_cons, Nat.add_assoc]
    rfl
theorem plcs_len {acc : List Nat} : ∀ {l : List It} {p : Nat}, (plcs acc p l).length = l.length
  | [], _ => rfl
  | x :: l, p => by
    show (plcs acc (p + szI acc x) l).length + 1 = l.length + 1
    rw [plcs_len (l := l)]
theorem plcs_mem {acc : List Nat} {x : It × Nat} : ∀ {l : List It} {p : Nat}, x ∈ plcs acc p l → x.1 ∈ l
  | [], _, h => nomatch h
  | it :: l, p, h => by
    rcases List.mem_cons.mp h with rfl | h
    · exact List.mem_cons_self
    · exact List.mem_cons_of_mem _ (plcs_mem h)
/-- the sizes know every row that is named -/
def Kn (n : Nat) : It → Prop
  | .c _ => True
  | .r i => i < n
theorem nats_at {ns : List Nat} {i : Nat} (h : i < ns.length) : atI (ns.map dNat) (i : Int) = some (dNat (ns.getD i 0)) := by
  unfold atI
  rw [ixN_at (by omega) (by rw [List.length_map]; omega)]
  simp only [Option.bind_some]
  rw [List.getElem?_map, show ((i : Int)).toNat = i by omega, List.getD_eq_getElem?_getD, List.getElem?_eq_getElem h]
  rfl
theorem itemplaces_ok {row : List It} {acc : List Nat} {p : Nat} {k : Out → Prop} (hr : row.length ≤ 5000) (hk : ∀ it ∈ row, Kn acc.length it) (h : k (.ret true (.lst ((plcs acc p row).map dIP)) [.tup (row.map dI), .int p, .lst (acc.map dNat)])) : okO (phi_item_places [.tup (row.map dI), .int p, .lst (acc.map dNat)]) k := by
  unfold phi_item_places b_item_places
  walk_at "go"
  refine os_ix (fun i en => en = [.v (.tup (row.map dI)), .v (.int (p + rowS acc (row.take i) : Nat)), .v (.lst (acc.map dNat)), .o false (.lst ((plcs acc p (row.take i)).map dIP)), .e]) rfl ?_ ?_
  · rintro i d hd en rfl
    rw [List.getElem?_map] at hd
    obtain ⟨it, hit, rfl⟩ := Option.map_eq_some_iff.mp hd
    have hil := (List.getElem?_eq_some_iff.mp hit).1
    have e : row.take (i + 1) = row.take i ++ [it] := by
      rw [List.take_succ, hit]
      rfl
    have hki := hk it (List.mem_of_getElem? hit)
    have hpl : (plcs acc p (row.take i)).length ≤ 5000 := by rw [plcs_len, List.length_take]; omega
    rw [e, plcs_snoc, rowS_snoc, List.map_append]
    cases it with
    | c x =>
      simp -dsimp -implicitDefEqProofs (disch := omega) only [dI_c]
      walk_at "goi"
      rw [show ((p + rowS acc (row.take i) : Nat) : Int) + 1 = ((p + (rowS acc (row.take i) + szI acc (It.c x)) : Nat) : Int) by
        show _ = ((p + (rowS acc (row.take i) + 1) : Nat) : Int)
        omega]
      rfl
    | r j =>
      simp -dsimp -implicitDefEqProofs (disch := omega) only [dI_r]
      walk_at "goi"
      refine okL_of (nats_at hki) ?_
      rw [show dNat (acc.getD j 0) = D.int (acc.getD j 0 : Nat) from rfl]
      walk_at "goi"
      rw [show ((p + rowS acc (row.take i) : Nat) : Int) + ((acc.getD j 0 : Nat) : Int) = ((p + (rowS acc (row.take i) + szI acc (It.r j)) : Nat) : Int) by
        show _ = ((p + (rowS acc (row.take i) + acc.getD j 0) : Nat) : Int)
        omega]
      rfl
  · rintro en rfl
    rw [List.length_map, List.take_length]
    walk_at "go"
    exact h
/-! where rows are first met -/
def mstep (fs : List (Option Nat)) (x : It × Nat) : List (Option Nat) :=
  match x.1 with
  | .c _ => fs
  | .r i => match fs.getD i none with
    | none => fs.set i (some x.2)
    | some q => if x.2 < q then fs.set i (some x.2) else fs
def mrow (acc : List Nat) (Rs : List (List It)) (fs : List (Option Nat)) (n : Nat) : List (Option Nat) :=
  match fs.getD n none with
  | none => fs
  | some p => (plcs acc p (Rs.getD n [])).foldl mstep fs
def fs0 (n : Nat) : List (Option Nat) := (List.replicate n none).set (n - 1) (some 0)
def fsN (Rs : List (List It)) (i : Nat) : List (Option Nat) := (List.range i).foldl (fun fs q => mrow (szs Rs) Rs fs (Rs.length - 1 - q)) (fs0 Rs.length)
def fmet (Rs : List (List It)) : List (Option Nat) := fsN Rs Rs.length
theorem fsN_succ {Rs : List (List It)} {i : Nat} : fsN Rs (i + 1) = mrow (szs Rs) Rs (fsN Rs i) (Rs.length - 1 - i) := by
  unfold fsN
  rw [List.range_succ, List.foldl_append]
  rfl
theorem mstep_len {fs : List (Option Nat)} {x : It × Nat} : (mstep fs x).length = fs.length := by
  unfold mstep
  split
  · rfl
  · split
    · rw [List.length_set]
    · split
      · rw [List.length_set]
      · rfl
theorem msteps_len : ∀ {xs : List (It × Nat)} {fs : List (Option Nat)}, (xs.foldl mstep fs).length = fs.length
  | [], _ => rfl
  | x :: xs, fs => by
    rw [List.foldl_cons, msteps_len (xs := xs), mstep_len]
theorem mrow_len {acc : List Nat} {Rs : List (List It)} {fs : List (Option Nat)} {n : Nat} : (mrow acc Rs fs n).length = fs.length := by
  unfold mrow
  split
  · rfl
  · exact msteps_len
theorem fsN_len {Rs : List (List It)} : ∀ {i : Nat}, (fsN Rs i).length = Rs.length
  | 0 => by
    show ((List.replicate Rs.length none).set (Rs.length - 1) (some 0)).length = _
    simp
  | i + 1 => by rw [fsN_succ, mrow_len, fsN_len]
def dMO : Option Nat → D
  | none => .non
  | some p => .int (p : Nat)
theorem mo_at {fs : List (Option Nat)} {i : Nat} (h : i < fs.length) : atI (fs.map dMO) (i : Int) = some (dMO (fs.getD i none)) := by
  unfold atI
  rw [ixN_at (by omega) (by rw [List.length_map]; omega)]
  simp only [Option.bind_some]
  rw [List.getElem?_map, show ((i : Int)).toNat = i by omega, List.getD_eq_getElem?_getD, List.getElem?_eq_getElem h]
  rfl
theorem mo_set {fs : List (Option Nat)} {i p : Nat} (h : i < fs.length) : setD (.lst (fs.map dMO)) (.int (i : Nat)) (.int (p : Nat)) = some (.lst ((fs.set i (some p)).map dMO)) := by
  rw [set_lst, ixN_at (by omega) (by rw [List.length_map]; omega), Option.map_some, show ((i : Int)).toNat = i by omega, List.map_set]
  rfl
theorem mo_ix {fs : List (Option Nat)} {i : Nat} (h : i < fs.length) : ixN (fs.map dMO).length (i : Int) = some i := by
  rw [ixN_at (by omega) (by rw [List.length_map]; omega)]
  congr 1
theorem mo_sets {fs : List (Option Nat)} {i p : Nat} : (fs.map dMO).set i (.int (p : Nat)) = (fs.set i (some p)).map dMO := by
  rw [List.map_set]
  rfl
theorem row_at {Rs : List (List It)} {i : Nat} (h : i < Rs.length) : atI (Rs.map dRow) (i : Int) = some (dRow (Rs.getD i [])) := by
  unfold atI
  rw [ixN_at (by omega) (by rw [List.length_map]; omega)]
  simp only [Option.bind_some]
  rw [List.getElem?_map, show ((i : Int)).toNat = i by omega, List.getD_eq_getElem?_getD, List.getElem?_eq_getElem h]
  rfl
theorem firstmet_ok {Rs : List (List It)} {k : Out → Prop} (hne : Rs ≠ []) (hwf : WF Rs) (hln : LN Rs) (hsz : SZ Rs) (h : k (.ret true (.lst ((fmet Rs).map dMO)) [.tup (Rs.map dRow)])) : okO (phi_first_met [.tup (Rs.map dRow)]) k := by
  unfold phi_first_met b_first_met
  have hN := hln.1
  have hml : (Rs.map dRow).length = Rs.length := List.length_map _
  have hszl : (szs Rs).length = Rs.length := bld_len
  walk_at "go"
  with_reducible refine sizes_ok (Rs := Rs) rfl hwf hln hsz ?_
  walk_at "go"
  refine ok_lcY (fun acc en => acc = List.replicate acc.length D.non ∧ en = [.v (.tup (Rs.map dRow)), .v (.lst ((szs Rs).map dNat)), .e, .e, .e, .e, .e]) ⟨rfl, rfl⟩ (by omega) ?_ ?_
  · rintro i d hd acc en hi ⟨ha, rfl⟩
    walk_at "go"
    rw [List.length_append, List.length_singleton, List.replicate_succ', ← ha]
  rintro acc en hlen ⟨ha, rfl⟩
  rw [ha, hlen, hml]
  clear ha hlen
  walk_at "go"
  have hN0 : 0 < Rs.length := List.length_pos_iff.mpr hne
  have eix : ixN (List.replicate Rs.length D.non).length (-1) = some (Rs.length - 1) := by
    rw [List.length_replicate]
    unfold ixN
    rw [if_neg (by omega), if_pos (by omega)]
    congr 1
    omega
  refine okL_of eix ?_
  have e0 : (List.replicate Rs.length D.non).set (Rs.length - 1) (.int 0) = (fsN Rs 0).map dMO := by
    show _ = ((List.replicate Rs.length none).set (Rs.length - 1) (some 0)).map dMO
    rw [List.map_set, List.map_replicate]
    rfl
  rw [e0]
  clear e0 eix
  walk_at "go"
  rw [hml]
  have err : rrgD [.int (Rs.length : Nat)] = some ((List.range Rs.length).map fun i => D.int ((Rs.length - 1 - i : Nat) : Int)) := by
    rw [rrg, if_pos (by omega)]
    unfold stepL
    rw [show ((Rs.length : Nat) : Int).toNat = Rs.length by omega]
    refine congrArg some (List.map_congr_left fun i hi => ?_)
    have := List.mem_range.mp hi
    congr 1
    omega
  with_reducible refine okL_of err ?_
  refine os_ix (fun i en => en = [.v (.tup (Rs.map dRow)), .v (.lst ((szs Rs).map dNat)), .o false (.lst ((fsN Rs i).map dMO)), .e, .e, .e, .e]) rfl ?_ ?_
  · rintro i d hd en rfl
    rw [List.getElem?_map] at hd
    obtain ⟨i2, hi2, rfl⟩ := Option.map_eq_some_iff.mp hd
    have hiN : i < Rs.length := by
      have := (List.getElem?_eq_some_iff.mp hi2).1
      rw [List.length_range] at this
      exact this
    rw [List.getElem?_range hiN] at hi2
    cases hi2
    rw [fsN_succ]
    have hfl := fsN_len (Rs := Rs) (i := i)
    generalize hn : Rs.length - 1 - i = n
    have hnN : n < Rs.length := by omega
    generalize fsN Rs i = fs at hfl
    obtain hfn | ⟨p, hfn⟩ : fs.getD n none = none ∨ ∃ p, fs.getD n none = some p := by
      cases fs.getD n none with
      | none => exact .inl rfl
      | some p => exact .inr ⟨p, rfl⟩
    · have e1 : mrow (szs Rs) Rs fs n = fs := by
        unfold mrow
        rw [hfn]
      have e2 : atI (fs.map dMO) (n : Int) = some .non := (mo_at (by omega)).trans (by rw [hfn]; rfl)
      rw [e1]
      walk_at "goi"
      with_reducible refine okL_of e2 ?_
      walk_at "goi"
    · have e1 : mrow (szs Rs) Rs fs n = (plcs (szs Rs) p (Rs.getD n [])).foldl mstep fs := by
        unfold mrow
        rw [hfn]
      have e2 : atI (fs.map dMO) (n : Int) = some (.int (p : Nat)) := (mo_at (by omega)).trans (by rw [hfn]; rfl)
      rw [e1]
      walk_at "goi"
      with_reducible refine okL_of e2 ?_
      walk_at "goi"
      with_reducible refine okL_of (row_at hnN) ?_
      walk_at "goi"
      with_reducible refine okL_of e2 ?_
      walk_at "goi"
      obtain ⟨row, hrow⟩ : ∃ row, Rs[n]? = some row := ⟨_, List.getElem?_eq_getElem hnN⟩
      have hrd : Rs.getD n [] = row := by rw [List.getD_eq_getElem?_getD, hrow]; rfl
      have hrl := hln.2 row (List.mem_of_getElem? hrow)
      rw [hrd, show dRow row = .tup (row.map dI) from rfl]
      with_reducible refine itemplaces_ok (by omega) (fun it hit => ?_) ?_
      · have := hwf n row hrow it hit
        cases it with
        | c x => trivial
        | r j =>
          have hj : j < n := this
          show j < (szs Rs).length
          omega
      walk_at "goi"
      have hxr : ∀ x ∈ plcs (szs Rs) p row, okI n x.1 := fun x hx => hwf n row hrow x.1 (plcs_mem hx)
      have hxl : (plcs (szs Rs) p row).length = row.length := plcs_len
      generalize plcs (szs Rs) p row = xs at hxr hxl
      refine os_ix (fun j en => en = [.v (.tup (Rs.map dRow)), .v (.lst ((szs Rs).map dNat)), .o false (.lst (((xs.take j).foldl mstep fs).map dMO)), .v (.int n), .e, .e, .e]) rfl ?_ ?_
      · rintro j d hd en rfl
        rw [List.getElem?_map] at hd
        obtain ⟨⟨it, pl⟩, hx, rfl⟩ := Option.map_eq_some_iff.mp hd
        have hok := hxr _ (List.mem_of_getElem? hx)
        have e : (xs.take (j + 1)).foldl mstep fs = mstep ((xs.take j).foldl mstep fs) (it, pl) := by
          rw [List.take_succ, hx, List.foldl_append]
          rfl
        rw [e]
        have hgl : ((xs.take j).foldl mstep fs).length = Rs.length := msteps_len.trans hfl
        generalize (xs.take j).foldl mstep fs = gs at hgl
        rw [show dIP (it, pl) = .tup [dI it, .int (pl : Nat)] from rfl]
        cases it with
        | c x =>
          simp -dsimp -implicitDefEqProofs (disch := omega) only [dI_c]
          walk_at "goi"
          rfl
        | r i =>
          have hiN : i < Rs.length := Nat.lt_trans (show i < n from hok) hnN
          simp -dsimp -implicitDefEqProofs (disch := omega) only [dI_r]
          obtain hg | ⟨q, hg⟩ : gs.getD i none = none ∨ ∃ q, gs.getD i none = some q := by
            cases gs.getD i none with
            | none => exact .inl rfl
            | some q => exact .inr ⟨q, rfl⟩
          · have m1 : mstep gs (.r i, pl) = gs.set i (some pl) := by
              unfold mstep
              dsimp only
              rw [hg]
            have m2 : atI (gs.map dMO) (i : Int) = some .non := (mo_at (by omega)).trans (by rw [hg]; rfl)
            rw [m1]
            walk_at "goi"
            with_reducible refine okL_of m2 ?_
            walk_at "goi"
            with_reducible refine okL_of (mo_ix (by omega)) ?_
            rw [mo_sets]
            walk_at "goi"
          · have m2 : atI (gs.map dMO) (i : Int) = some (.int (q : Nat)) := (mo_at (by omega)).trans (by rw [hg]; rfl)
            have m1 : mstep gs (.r i, pl) = if pl < q then gs.set i (some pl) else gs := by
              unfold mstep
              dsimp only
              rw [hg]
            rw [m1]
            walk_at "goi"
            with_reducible refine okL_of m2 ?_
            walk_at "goi"
            with_reducible refine okL_of m2 ?_
            walk_at "goi"
            refine bj_mk (fun h1 => ?_) (fun h1 => ?_)
            · rw [if_pos (show pl < q by omega)]
              walk_at "goi"
              with_reducible refine okL_of (mo_ix (by omega)) ?_
              rw [mo_sets]
              walk_at "goi"
            · rw [if_neg (show ¬ pl < q by omega)]
              walk_at "goi"
      rintro en rfl
      rw [List.length_map, List.take_length]
      walk_at "goi"
  · rintro en rfl
    rw [show ((List.range Rs.length).map fun i => D.int ((Rs.length - 1 - i : Nat) : Int)).length = Rs.length by simp]
    walk_at "go"
    exact h
end PyD.S

end

section
set_option maxHeartbeats 2000000
namespace PyD.S
open PySem PySem.Spec L2 PyD.S StrLaws Builtin.Str
/-- x stands at i, ending by hi -/
def mAt (l x : List Nat) (hi i : Nat) : Bool := decide (i + x.length ≤ hi) && decide ((l.take (i + x.length)).drop i = x)
def fstAt (l x : List Nat) (lo hi : Nat) : Option Nat := (List.range' lo (hi + 1 - lo)).find? (mAt l x hi)
theorem subAt_tx (l x : List Nat) (i : Nat) : subAt (tx l) (tx x) i = decide ((l.take (i + x.length)).drop i = x) := by
  unfold subAt
  rw [tx_len]
  show ((l.toArray.extract i (i + x.length)) == x.toArray) = _
  rw [List.extract_toArray]
  by_cases h : (l.take (i + x.length)).drop i = x
  · have e : (l.extract i (i + x.length)) = x := by
      rw [List.extract_eq_take_drop, ← List.drop_take]
      exact h
    rw [e]
    simp [h]
  · have e : ¬ (l.extract i (i + x.length)) = x := fun z => h (by
      rw [List.extract_eq_take_drop, ← List.drop_take] at z
      exact z)
    simp [h, e]
    intro z
    refine h ?_
    rw [List.drop_take, show i + x.length - i = x.length by omega]
    exact z
theorem occ_full (s sub : Str) (hi : Nat) : ∀ (l : List Nat) (st : Array Nat × Nat), ¬ st.fst.size < 1 → (forIn l st (occBody s sub hi 1)).run.fst = st.fst
  | [], st, _ => by simp
  | a :: l, st, h => by
    rw [List.forIn_cons]
    unfold occBody
    rw [if_neg (fun z => h z.1.1.1)]
    exact occ_full s sub hi l _ h
theorem occ_one (l x : List Nat) (hi : Nat) : ∀ (r : List Nat) (free : Nat), (∀ i ∈ r, free ≤ i) →
    (forIn r ((#[] : Array Nat), free) (occBody (tx l) (tx x) hi 1)).run.fst.toList = (r.find? (mAt l x hi)).toList
  | [], free, _ => by simp
  | a :: r, free, hf => by
    rw [List.forIn_cons, List.find?_cons]
    have ha : free ≤ a := hf a (List.mem_cons_self ..)
    cases hm : mAt l x hi a with
    | true =>
      unfold mAt at hm
      rw [Bool.and_eq_true, decide_eq_true_iff] at hm
      have c : (((#[] : Array Nat), free).fst.size < 1 ∧ ((#[] : Array Nat), free).snd ≤ a) ∧ a + (tx x).length ≤ hi := ⟨⟨by simp, ha⟩, by rw [tx_len]; exact hm.1⟩
      have e : occBody (tx l) (tx x) hi 1 a ((#[] : Array Nat), free) = pure (ForInStep.yield ((#[] : Array Nat).push a, a + (tx x).length)) := by
        unfold occBody
        rw [if_pos ⟨c, by rw [subAt_tx]; exact hm.2⟩]
      rw [e]
      show (forIn r ((#[] : Array Nat).push a, a + (tx x).length) (occBody (tx l) (tx x) hi 1)).run.fst.toList = _
      rw [occ_full _ _ _ _ _ (by simp)]
      simp
    | false =>
      have e : occBody (tx l) (tx x) hi 1 a ((#[] : Array Nat), free) = pure (ForInStep.yield ((#[] : Array Nat), free)) := by
        unfold occBody
        rw [if_neg]
        intro z
        rw [subAt_tx] at z
        unfold mAt at hm
        have z1 : a + x.length ≤ hi := by have := z.1.2; rw [tx_len] at this; exact this
        rw [z.2, decide_eq_true z1] at hm
        cases hm
      rw [e]
      exact occ_one l x hi r free fun i hi' => hf i (List.mem_cons_of_mem _ hi')
theorem occ_fst (l x : List Nat) (lo hi : Nat) : occurrences (tx l) (tx x) lo hi 1 = (fstAt l x lo hi).toList := by
  rw [occ_eq]
  exact occ_one l x hi _ lo fun i h => by
    have := List.mem_range'.mp h
    omega
def intAt : Option Nat → Int
  | some i => (i : Int)
  | none => -1
theorem find_2 {l x : List Nat} : findD [.str (tx l), .str (tx x)] = some (false, .int (intAt (fstAt l x 0 l.length))) := by
  simp only [findD, Txt.find, occ_fst, tx_len]
  cases fstAt l x 0 l.length <;> rfl
theorem find_3 {l x : List Nat} {i : Int} (h : 0 ≤ i) : findD [.str (tx l), .str (tx x), .int i] = some (false, .int (intAt (fstAt l x i.toNat l.length))) := by
  have e : fromIndex l.length i = i.toNat := by
    unfold fromIndex
    rw [if_neg (by omega)]
    omega
  simp only [findD, Txt.find3, occ_fst, tx_len, e]
  cases fstAt l x i.toNat l.length <;> rfl
theorem find_4 {l x : List Nat} {i j : Int} (h : 0 ≤ i) (h' : 0 ≤ j) : findD [.str (tx l), .str (tx x), .int i, .int j] = some (false, .int (intAt (fstAt l x i.toNat (min j.toNat l.length)))) := by
  have e : fromIndex l.length i = i.toNat := by
    unfold fromIndex
    rw [if_neg (by omega)]
    omega
  have e2 : toIndexW l.length j = min j.toNat l.length := by
    unfold toIndexW
    rw [if_neg (by omega)]
    congr 1
    omega
  simp only [findD, Txt.findIn, occ_fst, tx_len, e, e2]
  cases fstAt l x i.toNat (min j.toNat l.length) <;> rfl
theorem fstAt_some {l x : List Nat} {lo hi i : Nat} (h : fstAt l x lo hi = some i) : lo ≤ i ∧ i + x.length ≤ hi ∧ mAt l x hi i = true ∧ ∀ j, lo ≤ j → j < i → mAt l x hi j = false := by
  unfold fstAt at h
  rw [List.find?_eq_some_iff_append] at h
  obtain ⟨hm, as, bs, e, hf⟩ := h
  have hi' : i ∈ List.range' lo (hi + 1 - lo) := by rw [e]; simp
  have h1 := List.mem_range'_1.mp hi'
  have h2 := hm
  unfold mAt at h2
  rw [Bool.and_eq_true, decide_eq_true_iff] at h2
  refine ⟨h1.1, h2.1, hm, fun j h3 h4 => ?_⟩
  have hj : j ∈ List.range' lo (hi + 1 - lo) := List.mem_range'_1.mpr ⟨h3, by omega⟩
  rw [e] at hj
  rcases List.mem_append.mp hj with z | z
  · simpa using hf j z
  · have pw : (List.range' lo (hi + 1 - lo)).Pairwise (· < ·) := List.pairwise_lt_range'
    rw [e] at pw
    have := (List.pairwise_append.mp pw).2.1
    rcases List.mem_cons.mp z with rfl | z
    · omega
    · have := List.rel_of_pairwise_cons this z
      omega
theorem fstAt_none {l x : List Nat} {lo hi : Nat} (h : fstAt l x lo hi = none) (j : Nat) (hj : lo ≤ j) : mAt l x hi j = false := by
  by_cases h1 : j ≤ hi
  · unfold fstAt at h
    rw [List.find?_eq_none] at h
    have := h j (List.mem_range'_1.mpr ⟨hj, by omega⟩)
    simpa using this
  · unfold mAt
    rw [decide_eq_false (by omega)]
    rfl
/-- the places at which x stands -/
def placesT (l x : List Nat) : List Nat := (List.range (l.length + 1)).filter (mAt l x l.length)
theorem filt_ext {p : Nat → Bool} : ∀ {a b : Nat}, a ≤ b → (∀ i, a ≤ i → i < b → p i = false) → (List.range b).filter p = (List.range a).filter p
  | a, b, h, hp => by
    obtain ⟨c, rfl⟩ := Nat.exists_eq_add_of_le h
    induction c with
    | zero => rfl
    | succ c ih =>
      rw [← Nat.add_assoc, List.range_succ, List.filter_append, ih (by omega) fun i h1 h2 => hp i h1 (by omega)]
      simp [hp (a + c) (by omega) (by omega)]
theorem inS_tx {l x : List Nat} : inS (tx x) (tx l) = (fstAt l x 0 l.length).isSome := by
  unfold inS
  rw [tx_len, occ_fst]
  cases fstAt l x 0 l.length <;> rfl
theorem in_tx {l x : List Nat} {n : Bool} : inUD n [.str (tx x), .str (tx l)] = some (false, .bl ((fstAt l x 0 l.length).isSome != n)) := by
  show some (false, D.bl (inS (tx x) (tx l) != n)) = _
  rw [inS_tx]
end PyD.S

end

namespace PyD.S
open PySem PySem.Spec L2
/-! pins_of_rows: slots 0 rows 1 sizes 2 text 3 found* 4 row 5 place 6 letter 7 item 8 there -/
def b_pins_of_rows : En → Fl :=
  (seqF (asV 1 (callF [false] phi_sizes_of (consF (nmF 0) nilF)))
  (seqF (asV 2 (callF [false] phi_text_of_rows (consF (nmF 0) nilF)))
  (seqF (endF [false, false, true] (asO 3 (lcF (itA itD (one (opF sortsetXD (consF (nmF 2) nilF)))) (gNm 6) yesT (bmF isStr indexD (nmF 2) (consF (nmF 6) nilF)) [6])))
  (seqF (endF [false, true, false, false, true, true] (frF (itA zipMD (consF (nmF 0) (consF (callF [false] phi_first_met (consF (nmF 0) nilF)) nilF))) (gTp [4, 5]) (endF [false, false, false, false, true, true] (ifS (tstB (opF (isOp true) (two (nmF 5) (cF .non)))) (drF (mutF true 3 isLst extM (consF (lcF (itA itD (one (slF slD (callF [false, false, false] phi_item_places (consF (nmF 4) (consF (nmF 5) (consF (nmF 1) nilF)))) (some (cF (.int 1))) none))) (gTp [7, 8]) yesT (opF subD (two (nmF 8) (cF (.int 1)))) [7, 8]) nilF))) skF))))
  (rtF (opF tupleD (consF (opF sortsetD (consF (nmF 3) nilF)) nilF)))))))
def phi_pins_of_rows : List D → Out := runF [false] 8 b_pins_of_rows
end PyD.S

section
set_option maxHeartbeats 8000000
namespace PyD.S
open PySem PySem.Spec L2 PyD.S
local macro_rules | `(tactic| walk_at "ev") => `(tactic| simp -dsimp -implicitDefEqProofs only [is_nn, is_in, is_sn, is_tn, is_ln, is_bn, os_endA, os_endO, os_endG, os_endP, os_endD, os_endS, os_endFr, os_endWh, os_bod, endK_nx, endK_rt, endK_bk, endK_ct, endK_exc, bodK_nx, bodK_rt, bodK_bk, bodK_ct, bodK_exc, frM_t, frM_f, frM_n, wpM_t, wpM_f, wpM_n, ok_c, ok_nm, nmK_v, nmK_o, ok_mv, mvK_v, mvK_o, ok_dm, dmK_v, dmK_o, ok_nil, ok_cons, ok_one, ok_two, ok_op, ok_tstB, ok_tstF, ok_not, bi_true, bi_false, bi_dec, bj_true, bj_false, bj_not, bi_not_dec, ok_and, ok_or, ok_ifF, ok_andF, ok_orF, ok_notF, ok_tup, ok_lst, ok_dic, ok_bm, intR_int, ok_prtN, ok_prtS, ok_sl, callK_ret, ok_call, ok_itA, ok_lc, ok_ch, ok_mut, mutG, shK_sh, shK2_sh, ordB, ownK_o, os_sk, os_bk, os_ct, seqK_nx, seqK_rt, seqK_bk, seqK_ct, seqK_exc, os_seq, os_dr, os_rt, vK_sh, vK_fr, os_asV, os_asO, os_asG, os_asP, os_st, oK_fr, ok_gNm, ok_gTp, ok_gNms0, ok_gNms1, os_fr, ok_run, defK_nx, defK_sh, defK_fr, loopK_nx, loopK_ct, loopK_bk, loopK_rt, okL_some, okL_map, okL_if, okL_ifo, rsls, rsl, stos, stoD, mkR, blD, free_eq, frS_e, frS_v, frS_o, nxK_nx, List.getElem?_cons_zero, List.getElem?_cons_succ, List.set_cons_zero, List.set_cons_succ, List.length_cons, List.length_nil, Nat.zero_add, Nat.reduceAdd, mkE, slIn, List.replicate, List.cons_append, List.nil_append, outsOf, pick, lentOk, nodupB, slotsOf, borrows, putBack, resFlat, add_tx, add_lst, add_tup, add_int, sub_int, mulV_int, mod_int, fdv_int, pow_int, neg_int, eq_int, eqOp_eq, ne_false, ne_true, tx_list, len_tx, len_lst, len_tup, len_scr, len_dic, ix_lst, ix_tup, ix_tx, ix_scr, at_0, at_1, at_2, set_lst, app_lst, ixN_30, ixN_31, ixN_32, ixN_20, ixN_21, ixN_10, sl_tx, sl_lst, sl_tup, sl_scr, true_and, and_true, ordD, Bool.not_false, Bool.not_true, Bool.and_true, Bool.true_and, Bool.or_true, Bool.true_or, List.elem, Bool.false_eq_true, if_true, if_false, isLst, isStr, isDic, int_bl, int_int, list_lst, list_tup, list_scr, tuple_lst, tuple_tup, max2_int, min2_int, isi_int, isi_bl, isi_str, isi_tup, isi_lst, isi_non, isi_dic, ty_ii, ty_ib, ty_is, ty_it, ty_il, ty_bi, ty_bb, ty_bs, ty_bt, ty_bL, ty_si, ty_sb, ty_ss, ty_st, ty_sl, ty_ti, ty_tb, ty_ts, ty_tt, ty_tl, ty_li, ty_lb, ty_ls, ty_lt, ty_ll, ty_ni, ty_nb, ty_ns, ty_nt, ty_nl, rg1, rg2, rg3, it_lst, it_tup, it_scr, it_str, enum_lst, zip_lst, zip_tup, rev_lst, rev_tup, tru_int, tru_bl, tru_lst, tru_tup, wipeE, resE, List.all_cons, List.all_nil, Bool.and_eq_true, dtx, yesT_ok, and_self])
local macro_rules | `(tactic| walk_at "evi") => `(tactic| simp -dsimp -implicitDefEqProofs only [os_if, os_endIf, is_nn, is_in, is_sn, is_tn, is_ln, is_bn, os_endA, os_endO, os_endG, os_endP, os_endD, os_endS, os_endFr, os_endWh, os_bod, endK_nx, endK_rt, endK_bk, endK_ct, endK_exc, bodK_nx, bodK_rt, bodK_bk, bodK_ct, bodK_exc, frM_t, frM_f, frM_n, wpM_t, wpM_f, wpM_n, ok_c, ok_nm, nmK_v, nmK_o, ok_mv, mvK_v, mvK_o, ok_dm, dmK_v, dmK_o, ok_nil, ok_cons, ok_one, ok_two, ok_op, ok_tstB, ok_tstF, ok_not, bi_true, bi_false, bi_dec, bj_true, bj_false, bj_not, bi_not_dec, ok_and, ok_or, ok_ifF, ok_andF, ok_orF, ok_notF, ok_tup, ok_lst, ok_dic, ok_bm, intR_int, ok_prtN, ok_prtS, ok_sl, callK_ret, ok_call, ok_itA, ok_lc, ok_ch, ok_mut, mutG, shK_sh, shK2_sh, ordB, ownK_o, os_sk, os_bk, os_ct, seqK_nx, seqK_rt, seqK_bk, seqK_ct, seqK_exc, os_seq, os_dr, os_rt, vK_sh, vK_fr, os_asV, os_asO, os_asG, os_asP, os_st, oK_fr, ok_gNm, ok_gTp, ok_gNms0, ok_gNms1, os_fr, ok_run, defK_nx, defK_sh, defK_fr, loopK_nx, loopK_ct, loopK_bk, loopK_rt, okL_some, okL_map, okL_if, okL_ifo, rsls, rsl, stos, stoD, mkR, blD, free_eq, frS_e, frS_v, frS_o, nxK_nx, List.getElem?_cons_zero, List.getElem?_cons_succ, List.set_cons_zero, List.set_cons_succ, List.length_cons, List.length_nil, Nat.zero_add, Nat.reduceAdd, mkE, slIn, List.replicate, List.cons_append, List.nil_append, outsOf, pick, lentOk, nodupB, slotsOf, borrows, putBack, resFlat, add_tx, add_lst, add_tup, add_int, sub_int, mulV_int, mod_int, fdv_int, pow_int, neg_int, eq_int, eqOp_eq, ne_false, ne_true, tx_list, len_tx, len_lst, len_tup, len_scr, len_dic, ix_lst, ix_tup, ix_tx, ix_scr, at_0, at_1, at_2, set_lst, app_lst, ixN_30, ixN_31, ixN_32, ixN_20, ixN_21, ixN_10, sl_tx, sl_lst, sl_tup, sl_scr, true_and, and_true, ordD, Bool.not_false, Bool.not_true, Bool.and_true, Bool.true_and, Bool.or_true, Bool.true_or, List.elem, Bool.false_eq_true, if_true, if_false, isLst, isStr, isDic, int_bl, int_int, list_lst, list_tup, list_scr, tuple_lst, tuple_tup, max2_int, min2_int, isi_int, isi_bl, isi_str, isi_tup, isi_lst, isi_non, isi_dic, ty_ii, ty_ib, ty_is, ty_it, ty_il, ty_bi, ty_bb, ty_bs, ty_bt, ty_bL, ty_si, ty_sb, ty_ss, ty_st, ty_sl, ty_ti, ty_tb, ty_ts, ty_tt, ty_tl, ty_li, ty_lb, ty_ls, ty_lt, ty_ll, ty_ni, ty_nb, ty_ns, ty_nt, ty_nl, rg1, rg2, rg3, it_lst, it_tup, it_scr, it_str, enum_lst, zip_lst, zip_tup, rev_lst, rev_tup, tru_int, tru_bl, tru_lst, tru_tup, wipeE, resE, List.all_cons, List.all_nil, Bool.and_eq_true, dtx, yesT_ok, and_self])
local macro_rules | `(tactic| walk_at "eva") => `(tactic| simp -dsimp -implicitDefEqProofs only [is_nn, is_in, is_sn, is_tn, is_ln, is_bn, os_endA, os_endO, os_endG, os_endP, os_endD, os_endS, os_endFr, os_endWh, os_bod, endK_nx, endK_rt, endK_bk, endK_ct, endK_exc, bodK_nx, bodK_rt, bodK_bk, bodK_ct, bodK_exc, frM_t, frM_f, frM_n, wpM_t, wpM_f, wpM_n, ok_c, ok_nm, nmK_v, nmK_o, ok_mv, mvK_v, mvK_o, ok_dm, dmK_v, dmK_o, ok_nil, ok_cons, ok_one, ok_two, ok_op, ok_tstB, ok_tstF, ok_not, bi_true, bi_false, bi_dec, bj_true, bj_false, bj_not, bi_not_dec, ok_and, ok_or, ok_notF, ok_tup, ok_lst, ok_dic, ok_bm, intR_int, ok_prtN, ok_prtS, ok_sl, callK_ret, ok_call, ok_itA, ok_lc, ok_ch, ok_mut, mutG, shK_sh, shK2_sh, ordB, ownK_o, os_sk, os_bk, os_ct, seqK_nx, seqK_rt, seqK_bk, seqK_ct, seqK_exc, os_seq, os_dr, os_rt, vK_sh, vK_fr, os_asV, os_asO, os_asG, os_asP, os_st, oK_fr, ok_gNm, ok_gTp, ok_gNms0, ok_gNms1, os_fr, ok_run, defK_nx, defK_sh, defK_fr, loopK_nx, loopK_ct, loopK_bk, loopK_rt, okL_some, okL_map, okL_if, okL_ifo, rsls, rsl, stos, stoD, mkR, blD, free_eq, frS_e, frS_v, frS_o, nxK_nx, List.getElem?_cons_zero, List.getElem?_cons_succ, List.set_cons_zero, List.set_cons_succ, List.length_cons, List.length_nil, Nat.zero_add, Nat.reduceAdd, mkE, slIn, List.replicate, List.cons_append, List.nil_append, outsOf, pick, lentOk, nodupB, slotsOf, borrows, putBack, resFlat, add_tx, add_lst, add_tup, add_int, sub_int, mulV_int, mod_int, fdv_int, pow_int, neg_int, eq_int, eqOp_eq, ne_false, ne_true, tx_list, len_tx, len_lst, len_tup, len_scr, len_dic, ix_lst, ix_tup, ix_tx, ix_scr, at_0, at_1, at_2, set_lst, app_lst, ixN_30, ixN_31, ixN_32, ixN_20, ixN_21, ixN_10, sl_tx, sl_lst, sl_tup, sl_scr, true_and, and_true, ordD, Bool.not_false, Bool.not_true, Bool.and_true, Bool.true_and, Bool.or_true, Bool.true_or, List.elem, Bool.false_eq_true, if_true, if_false, isLst, isStr, isDic, int_bl, int_int, list_lst, list_tup, list_scr, tuple_lst, tuple_tup, max2_int, min2_int, isi_int, isi_bl, isi_str, isi_tup, isi_lst, isi_non, isi_dic, ty_ii, ty_ib, ty_is, ty_it, ty_il, ty_bi, ty_bb, ty_bs, ty_bt, ty_bL, ty_si, ty_sb, ty_ss, ty_st, ty_sl, ty_ti, ty_tb, ty_ts, ty_tt, ty_tl, ty_li, ty_lb, ty_ls, ty_lt, ty_ll, ty_ni, ty_nb, ty_ns, ty_nt, ty_nl, rg1, rg2, rg3, it_lst, it_tup, it_scr, it_str, enum_lst, zip_lst, zip_tup, rev_lst, rev_tup, tru_int, tru_bl, tru_lst, tru_tup, wipeE, resE, List.all_cons, List.all_nil, Bool.and_eq_true, dtx, yesT_ok, and_self])
local macro_rules | `(tactic| walk_at "sd") => `(tactic| repeat (refine And.intro (by first | omega | assumption | exact rfl) ?_))
local macro_rules | `(tactic| walk_at "sc") => `(tactic| first | assumption | omega | exact rfl | exact mulOk_r (by omega) (by omega) | exact mulOk_l (by omega) (by omega) | exact log_ok (by omega) (by omega) | (simp only [List.length_append, List.length_cons, List.length_nil, List.length_take, List.length_drop, List.length_map, List.length_replicate, upL_len]; omega) | (refine And.intro ?_ ?_ <;> walk_at "sc") | decide)
set_option hygiene false in
local macro_rules | `(tactic| walk_at "lm") => `(tactic| first
  | ((with_reducible refine take_ok ?_ ?_ ?_ fun p r hp hr0 hr1 => ?_); (focus assumption); (focus omega); (focus omega))
  | ((with_reducible refine pick_ok ?_ ?_ ?_ fun p r hp hr0 hr1 => ?_); (focus assumption); (focus omega); (focus omega))
  | ((with_reducible refine pick2_ok ?_ ?_ ?_ fun p r hp hr0 hr1 => ?_); (focus assumption); (focus omega); (focus omega))
  | ((with_reducible refine letter_ok ?_ ?_ ?_ fun p c hp hc => ?_); (focus assumption); (focus omega); (focus omega))
  | ((with_reducible refine signs_ok ?_ ?_ ?_ ?_ ?_ fun p l hp hl hc => ?_); (focus assumption); (focus omega); (focus omega); (focus omega); (focus omega))
  | ((with_reducible refine text_ok ?_ ?_ ?_ fun p l hp hl hc => ?_); (focus assumption); (focus omega); (focus omega))
  | ((with_reducible refine rtext_ok ?_ ?_ ?_ fun p l hp hl hc => ?_); (focus assumption); (focus omega); (focus omega))
  | ((with_reducible refine rtext2_ok ?_ ?_ ?_ fun p l hp hl hc => ?_); (focus assumption); (focus omega); (focus omega))
  | (with_reducible refine whole_ok ?_))
local macro_rules | `(tactic| walk_at "ok") => `(tactic| first | assumption | exact okT_nil | exact Lts.ok (by assumption) | decide)
local macro_rules | `(tactic| walk_at "g0") => `(tactic| first
  | ((with_reducible refine And.intro ?_ ?_); (focus walk_at "sc"))
  | walk_at "lm"
  | ((with_reducible refine okL_eqtx ?_ ?_ ?_); (focus walk_at "ok"); (focus walk_at "ok"))
  | ((with_reducible refine bj_t ?_ ?_); (focus (first | with_reducible rfl | omega)))
  | ((with_reducible refine bj_f ?_ ?_); (focus omega)))
local macro_rules | `(tactic| walk_at "g1") => `(tactic| first
  | walk_at "ev"
  | walk_at "g0")
local macro_rules | `(tactic| walk_at "g2") => `(tactic| first
  | walk_at "evi"
  | walk_at "g0")
local macro_rules | `(tactic| walk_at "go") => `(tactic| repeat walk_at "g1")
local macro_rules | `(tactic| walk_at "goi") => `(tactic| repeat walk_at "g2")
local macro_rules | `(tactic| walk_at "goa") => `(tactic| repeat first | walk_at "eva" | walk_at "g0")
theorem index_tx {l : T} {c i : Nat} (h : fstAt l [c] 0 l.length = some i) : indexD [.str (tx l), .str (tx [c])] = some (false, .int (i : Nat)) := by
  have e := occ_fst l [c] 0 l.length
  rw [h] at e
  show (match Builtin.Str.occurrences (tx l) (tx [c]) 0 (tx l).length 1 with
    | i :: _ => some (false, D.int (i : Nat))
    | [] => none) = _
  rw [tx_len, e]
  rfl
theorem fst_mem {l : T} {c : Nat} (h : c ∈ l) : ∃ i, fstAt l [c] 0 l.length = some i := by
  cases e : fstAt l [c] 0 l.length with
  | some i => exact ⟨i, rfl⟩
  | none =>
    obtain ⟨j, hj⟩ := List.mem_iff_getElem?.mp h
    have := fstAt_none e j (Nat.zero_le _)
    have hjl := (List.getElem?_eq_some_iff.mp hj).1
    exfalso
    revert this
    unfold mAt
    simp
    refine ⟨by omega, ?_⟩
    apply List.ext_getElem?
    intro q
    rw [List.getElem?_drop, List.getElem?_take]
    cases q with
    | zero =>
      rw [if_pos (by omega), Nat.add_zero, hj]
      rfl
    | succ q =>
      rw [if_neg (by omega)]
      simp
def frst (l : T) (c : Nat) : Nat := (fstAt l [c] 0 l.length).getD 0
theorem index_frst {l : T} {c : Nat} (h : c ∈ l) : indexD [.str (tx l), .str (tx [c])] = some (false, .int (frst l c : Nat)) := by
  obtain ⟨i, hi⟩ := fst_mem h
  rw [index_tx hi]
  unfold frst
  rw [hi]
  rfl
theorem tsort_mem {l : T} {c : Nat} (h : c ∈ tsort l) : c ∈ l := by
  unfold tsort at h
  exact dedS_mem.mp ((List.mergeSort_perm _ _).mem_iff.mp h)
theorem tsort_len {l : T} : (tsort l).length ≤ l.length := by
  unfold tsort
  rw [List.length_mergeSort]
  exact dedS_le l
/-- the pins that come of one row, where it is met -/
def rowP (acc : List Nat) (x : List It × Option Nat) : List Int :=
  match x.2 with
  | none => []
  | some p => ((plcs acc p x.1).drop 1).map fun y => (y.2 : Int) - 1
theorem zip_map : ∀ (Rs : List (List It)) (fs : List (Option Nat)), zipL (Rs.map dRow) (fs.map dMO) = (Rs.zip fs).map fun x => D.tup [dRow x.1, dMO x.2]
  | [], fs => by cases fs <;> rfl
  | r :: Rs, [] => rfl
  | r :: Rs, f :: fs => by
    rw [List.zip_cons_cons, List.map_cons, List.map_cons, List.map_cons, ← zip_map Rs fs]
    rfl
theorem rowP_len {acc : List Nat} {Rs : List (List It)} (h : ∀ row ∈ Rs, 1 ≤ row.length ∧ row.length ≤ 12) : ∀ (zs : List (List It × Option Nat)), (∀ x ∈ zs, x.1 ∈ Rs) → (zs.flatMap (rowP acc)).length ≤ 12 * zs.length
  | [], _ => Nat.zero_le _
  | x :: zs, hx => by
    have h1 := rowP_len (acc := acc) h zs fun y hy => hx y (List.mem_cons_of_mem _ hy)
    have h2 := h x.1 (hx x List.mem_cons_self)
    have h3 : (rowP acc x).length ≤ 12 := by
      unfold rowP
      split
      · exact Nat.zero_le _
      · rw [List.length_map, List.length_drop, plcs_len]
        omega
    rw [List.flatMap_cons, List.length_append, List.length_cons]
    omega
theorem pinsrows_ok {Rs : List (List It)} {l : T} {k : Out → Prop} (hl : l = (txs Rs).getLastD []) (hl3 : l.length ≤ 300) (hne : Rs ≠ []) (hN : Rs.length ≤ 100) (hwf : WF Rs) (hln : LN Rs) (hsz : SZ Rs) (h : k (.ret false (.tup ((ssort ((tsort l).map (fun c => (frst l c : Int)) ++ (Rs.zip (fmet Rs)).flatMap (rowP (szs Rs)))).map D.int)) [.tup (Rs.map dRow)])) : okO (phi_pins_of_rows [.tup (Rs.map dRow)]) k := by
  unfold phi_pins_of_rows b_pins_of_rows
  have hml : (Rs.map dRow).length = Rs.length := List.length_map _
  have hszl : (szs Rs).length = Rs.length := bld_len
  walk_at "go"
  with_reducible refine sizes_ok (Rs := Rs) rfl hwf hln hsz ?_
  walk_at "go"
  with_reducible refine textrows_ok (Rs := Rs) rfl hne hwf hln hsz ?_
  rw [← hl, show dtx l = D.str (tx l) from rfl]
  walk_at "go"
  with_reducible refine okL_of (ssX_tx (by omega)) ?_
  have htl := tsort_len (l := l)
  have htm : ((tsort l).map fun c => D.str (tx [c])).length = (tsort l).length := List.length_map _
  walk_at "go"
  refine ok_lcY (fun acc en => acc = ((tsort l).take acc.length).map (fun c => D.int (frst l c : Nat)) ∧ en = [.v (.tup (Rs.map dRow)), .v (.lst ((szs Rs).map dNat)), .v (.str (tx l)), .e, .e, .e, .e, .e, .e]) ⟨rfl, rfl⟩ (by omega) ?_ ?_
  · rintro i d hd acc en hi ⟨ha, rfl⟩
    rw [List.getElem?_map] at hd
    obtain ⟨c, hc, rfl⟩ := Option.map_eq_some_iff.mp hd
    subst hi
    have hcl := tsort_mem (List.mem_of_getElem? hc)
    walk_at "go"
    with_reducible refine okL_of (index_frst hcl) ?_
    walk_at "go"
    rw [List.length_append, List.length_singleton, List.take_succ, hc, List.map_append, ← ha]
    rfl
  rintro acc en hlen ⟨ha, rfl⟩
  rw [hlen, htm, List.take_length] at ha
  subst ha
  clear hlen
  walk_at "go"
  have hfl : (fmet Rs).length = Rs.length := fsN_len
  with_reducible refine firstmet_ok hne hwf hln hsz ?_
  walk_at "go"
  have ez : zipMD [.tup (Rs.map dRow), .lst ((fmet Rs).map dMO)] = some (zipL (Rs.map dRow) ((fmet Rs).map dMO)) := rfl
  rw [zip_map] at ez
  with_reducible refine okL_of ez ?_
  clear ez
  refine os_ix (fun i en => en = [.v (.tup (Rs.map dRow)), .v (.lst ((szs Rs).map dNat)), .e, .o false (.lst (((tsort l).map (fun c => (frst l c : Int)) ++ ((Rs.zip (fmet Rs)).take i).flatMap (rowP (szs Rs))).map D.int)), .e, .e, .e, .e, .e]) ?_ ?_ ?_
  · rw [List.take_zero, List.flatMap_nil, List.append_nil, List.map_map]
    rfl
  · rintro i d hd en rfl
    rw [List.getElem?_map] at hd
    obtain ⟨⟨row, o⟩, hx, rfl⟩ := Option.map_eq_some_iff.mp hd
    have hi := (List.getElem?_eq_some_iff.mp hx).1
    rw [List.length_zip] at hi
    have hrow : row ∈ Rs := (List.of_mem_zip (List.mem_of_getElem? hx)).1
    have hrl := hln.2 row hrow
    have e : (Rs.zip (fmet Rs)).take (i + 1) = (Rs.zip (fmet Rs)).take i ++ [(row, o)] := by
      rw [List.take_succ, hx]
      rfl
    have hfb := rowP_len (acc := szs Rs) hln.2 ((Rs.zip (fmet Rs)).take i) (fun x hx => (List.of_mem_zip (List.mem_of_mem_take hx)).1)
    rw [List.length_take] at hfb
    have hNl := hln.1
    have hrn := (List.mem_iff_getElem?.mp hrow)
    rw [e, List.flatMap_append, ← List.append_assoc]
    generalize hpre : (tsort l).map (fun c => (frst l c : Int)) ++ ((Rs.zip (fmet Rs)).take i).flatMap (rowP (szs Rs)) = pre
    have hprel : pre.length ≤ 300 + 12 * 1000 := by
      rw [← hpre, List.length_append, List.length_map]
      omega
    cases o with
    | none =>
      rw [show ([(row, none)] : List (List It × Option Nat)).flatMap (rowP (szs Rs)) = [] from rfl, List.append_nil, show dMO none = D.non from rfl]
      walk_at "goi"
    | some p =>
      rw [show ([(row, some p)] : List (List It × Option Nat)).flatMap (rowP (szs Rs)) = (((plcs (szs Rs) p row).drop 1).map fun y => (y.2 : Int) - 1) by simp [rowP], show dMO (some p) = D.int (p : Nat) from rfl]
      walk_at "goi"
      rw [show dRow row = .tup (row.map dI) from rfl]
      with_reducible refine itemplaces_ok (by omega) (fun it hit => ?_) ?_
      · obtain ⟨n, hn⟩ := hrn
        have hnl := (List.getElem?_eq_some_iff.mp hn).1
        have := hwf n row hn it hit
        cases it with
        | c x => trivial
        | r j =>
          have hj : j < n := this
          show j < (szs Rs).length
          omega
      walk_at "goi"
      rw [cut_from (by omega), ← List.map_drop, show ((1 : Int)).toNat = 1 from rfl]
      have hpl : (plcs (szs Rs) p row).length = row.length := plcs_len
      have hdl : ((plcs (szs Rs) p row).drop 1).length ≤ 12 := by rw [List.length_drop]; omega
      generalize (plcs (szs Rs) p row).drop 1 = xs at hdl
      have hxm : (xs.map dIP).length = xs.length := List.length_map _
      walk_at "go"
      refine ok_lcY (fun acc en => acc = ((xs.take acc.length).map fun y => (y.2 : Int) - 1).map D.int ∧ en = [.v (.tup (Rs.map dRow)), .v (.lst ((szs Rs).map dNat)), .e, .o false (.lst (pre.map D.int)), .v (.tup (row.map dI)), .v (.int p), .e, .e, .e]) ⟨rfl, rfl⟩ (by omega) ?_ ?_
      · rintro q d hd acc en hq ⟨ha, rfl⟩
        rw [List.getElem?_map] at hd
        obtain ⟨⟨it, pl⟩, hx2, rfl⟩ := Option.map_eq_some_iff.mp hd
        subst hq
        rw [show dIP (it, pl) = .tup [dI it, .int (pl : Nat)] from rfl]
        walk_at "go"
        rw [List.length_append, List.length_singleton, List.take_succ, hx2, List.map_append, List.map_append, ← ha]
        rfl
      rintro acc en hlen ⟨ha, rfl⟩
      rw [hlen, hxm, List.take_length] at ha
      subst ha
      walk_at "go"
      have ee : extM (.lst (pre.map D.int)) [.lst ((xs.map fun y => (y.2 : Int) - 1).map D.int)] = some (.lst ((pre ++ xs.map fun y => (y.2 : Int) - 1).map D.int), .non) := by
        rw [extM, if_pos (by simp only [List.length_map]; omega), List.map_append]
      with_reducible refine okL_of ee ?_
      walk_at "go"
  · rintro en rfl
    have hfb := rowP_len (acc := szs Rs) hln.2 (Rs.zip (fmet Rs)) (fun x hx => (List.of_mem_zip hx).1)
    rw [List.length_zip] at hfb
    have hzl : ((Rs.zip (fmet Rs)).map fun x => D.tup [dRow x.1, dMO x.2]).length = (Rs.zip (fmet Rs)).length := List.length_map _
    rw [hzl, List.take_length]
    walk_at "go"
    with_reducible refine okL_of (ss_lst (asInts_map _) ?_) ?_
    · rw [List.length_append, List.length_map]
      omega
    walk_at "go"
    exact h
end PyD.S

end

section
set_option maxHeartbeats 8000000
namespace PyD.S
open PySem PySem.Spec L2 PyD.S
local macro_rules | `(tactic| walk_at "ev") => `(tactic| simp -dsimp -implicitDefEqProofs only [loopK_exc, os_rs, rsOK_sh, os_rsO, goneK_nx, goneK_rt, tryK_nx, tryK_rt, tryK_exc, os_try, os_endTr, exD_none, exD_some, exF_none, exF_some, callK_exc, defK_exc, isx_non, isxT_non, isv_non, okL_isx, okL_isxT, okL_isv, okL_fld, is_xn, subX, reduceCtorEq, decide_true, decide_false, Bool.or_self, Bool.or_false, Bool.false_or, List.any_cons, List.any_nil, is_nn, is_in, is_sn, is_tn, is_ln, is_bn, os_endA, os_endO, os_endG, os_endP, os_endD, os_endS, os_endFr, os_endWh, os_bod, endK_nx, endK_rt, endK_bk, endK_ct, endK_exc, bodK_nx, bodK_rt, bodK_bk, bodK_ct, bodK_exc, frM_t, frM_f, frM_n, wpM_t, wpM_f, wpM_n, ok_c, ok_nm, nmK_v, nmK_o, ok_mv, mvK_v, mvK_o, ok_dm, dmK_v, dmK_o, ok_nil, ok_cons, ok_one, ok_two, ok_op, ok_tstB, ok_tstF, ok_not, bi_true, bi_false, bi_dec, bj_true, bj_false, bj_not, bi_not_dec, ok_and, ok_or, ok_ifF, ok_andF, ok_orF, ok_notF, ok_tup, ok_lst, ok_dic, ok_bm, intR_int, ok_prtN, ok_prtS, ok_sl, callK_ret, ok_call, ok_itA, ok_lc, ok_ch, ok_mut, mutG, shK_sh, shK2_sh, ordB, ownK_o, os_sk, os_bk, os_ct, seqK_nx, seqK_rt, seqK_bk, seqK_ct, seqK_exc, os_seq, os_dr, os_rt, vK_sh, vK_fr, os_asV, os_asO, os_asG, os_asP, os_st, oK_fr, ok_gNm, ok_gTp, ok_gNms0, ok_gNms1, os_fr, ok_run, defK_nx, defK_sh, defK_fr, loopK_nx, loopK_ct, loopK_bk, loopK_rt, okL_some, okL_map, okL_if, okL_ifo, rsls, rsl, stos, stoD, mkR, blD, free_eq, frS_e, frS_v, frS_o, nxK_nx, List.getElem?_cons_zero, List.getElem?_cons_succ, List.set_cons_zero, List.set_cons_succ, List.length_cons, List.length_nil, Nat.zero_add, Nat.reduceAdd, mkE, slIn, List.replicate, List.cons_append, List.nil_append, outsOf, pick, lentOk, nodupB, slotsOf, borrows, putBack, resFlat, add_tx, add_lst, add_tup, add_int, sub_int, mulV_int, mod_int, fdv_int, pow_int, neg_int, eq_int, eqOp_eq, ne_false, ne_true, tx_list, len_tx, len_lst, len_tup, len_scr, len_dic, ix_lst, ix_tup, ix_tx, ix_scr, at_0, at_1, at_2, set_lst, app_lst, ixN_30, ixN_31, ixN_32, ixN_20, ixN_21, ixN_10, sl_tx, sl_lst, sl_tup, sl_scr, true_and, and_true, ordD, Bool.not_false, Bool.not_true, Bool.and_true, Bool.true_and, Bool.or_true, Bool.true_or, List.elem, Bool.false_eq_true, if_true, if_false, isLst, isStr, isDic, int_bl, int_int, list_lst, list_tup, list_scr, tuple_lst, tuple_tup, max2_int, min2_int, isi_int, isi_bl, isi_str, isi_tup, isi_lst, isi_non, isi_dic, ty_ii, ty_ib, ty_is, ty_it, ty_il, ty_bi, ty_bb, ty_bs, ty_bt, ty_bL, ty_si, ty_sb, ty_ss, ty_st, ty_sl, ty_ti, ty_tb, ty_ts, ty_tt, ty_tl, ty_li, ty_lb, ty_ls, ty_lt, ty_ll, ty_ni, ty_nb, ty_ns, ty_nt, ty_nl, rg1, rg2, rg3, it_lst, it_tup, it_scr, it_str, enum_lst, zip_lst, zip_tup, rev_lst, rev_tup, tru_int, tru_bl, tru_lst, tru_tup, wipeE, resE, List.all_cons, List.all_nil, Bool.and_eq_true, dtx, yesT_ok, and_self])
local macro_rules | `(tactic| walk_at "evi") => `(tactic| simp -dsimp -implicitDefEqProofs only [loopK_exc, os_rs, rsOK_sh, os_rsO, goneK_nx, goneK_rt, tryK_nx, tryK_rt, tryK_exc, os_try, os_endTr, exD_none, exD_some, exF_none, exF_some, callK_exc, defK_exc, isx_non, isxT_non, isv_non, okL_isx, okL_isxT, okL_isv, okL_fld, is_xn, subX, reduceCtorEq, decide_true, decide_false, Bool.or_self, Bool.or_false, Bool.false_or, List.any_cons, List.any_nil, os_if, os_endIf, is_nn, is_in, is_sn, is_tn, is_ln, is_bn, os_endA, os_endO, os_endG, os_endP, os_endD, os_endS, os_endFr, os_endWh, os_bod, endK_nx, endK_rt, endK_bk, endK_ct, endK_exc, bodK_nx, bodK_rt, bodK_bk, bodK_ct, bodK_exc, frM_t, frM_f, frM_n, wpM_t, wpM_f, wpM_n, ok_c, ok_nm, nmK_v, nmK_o, ok_mv, mvK_v, mvK_o, ok_dm, dmK_v, dmK_o, ok_nil, ok_cons, ok_one, ok_two, ok_op, ok_tstB, ok_tstF, ok_not, bi_true, bi_false, bi_dec, bj_true, bj_false, bj_not, bi_not_dec, ok_and, ok_or, ok_ifF, ok_andF, ok_orF, ok_notF, ok_tup, ok_lst, ok_dic, ok_bm, intR_int, ok_prtN, ok_prtS, ok_sl, callK_ret, ok_call, ok_itA, ok_lc, ok_ch, ok_mut, mutG, shK_sh, shK2_sh, ordB, ownK_o, os_sk, os_bk, os_ct, seqK_nx, seqK_rt, seqK_bk, seqK_ct, seqK_exc, os_seq, os_dr, os_rt, vK_sh, vK_fr, os_asV, os_asO, os_asG, os_asP, os_st, oK_fr, ok_gNm, ok_gTp, ok_gNms0, ok_gNms1, os_fr, ok_run, defK_nx, defK_sh, defK_fr, loopK_nx, loopK_ct, loopK_bk, loopK_rt, okL_some, okL_map, okL_if, okL_ifo, rsls, rsl, stos, stoD, mkR, blD, free_eq, frS_e, frS_v, frS_o, nxK_nx, List.getElem?_cons_zero, List.getElem?_cons_succ, List.set_cons_zero, List.set_cons_succ, List.length_cons, List.length_nil, Nat.zero_add, Nat.reduceAdd, mkE, slIn, List.replicate, List.cons_append, List.nil_append, outsOf, pick, lentOk, nodupB, slotsOf, borrows, putBack, resFlat, add_tx, add_lst, add_tup, add_int, sub_int, mulV_int, mod_int, fdv_int, pow_int, neg_int, eq_int, eqOp_eq, ne_false, ne_true, tx_list, len_tx, len_lst, len_tup, len_scr, len_dic, ix_lst, ix_tup, ix_tx, ix_scr, at_0, at_1, at_2, set_lst, app_lst, ixN_30, ixN_31, ixN_32, ixN_20, ixN_21, ixN_10, sl_tx, sl_lst, sl_tup, sl_scr, true_and, and_true, ordD, Bool.not_false, Bool.not_true, Bool.and_true, Bool.true_and, Bool.or_true, Bool.true_or, List.elem, Bool.false_eq_true, if_true, if_false, isLst, isStr, isDic, int_bl, int_int, list_lst, list_tup, list_scr, tuple_lst, tuple_tup, max2_int, min2_int, isi_int, isi_bl, isi_str, isi_tup, isi_lst, isi_non, isi_dic, ty_ii, ty_ib, ty_is, ty_it, ty_il, ty_bi, ty_bb, ty_bs, ty_bt, ty_bL, ty_si, ty_sb, ty_ss, ty_st, ty_sl, ty_ti, ty_tb, ty_ts, ty_tt, ty_tl, ty_li, ty_lb, ty_ls, ty_lt, ty_ll, ty_ni, ty_nb, ty_ns, ty_nt, ty_nl, rg1, rg2, rg3, it_lst, it_tup, it_scr, it_str, enum_lst, zip_lst, zip_tup, rev_lst, rev_tup, tru_int, tru_bl, tru_lst, tru_tup, wipeE, resE, List.all_cons, List.all_nil, Bool.and_eq_true, dtx, yesT_ok, and_self])
local macro_rules | `(tactic| walk_at "eva") => `(tactic| simp -dsimp -implicitDefEqProofs only [loopK_exc, os_rs, rsOK_sh, os_rsO, goneK_nx, goneK_rt, tryK_nx, tryK_rt, tryK_exc, os_try, os_endTr, exD_none, exD_some, exF_none, exF_some, callK_exc, defK_exc, isx_non, isxT_non, isv_non, okL_isx, okL_isxT, okL_isv, okL_fld, is_xn, subX, reduceCtorEq, decide_true, decide_false, Bool.or_self, Bool.or_false, Bool.false_or, List.any_cons, List.any_nil, is_nn, is_in, is_sn, is_tn, is_ln, is_bn, os_endA, os_endO, os_endG, os_endP, os_endD, os_endS, os_endFr, os_endWh, os_bod, endK_nx, endK_rt, endK_bk, endK_ct, endK_exc, bodK_nx, bodK_rt, bodK_bk, bodK_ct, bodK_exc, frM_t, frM_f, frM_n, wpM_t, wpM_f, wpM_n, ok_c, ok_nm, nmK_v, nmK_o, ok_mv, mvK_v, mvK_o, ok_dm, dmK_v, dmK_o, ok_nil, ok_cons, ok_one, ok_two, ok_op, ok_tstB, ok_tstF, ok_not, bi_true, bi_false, bi_dec, bj_true, bj_false, bj_not, bi_not_dec, ok_and, ok_or, ok_notF, ok_tup, ok_lst, ok_dic, ok_bm, intR_int, ok_prtN, ok_prtS, ok_sl, callK_ret, ok_call, ok_itA, ok_lc, ok_ch, ok_mut, mutG, shK_sh, shK2_sh, ordB, ownK_o, os_sk, os_bk, os_ct, seqK_nx, seqK_rt, seqK_bk, seqK_ct, seqK_exc, os_seq, os_dr, os_rt, vK_sh, vK_fr, os_asV, os_asO, os_asG, os_asP, os_st, oK_fr, ok_gNm, ok_gTp, ok_gNms0, ok_gNms1, os_fr, ok_run, defK_nx, defK_sh, defK_fr, loopK_nx, loopK_ct, loopK_bk, loopK_rt, okL_some, okL_map, okL_if, okL_ifo, rsls, rsl, stos, stoD, mkR, blD, free_eq, frS_e, frS_v, frS_o, nxK_nx, List.getElem?_cons_zero, List.getElem?_cons_succ, List.set_cons_zero, List.set_cons_succ, List.length_cons, List.length_nil, Nat.zero_add, Nat.reduceAdd, mkE, slIn, List.replicate, List.cons_append, List.nil_append, outsOf, pick, lentOk, nodupB, slotsOf, borrows, putBack, resFlat, add_tx, add_lst, add_tup, add_int, sub_int, mulV_int, mod_int, fdv_int, pow_int, neg_int, eq_int, eqOp_eq, ne_false, ne_true, tx_list, len_tx, len_lst, len_tup, len_scr, len_dic, ix_lst, ix_tup, ix_tx, ix_scr, at_0, at_1, at_2, set_lst, app_lst, ixN_30, ixN_31, ixN_32, ixN_20, ixN_21, ixN_10, sl_tx, sl_lst, sl_tup, sl_scr, true_and, and_true, ordD, Bool.not_false, Bool.not_true, Bool.and_true, Bool.true_and, Bool.or_true, Bool.true_or, List.elem, Bool.false_eq_true, if_true, if_false, isLst, isStr, isDic, int_bl, int_int, list_lst, list_tup, list_scr, tuple_lst, tuple_tup, max2_int, min2_int, isi_int, isi_bl, isi_str, isi_tup, isi_lst, isi_non, isi_dic, ty_ii, ty_ib, ty_is, ty_it, ty_il, ty_bi, ty_bb, ty_bs, ty_bt, ty_bL, ty_si, ty_sb, ty_ss, ty_st, ty_sl, ty_ti, ty_tb, ty_ts, ty_tt, ty_tl, ty_li, ty_lb, ty_ls, ty_lt, ty_ll, ty_ni, ty_nb, ty_ns, ty_nt, ty_nl, rg1, rg2, rg3, it_lst, it_tup, it_scr, it_str, enum_lst, zip_lst, zip_tup, rev_lst, rev_tup, tru_int, tru_bl, tru_lst, tru_tup, wipeE, resE, List.all_cons, List.all_nil, Bool.and_eq_true, dtx, yesT_ok, and_self])
local macro_rules | `(tactic| walk_at "sd") => `(tactic| repeat (refine And.intro (by first | omega | assumption | exact rfl) ?_))
local macro_rules | `(tactic| walk_at "sc") => `(tactic| first | assumption | omega | exact rfl | exact mulOk_r (by omega) (by omega) | exact mulOk_l (by omega) (by omega) | exact log_ok (by omega) (by omega) | (simp only [List.length_append, List.length_cons, List.length_nil, List.length_take, List.length_drop, List.length_map, List.length_replicate, upL_len]; omega) | (refine And.intro ?_ ?_ <;> walk_at "sc") | decide)
set_option hygiene false in
local macro_rules | `(tactic| walk_at "lm") => `(tactic| first
  | ((with_reducible refine take_ok ?_ ?_ ?_ fun p r hp hr0 hr1 => ?_); (focus assumption); (focus omega); (focus omega))
  | ((with_reducible refine pick_ok ?_ ?_ ?_ fun p r hp hr0 hr1 => ?_); (focus assumption); (focus omega); (focus omega))
  | ((with_reducible refine pick2_ok ?_ ?_ ?_ fun p r hp hr0 hr1 => ?_); (focus assumption); (focus omega); (focus omega))
  | ((with_reducible refine letter_ok ?_ ?_ ?_ fun p c hp hc => ?_); (focus assumption); (focus omega); (focus omega))
  | ((with_reducible refine signs_ok ?_ ?_ ?_ ?_ ?_ fun p l hp hl hc => ?_); (focus assumption); (focus omega); (focus omega); (focus omega); (focus omega))
  | ((with_reducible refine text_ok ?_ ?_ ?_ fun p l hp hl hc => ?_); (focus assumption); (focus omega); (focus omega))
  | ((with_reducible refine rtext_ok ?_ ?_ ?_ fun p l hp hl hc => ?_); (focus assumption); (focus omega); (focus omega))
  | ((with_reducible refine rtext2_ok ?_ ?_ ?_ fun p l hp hl hc => ?_); (focus assumption); (focus omega); (focus omega))
  | (with_reducible refine whole_ok ?_))
local macro_rules | `(tactic| walk_at "ok") => `(tactic| first | assumption | exact okT_nil | exact Lts.ok (by assumption) | decide)
local macro_rules | `(tactic| walk_at "g0") => `(tactic| first
  | ((with_reducible refine And.intro ?_ ?_); (focus walk_at "sc"))
  | walk_at "lm"
  | ((with_reducible refine okL_eqtx ?_ ?_ ?_); (focus walk_at "ok"); (focus walk_at "ok"))
  | ((with_reducible refine bj_t ?_ ?_); (focus (first | with_reducible rfl | omega)))
  | ((with_reducible refine bj_f ?_ ?_); (focus omega)))
local macro_rules | `(tactic| walk_at "g1") => `(tactic| first
  | walk_at "ev"
  | walk_at "g0")
local macro_rules | `(tactic| walk_at "g2") => `(tactic| first
  | walk_at "evi"
  | walk_at "g0")
local macro_rules | `(tactic| walk_at "go") => `(tactic| repeat walk_at "g1")
local macro_rules | `(tactic| walk_at "goi") => `(tactic| repeat walk_at "g2")
local macro_rules | `(tactic| walk_at "goa") => `(tactic| repeat first | walk_at "eva" | walk_at "g0")
theorem sz_le : leO phi_sizes_of phi_sizes_of_v2 := by
  unfold phi_sizes_of phi_sizes_of_v2 b_sizes_of b_sizes_of_v2
  exact leO_run (leF_seq leF_refl (leF_seq (leF_end (leF_fr (leF_seq leF_refl (leF_end (leF_if leF_bad leF_refl))))) leF_refl))
theorem tr_le : leO phi_text_of_rows phi_text_of_rows_v2 := by
  unfold phi_text_of_rows phi_text_of_rows_v2 b_text_of_rows b_text_of_rows_v2
  exact leO_run (leF_seq (leF_dr (leE_call sz_le)) leF_refl)
theorem fmr_le : leO phi_first_met phi_first_met_v2 := by
  unfold phi_first_met phi_first_met_v2 b_first_met b_first_met_v2
  exact leO_run (leF_seq (leF_asV (leE_call sz_le)) leF_refl)
theorem pr_le : leO phi_pins_of_rows phi_pins_of_rows_v2 := by
  unfold phi_pins_of_rows phi_pins_of_rows_v2 b_pins_of_rows b_pins_of_rows_v2
  exact leO_run (leF_seq (leF_asV (leE_call sz_le)) (leF_seq (leF_asV (leE_call tr_le)) (leF_seq leF_refl (leF_seq (leF_end (leF_fri (leE_itA (leE_cons leE_refl (leE_cons (leE_call fmr_le) leE_refl))) leF_refl)) leF_refl))))
/-- rows one of which is too long -/
theorem toolong_ok {Rs : List (List It)} {rws : D} {k : Out → Prop} (hit : itD [rws] = some (Rs.map dRow)) (hwf : WF Rs) (hln : LN Rs) (hsz : ¬ SZ Rs) (h : k (.exc ⟨.many, none⟩ [rws])) : okO (phi_sizes_of_v2 [rws]) k := by
  unfold phi_sizes_of_v2 b_sizes_of_v2
  walk_at "go"
  refine okL_of hit ?_
  refine os_ix (fun i en => en = [.v rws, .o false (.lst ((szs (Rs.take i)).map dNat)), .e, .e] ∧ ∀ s ∈ szs (Rs.take i), s ≤ 300) ⟨rfl, by simp [szs, bld]⟩ ?_ ?_
  · rintro i d hd en ⟨rfl, hall⟩
    rw [List.getElem?_map] at hd
    obtain ⟨row, hrow, rfl⟩ := Option.map_eq_some_iff.mp hd
    have hil := (List.getElem?_eq_some_iff.mp hrow).1
    have hrl := hln.2 row (List.mem_of_getElem? hrow)
    have hsl : (szs (Rs.take i)).length = i := by unfold szs; rw [bld_len, List.length_take]; omega
    have hnext : szs (Rs.take (i + 1)) = szs (Rs.take i) ++ [rowS (szs (Rs.take i)) row] := bld_take hrow
    unfold dRow
    walk_at "go"
    refine ok_lcY (fun acc en => acc = ((row.take acc.length).map (szI (szs (Rs.take i)))).map dNat ∧ en = [.v rws, .o false (.lst ((szs (Rs.take i)).map dNat)), .v (.tup (row.map dI)), .e]) ⟨rfl, rfl⟩ ?_ ?_ ?_
    · rw [List.length_map]; omega
    · rintro q d hd acc en hq ⟨ha, rfl⟩
      rw [List.getElem?_map] at hd
      obtain ⟨it, hit, rfl⟩ := Option.map_eq_some_iff.mp hd
      subst hq
      have e : row.take (acc.length + 1) = row.take acc.length ++ [it] := by
        rw [List.take_succ, hit]
        rfl
      have hw := hwf i row hrow it (List.mem_of_getElem? hit)
      have fin : ∀ z : D, z = dNat (szI (szs (Rs.take i)) it) → acc ++ [z] = ((row.take (acc ++ [z]).length).map (szI (szs (Rs.take i)))).map dNat := fun z hz => by
        rw [List.length_append, List.length_singleton, e, List.map_append, List.map_append, ← ha, hz]
        rfl
      cases it with
      | c x =>
        simp -dsimp -implicitDefEqProofs (disch := omega) only [dI_c]
        walk_at "goi"
        exact fin _ rfl
      | r j =>
        simp -dsimp -implicitDefEqProofs (disch := omega) only [dI_r]
        walk_at "goi"
        refine okL_of (szs_at (show j < i from hw) (by omega)) ?_
        walk_at "goi"
        exact fin _ rfl
    rintro acc en hlen ⟨ha, rfl⟩
    rw [List.length_map] at hlen
    rw [hlen, List.take_length] at ha
    subst ha
    walk_at "goi"
    refine okL_of sum_nats ?_
    have hll := hln.1
    generalize hrs : (row.map (szI (szs (Rs.take i)))).sum = rs
    have hrs2 : rowS (szs (Rs.take i)) row = rs := hrs
    walk_at "goi"
    refine okL_of lastI ?_
    walk_at "goi"
    refine bj_mk (fun h1 => ?_) (fun h1 => ?_)
    · walk_at "goi"
      exact h
    · walk_at "goi"
      refine ⟨?_, ?_⟩
      · rw [hnext, List.map_append, hrs2]
        rfl
      · rw [hnext, hrs2]
        intro s hs
        rcases List.mem_append.mp hs with hs | hs
        · exact hall s hs
        · rw [List.mem_singleton.mp hs]
          omega
  · rintro en ⟨rfl, hall⟩
    rw [List.length_map, List.take_length] at hall
    exact absurd hall hsz
theorem last_len {Rs : List (List It)} {l : T} (hs : SZ Rs) (hl : l = (txs Rs).getLastD []) : l.length ≤ 300 := by
  rw [hl, List.getLastD_eq_getLast?]
  cases e : (txs Rs).getLast? with
  | none => exact Nat.zero_le _
  | some t =>
    refine hs _ ?_
    rw [← txs_lens]
    exact List.mem_map.mpr ⟨t, List.mem_of_getLast? e, rfl⟩
def Rws (Rs : List (List It)) : D := .tup (Rs.map dRow)
/-- what the law asks of rows, by each of three ways -/
theorem word_ok {Rs : List (List It)} {w : Nat} {k : Out → Prop} (hw : w < 3) (hne : Rs ≠ []) (hN : Rs.length ≤ 100) (hwf : WF Rs) (hln : LN Rs) (h0 : SZ Rs → k (.ret false (.str (tx [])) [.int w, Rws Rs])) (h1 : ¬ SZ Rs → k (.ret false (.str (tx [109, 97, 110, 121])) [.int w, Rws Rs])) : okO (phi_lword_v2 [.int w, Rws Rs]) k := by
  unfold Rws at *
  unfold phi_lword_v2 b_lword_v2
  by_cases hs : SZ Rs
  · have h0 := h0 hs
    obtain ⟨l, hl⟩ : ∃ l, l = (txs Rs).getLastD [] := ⟨_, rfl⟩
    have hl3 : l.length ≤ 300 := last_len hs hl
    walk_at "goi"
    obtain rfl | rfl | rfl : w = 0 ∨ w = 1 ∨ w = 2 := by omega
    · walk_at "goi"
      refine okO_le tr_le (textrows_ok (Rs := Rs) rfl hne hwf hln hs ?_)
      walk_at "goi"
      exact h0
    · walk_at "goi"
      refine okO_le fmr_le (firstmet_ok hne hwf hln hs ?_)
      walk_at "goi"
      exact h0
    · walk_at "goi"
      refine okO_le pr_le (pinsrows_ok hl hl3 hne hN hwf hln hs ?_)
      walk_at "goi"
      exact h0
  · have h1 := h1 hs
    walk_at "goi"
    obtain rfl | rfl | rfl : w = 0 ∨ w = 1 ∨ w = 2 := by omega
    · walk_at "goi"
      unfold phi_text_of_rows_v2 b_text_of_rows_v2
      walk_at "goi"
      refine toolong_ok (Rs := Rs) rfl hwf hln hs ?_
      walk_at "goi"
      exact h1
    · walk_at "goi"
      unfold phi_first_met_v2 b_first_met_v2
      walk_at "goi"
      refine toolong_ok (Rs := Rs) rfl hwf hln hs ?_
      walk_at "goi"
      exact h1
    · walk_at "goi"
      unfold phi_pins_of_rows_v2 b_pins_of_rows_v2
      walk_at "goi"
      refine toolong_ok (Rs := Rs) rfl hwf hln hs ?_
      walk_at "goi"
      exact h1
end PyD.S

end

namespace PyD.S
open PySem PySem.Spec L2
/-! _law_signs: slots 0 pen* 1 size 2 many 3 k -/
def b_lsigns : En → Fl :=
  (rtF (bmF isStr joinD (cF (.str (tx []))) (consF (lcF (itA rg1D (consF (nmF 2) nilF)) (gNm 3) yesT (callF [true, false] phi_lletter (consF (nmF 0) (consF (nmF 1) nilF))) [3]) nilF)))
def phi_lsigns : List D → Out := runF [true, false, false] 1 b_lsigns
end PyD.S

namespace PyD.S
open PySem PySem.Spec L2
/-! _law_text: slots 0 pen* 1 most 2 many 3 size 4 way 5 text 6 at -/
def b_ltext : En → Fl :=
  (seqF (asV 2 (callF [true, false] phi_ltake (consF (nmF 0) (consF (opF addD (two (nmF 1) (cF (.int 1)))) nilF))))
  (seqF (asV 3 (opF ixUD (two (lstF (consF (cF (.int 1)) (consF (cF (.int 2)) (consF (cF (.int 2)) (consF (cF (.int 3)) (consF (cF (.int 5)) (consF (cF (.int 26)) nilF))))))) (callF [true, false] phi_ltake (consF (nmF 0) (consF (cF (.int 6)) nilF))))))
  (seqF (asV 4 (callF [true, false] phi_ltake (consF (nmF 0) (consF (cF (.int 5)) nilF))))
  (seqF (ifS (tstB (opF ltD (two (nmF 4) (cF (.int 2))))) (rtF (callF [true, false, false] phi_lsigns (consF (nmF 0) (consF (nmF 3) (consF (nmF 2) nilF))))) skF)
  (seqF (asV 5 (callF [true, false, false] phi_lsigns (consF (nmF 0) (consF (nmF 3) (consF (opF addD (two (cF (.int 1)) (callF [true, false] phi_ltake (consF (nmF 0) (consF (cF (.int 5)) nilF))))) nilF)))))
  (seqF (endF [false, false, false, true, true] (whF (tstB (opF ltD (two (opF lenD (consF (nmF 5) nilF)) (nmF 2)))) (ifS (tstB (opF (eqOp false) (two (nmF 4) (cF (.int 2))))) (asV 5 (opF addD (two (nmF 5) (nmF 5)))) (endF [false, false, false, false, false, false, true] (ifS (tstB (opF (eqOp false) (two (nmF 4) (cF (.int 3))))) (seqF (asV 6 (callF [true, false] phi_ltake (consF (nmF 0) (consF (opF lenD (consF (nmF 5) nilF)) nilF))))
  (asV 5 (opF addD (two (nmF 5) (slF slD (nmF 5) (some (nmF 6)) (some (opF addD (two (opF addD (two (nmF 6) (cF (.int 1)))) (callF [true, false] phi_ltake (consF (nmF 0) (consF (opF lenD (consF (nmF 5) nilF)) nilF))))))))))) (asV 5 (opF addD (two (opF addD (two (nmF 5) (slF slD (nmF 5) none (some (opF addD (two (cF (.int 1)) (callF [true, false] phi_ltake (consF (nmF 0) (consF (opF lenD (consF (nmF 5) nilF)) nilF))))))))) (callF [true, false] phi_lletter (consF (nmF 0) (consF (nmF 3) nilF))))))))) 100000))
  (seqF (asV 5 (slF slD (nmF 5) none (some (nmF 2))))
  (seqF (endF [false, false, true, false, false, false, true] (ifS (andT (tstB (opF (eqOp true) (two (nmF 5) (cF (.str (tx [])))))) (tstB (opF (eqOp false) (two (callF [true, false] phi_ltake (consF (nmF 0) (consF (cF (.int 3)) nilF))) (cF (.int 0)))))) (seqF (asV 6 (callF [true, false] phi_ltake (consF (nmF 0) (consF (opF lenD (consF (nmF 5) nilF)) nilF))))
  (asV 5 (opF addD (two (opF addD (two (slF slD (nmF 5) none (some (nmF 6))) (callF [true, false] phi_lletter (consF (nmF 0) (consF (cF (.int 26)) nilF))))) (slF slD (nmF 5) (some (opF addD (two (nmF 6) (cF (.int 1))))) none))))) skF))
  (rtF (nmF 5))))))))))
def phi_ltext : List D → Out := runF [true, false] 5 b_ltext
end PyD.S

section
set_option maxHeartbeats 2000000
namespace PyD.S
open PySem PySem.Spec L2 PyD.S
def pen (ns : List Int) (at' rest : Int) : D := .lst [.lst (ns.map .int), .int at', .int rest]
def Pen (d : D) : Prop := ∃ ns at' rest, 0 ≤ at' ∧ d = pen ns at' rest
local macro_rules | `(tactic| walk_at "ev") => `(tactic| simp -dsimp -implicitDefEqProofs only [is_nn, is_in, is_sn, is_tn, is_ln, is_bn, os_endA, os_endO, os_endG, os_endP, os_endD, os_endS, os_endFr, os_endWh, os_bod, endK_nx, endK_rt, endK_bk, endK_ct, endK_exc, bodK_nx, bodK_rt, bodK_bk, bodK_ct, bodK_exc, frM_t, frM_f, frM_n, wpM_t, wpM_f, wpM_n, ok_c, ok_nm, nmK_v, nmK_o, ok_mv, mvK_v, mvK_o, ok_dm, dmK_v, dmK_o, ok_nil, ok_cons, ok_one, ok_two, ok_op, ok_tstB, ok_tstF, ok_not, bi_true, bi_false, bi_dec, bj_true, bj_false, bj_not, bi_not_dec, ok_and, ok_or, ok_ifF, ok_andF, ok_orF, ok_notF, ok_tup, ok_lst, ok_dic, ok_bm, intR_int, ok_prtN, ok_prtS, ok_sl, callK_ret, ok_call, ok_itA, ok_lc, ok_ch, ok_mut, mutG, shK_sh, shK2_sh, ordB, ownK_o, os_sk, os_bk, os_ct, seqK_nx, seqK_rt, seqK_bk, seqK_ct, seqK_exc, os_seq, os_dr, os_rt, vK_sh, vK_fr, os_asV, os_asO, os_asG, os_asP, os_st, oK_fr, ok_gNm, ok_gTp, ok_gNms0, ok_gNms1, os_fr, ok_run, defK_nx, defK_sh, defK_fr, loopK_nx, loopK_ct, loopK_bk, loopK_rt, okL_some, okL_map, okL_if, okL_ifo, rsls, rsl, stos, stoD, mkR, blD, free_eq, frS_e, frS_v, frS_o, nxK_nx, List.getElem?_cons_zero, List.getElem?_cons_succ, List.set_cons_zero, List.set_cons_succ, List.length_cons, List.length_nil, Nat.zero_add, Nat.reduceAdd, mkE, slIn, List.replicate, List.cons_append, List.nil_append, outsOf, pick, lentOk, nodupB, slotsOf, borrows, putBack, resFlat, add_tx, add_lst, add_tup, add_int, sub_int, mulV_int, mod_int, fdv_int, pow_int, neg_int, eq_int, eqOp_eq, ne_false, ne_true, tx_list, len_tx, len_lst, len_tup, len_scr, len_dic, ix_lst, ix_tup, ix_tx, ix_scr, at_0, at_1, at_2, set_lst, app_lst, ixN_30, ixN_31, ixN_32, ixN_20, ixN_21, ixN_10, sl_tx, sl_lst, sl_tup, sl_scr, true_and, and_true, ordD, Bool.not_false, Bool.not_true, Bool.and_true, Bool.true_and, Bool.or_true, Bool.true_or, List.elem, Bool.false_eq_true, if_true, if_false, isLst, isStr, isDic, int_bl, int_int, list_lst, list_tup, list_scr, tuple_lst, tuple_tup, max2_int, min2_int, isi_int, isi_bl, isi_str, isi_tup, isi_lst, isi_non, isi_dic, ty_ii, ty_ib, ty_is, ty_it, ty_il, ty_bi, ty_bb, ty_bs, ty_bt, ty_bL, ty_si, ty_sb, ty_ss, ty_st, ty_sl, ty_ti, ty_tb, ty_ts, ty_tt, ty_tl, ty_li, ty_lb, ty_ls, ty_lt, ty_ll, ty_ni, ty_nb, ty_ns, ty_nt, ty_nl, rg1, rg2, rg3, it_lst, it_tup, it_scr, it_str, enum_lst, zip_lst, zip_tup, rev_lst, rev_tup, tru_int, tru_bl, tru_lst, tru_tup, wipeE, resE, List.all_cons, List.all_nil, Bool.and_eq_true, dtx, yesT_ok, and_self])
local macro_rules | `(tactic| walk_at "evi") => `(tactic| simp -dsimp -implicitDefEqProofs only [os_if, os_endIf, is_nn, is_in, is_sn, is_tn, is_ln, is_bn, os_endA, os_endO, os_endG, os_endP, os_endD, os_endS, os_endFr, os_endWh, os_bod, endK_nx, endK_rt, endK_bk, endK_ct, endK_exc, bodK_nx, bodK_rt, bodK_bk, bodK_ct, bodK_exc, frM_t, frM_f, frM_n, wpM_t, wpM_f, wpM_n, ok_c, ok_nm, nmK_v, nmK_o, ok_mv, mvK_v, mvK_o, ok_dm, dmK_v, dmK_o, ok_nil, ok_cons, ok_one, ok_two, ok_op, ok_tstB, ok_tstF, ok_not, bi_true, bi_false, bi_dec, bj_true, bj_false, bj_not, bi_not_dec, ok_and, ok_or, ok_ifF, ok_andF, ok_orF, ok_notF, ok_tup, ok_lst, ok_dic, ok_bm, intR_int, ok_prtN, ok_prtS, ok_sl, callK_ret, ok_call, ok_itA, ok_lc, ok_ch, ok_mut, mutG, shK_sh, shK2_sh, ordB, ownK_o, os_sk, os_bk, os_ct, seqK_nx, seqK_rt, seqK_bk, seqK_ct, seqK_exc, os_seq, os_dr, os_rt, vK_sh, vK_fr, os_asV, os_asO, os_asG, os_asP, os_st, oK_fr, ok_gNm, ok_gTp, ok_gNms0, ok_gNms1, os_fr, ok_run, defK_nx, defK_sh, defK_fr, loopK_nx, loopK_ct, loopK_bk, loopK_rt, okL_some, okL_map, okL_if, okL_ifo, rsls, rsl, stos, stoD, mkR, blD, free_eq, frS_e, frS_v, frS_o, nxK_nx, List.getElem?_cons_zero, List.getElem?_cons_succ, List.set_cons_zero, List.set_cons_succ, List.length_cons, List.length_nil, Nat.zero_add, Nat.reduceAdd, mkE, slIn, List.replicate, List.cons_append, List.nil_append, outsOf, pick, lentOk, nodupB, slotsOf, borrows, putBack, resFlat, add_tx, add_lst, add_tup, add_int, sub_int, mulV_int, mod_int, fdv_int, pow_int, neg_int, eq_int, eqOp_eq, ne_false, ne_true, tx_list, len_tx, len_lst, len_tup, len_scr, len_dic, ix_lst, ix_tup, ix_tx, ix_scr, at_0, at_1, at_2, set_lst, app_lst, ixN_30, ixN_31, ixN_32, ixN_20, ixN_21, ixN_10, sl_tx, sl_lst, sl_tup, sl_scr, true_and, and_true, ordD, Bool.not_false, Bool.not_true, Bool.and_true, Bool.true_and, Bool.or_true, Bool.true_or, List.elem, Bool.false_eq_true, if_true, if_false, isLst, isStr, isDic, int_bl, int_int, list_lst, list_tup, list_scr, tuple_lst, tuple_tup, max2_int, min2_int, isi_int, isi_bl, isi_str, isi_tup, isi_lst, isi_non, isi_dic, ty_ii, ty_ib, ty_is, ty_it, ty_il, ty_bi, ty_bb, ty_bs, ty_bt, ty_bL, ty_si, ty_sb, ty_ss, ty_st, ty_sl, ty_ti, ty_tb, ty_ts, ty_tt, ty_tl, ty_li, ty_lb, ty_ls, ty_lt, ty_ll, ty_ni, ty_nb, ty_ns, ty_nt, ty_nl, rg1, rg2, rg3, it_lst, it_tup, it_scr, it_str, enum_lst, zip_lst, zip_tup, rev_lst, rev_tup, tru_int, tru_bl, tru_lst, tru_tup, wipeE, resE, List.all_cons, List.all_nil, Bool.and_eq_true, dtx, yesT_ok, and_self])
local macro_rules | `(tactic| walk_at "eva") => `(tactic| simp -dsimp -implicitDefEqProofs only [is_nn, is_in, is_sn, is_tn, is_ln, is_bn, os_endA, os_endO, os_endG, os_endP, os_endD, os_endS, os_endFr, os_endWh, os_bod, endK_nx, endK_rt, endK_bk, endK_ct, endK_exc, bodK_nx, bodK_rt, bodK_bk, bodK_ct, bodK_exc, frM_t, frM_f, frM_n, wpM_t, wpM_f, wpM_n, ok_c, ok_nm, nmK_v, nmK_o, ok_mv, mvK_v, mvK_o, ok_dm, dmK_v, dmK_o, ok_nil, ok_cons, ok_one, ok_two, ok_op, ok_tstB, ok_tstF, ok_not, bi_true, bi_false, bi_dec, bj_true, bj_false, bj_not, bi_not_dec, ok_and, ok_or, ok_notF, ok_tup, ok_lst, ok_dic, ok_bm, intR_int, ok_prtN, ok_prtS, ok_sl, callK_ret, ok_call, ok_itA, ok_lc, ok_ch, ok_mut, mutG, shK_sh, shK2_sh, ordB, ownK_o, os_sk, os_bk, os_ct, seqK_nx, seqK_rt, seqK_bk, seqK_ct, seqK_exc, os_seq, os_dr, os_rt, vK_sh, vK_fr, os_asV, os_asO, os_asG, os_asP, os_st, oK_fr, ok_gNm, ok_gTp, ok_gNms0, ok_gNms1, os_fr, ok_run, defK_nx, defK_sh, defK_fr, loopK_nx, loopK_ct, loopK_bk, loopK_rt, okL_some, okL_map, okL_if, okL_ifo, rsls, rsl, stos, stoD, mkR, blD, free_eq, frS_e, frS_v, frS_o, nxK_nx, List.getElem?_cons_zero, List.getElem?_cons_succ, List.set_cons_zero, List.set_cons_succ, List.length_cons, List.length_nil, Nat.zero_add, Nat.reduceAdd, mkE, slIn, List.replicate, List.cons_append, List.nil_append, outsOf, pick, lentOk, nodupB, slotsOf, borrows, putBack, resFlat, add_tx, add_lst, add_tup, add_int, sub_int, mulV_int, mod_int, fdv_int, pow_int, neg_int, eq_int, eqOp_eq, ne_false, ne_true, tx_list, len_tx, len_lst, len_tup, len_scr, len_dic, ix_lst, ix_tup, ix_tx, ix_scr, at_0, at_1, at_2, set_lst, app_lst, ixN_30, ixN_31, ixN_32, ixN_20, ixN_21, ixN_10, sl_tx, sl_lst, sl_tup, sl_scr, true_and, and_true, ordD, Bool.not_false, Bool.not_true, Bool.and_true, Bool.true_and, Bool.or_true, Bool.true_or, List.elem, Bool.false_eq_true, if_true, if_false, isLst, isStr, isDic, int_bl, int_int, list_lst, list_tup, list_scr, tuple_lst, tuple_tup, max2_int, min2_int, isi_int, isi_bl, isi_str, isi_tup, isi_lst, isi_non, isi_dic, ty_ii, ty_ib, ty_is, ty_it, ty_il, ty_bi, ty_bb, ty_bs, ty_bt, ty_bL, ty_si, ty_sb, ty_ss, ty_st, ty_sl, ty_ti, ty_tb, ty_ts, ty_tt, ty_tl, ty_li, ty_lb, ty_ls, ty_lt, ty_ll, ty_ni, ty_nb, ty_ns, ty_nt, ty_nl, rg1, rg2, rg3, it_lst, it_tup, it_scr, it_str, enum_lst, zip_lst, zip_tup, rev_lst, rev_tup, tru_int, tru_bl, tru_lst, tru_tup, wipeE, resE, List.all_cons, List.all_nil, Bool.and_eq_true, dtx, yesT_ok, and_self])
local macro_rules | `(tactic| walk_at "sd") => `(tactic| repeat (refine And.intro (by first | omega | assumption | exact rfl) ?_))
local macro_rules | `(tactic| walk_at "sc") => `(tactic| first | assumption | omega | exact rfl | exact mulOk_r (by omega) (by omega) | exact mulOk_l (by omega) (by omega) | exact log_ok (by omega) (by omega) | (simp only [List.length_append, List.length_cons, List.length_nil, List.length_take, List.length_drop, List.length_map, List.length_replicate, upL_len]; omega) | (refine And.intro ?_ ?_ <;> walk_at "sc") | decide)
theorem take_ok {p : D} {m : Int} {k : Out → Prop} (hp : Pen p) (hm : 0 < m) (hm2 : m ≤ 1000000000) (h : ∀ p' r, Pen p' → 0 ≤ r → r < m → k (.ret false (.int r) [p', .int m])) : okO (phi_ltake [p, .int m]) k := by
  obtain ⟨ns, at', rest, h0, rfl⟩ := hp
  unfold phi_ltake b_ltake pen
  walk_at "ev"
  refine os_cut (fun en => ∃ ns at' rest s3 s4 s5 s6 s7, 0 ≤ at' ∧ en = [.o true (pen ns at' rest), .v (.int m), .e, s3, s4, s5, s6, s7]) ?_ ?_
  · walk_at "evi"
    refine bj_mk (fun hr => ?_) (fun _ => by walk_at "ev"; exact ⟨_, _, _, _, _, _, _, _, h0, rfl⟩)
    walk_at "ev"
    refine os_cut (fun en => ∃ cell, en = [.o true (pen ns (at' + 1) rest), .v (.int m), .e, .v (.int at'), .v (.int cell), .e, .e, .e]) ?_ ?_
    · walk_at "evi"
      refine bj_mk (fun hl => ?_) (fun hl => ?_)
      · walk_at "ev"
        refine okL_at h0 hl fun x hx => ?_
        obtain ⟨y, _, rfl⟩ : ∃ y, y ∈ ns ∧ D.int y = x := by simpa using List.mem_of_getElem? hx
        walk_at "ev"
        exact ⟨y, rfl⟩
      · walk_at "evi"
        refine bj_mk (fun hg => ?_) (fun hg => ?_)
        · walk_at "ev"
          refine ⟨mulOk_r (by omega) (by omega), by omega, ?_⟩
          refine okL_at (Int.emod_nonneg _ (by omega)) (Int.emod_lt_of_pos _ (by omega)) fun x hx => ?_
          obtain ⟨y, _, rfl⟩ : ∃ y, y ∈ ns ∧ D.int y = x := by simpa using List.mem_of_getElem? hx
          walk_at "ev"
          exact ⟨by omega, mulOk_l (by omega) (by omega), _, rfl⟩
        · walk_at "ev"
          exact ⟨_, rfl⟩
    · rintro en ⟨cell, rfl⟩
      unfold pen
      walk_at "evi"
      refine ⟨by omega, mulOk_l (by omega) (by omega), mulOk_r (by omega) (by omega), by omega, mulOk_m (by omega) (by omega), mulOk_l (by omega) (by omega), by omega, mulOk_m (by omega) (by omega), by omega, mulOk_m (by omega) (by omega), ⟨by omega, by decide⟩, ⟨by omega, by omega, by decide⟩, ?_⟩
      generalize (_ : Int) / 8 + 1 = r1
      have h10 : (10 : Int) ^ Int.toNat 18 = 1000000000000000000 := by decide +kernel
      refine bj_mk (fun hg => ?_) (fun hg => ?_)
      · walk_at "ev"
        refine ⟨⟨by omega, by omega, by decide⟩, ⟨by rw [h10]; omega, by rw [h10]; exact log_lit (by omega) (by omega)⟩, _, _, _, _, _, _, _, _, (show (0 : Int) ≤ at' + 1 by omega), rfl⟩
      · walk_at "ev"
        exact ⟨_, _, _, _, _, _, _, _, (show (0 : Int) ≤ at' + 1 by omega), rfl⟩
  · rintro en ⟨ns, at', rest, s3, s4, s5, s6, s7, h1, rfl⟩
    unfold pen
    walk_at "ev"
    refine ⟨hm, ⟨hm, log_ok hm (by omega)⟩, ?_⟩
    exact h _ _ ⟨_, _, _, h1, rfl⟩ (Int.emod_nonneg _ (by omega)) (Int.emod_lt_of_pos _ hm)
theorem letter_ok {p : D} {m : Int} {k : Out → Prop} (hp : Pen p) (hm : 0 < m) (hm2 : m ≤ 1000000000) (h : ∀ p' c, Pen p' → Lt c → k (.ret false (.str (tx [c])) [p', .int m])) : okO (phi_lletter [p, .int m]) k := by
  unfold phi_lletter b_lletter
  walk_at "ev"
  refine take_ok hp hm hm2 fun p' r hp' h0 h1 => ?_
  walk_at "ev"
  refine ⟨mulOk_r (by omega) (by omega), mulOk_l (by omega) (by omega), by omega, by decide, ?_⟩
  refine okL_atMem (Int.emod_nonneg _ (by omega)) (Int.emod_lt_of_pos _ (by decide)) fun c hc => ?_
  walk_at "ev"
  refine h p' c hp' ?_
  simp only [List.mem_cons, List.not_mem_nil, or_false] at hc
  unfold Lt
  omega
theorem signs_ok {p : D} {m n : Int} {k : Out → Prop} (hp : Pen p) (hm : 0 < m) (hm2 : m ≤ 1000000000) (hn : n ≤ 100000) (h0 : -1000000 ≤ n) (h : ∀ p' l, Pen p' → l.length = n.toNat → (∀ c ∈ l, Lt c) → k (.ret false (.str (tx l)) [p', .int m, .int n])) : okO (phi_lsigns [p, .int m, .int n]) k := by
  unfold phi_lsigns b_lsigns
  walk_at "ev"
  refine ⟨⟨by omega, by omega⟩, ?_⟩
  refine ok_lcY (fun acc en => ∃ p' ls, Pen p' ∧ acc = ls.map dtx ∧ (∀ l ∈ ls, ∃ c, l = [c] ∧ Lt c) ∧ en = [.o true p', .v (.int m), .v (.int n), .e]) ⟨p, [], hp, rfl, by simp, rfl⟩ (by rw [upL_len]; omega) ?_ ?_
  · rintro i d - acc en - ⟨p', ls, hp', rfl, hl, rfl⟩
    walk_at "ev"
    refine letter_ok hp' hm hm2 fun p2 c hp2 hc => ?_
    walk_at "ev"
    refine ⟨p2, ls ++ [[c]], hp2, by simp [dtx], ?_, rfl⟩
    intro l hl'
    rcases List.mem_append.mp hl' with z | z
    · exact hl l z
    · exact ⟨c, by simpa using z, hc⟩
  · rintro acc en hlen ⟨p', ls, hp', rfl, hl, rfl⟩
    have h1 : ∀ l ∈ ls, l.length = 1 := fun l z => by obtain ⟨c, rfl, _⟩ := hl l z; rfl
    have hlen : ls.length = n.toNat := by rw [upL_len] at hlen; simpa using hlen
    walk_at "ev"
    rw [join_lst, okL_if]
    refine ⟨by rw [sum_ones h1]; simp; omega, ?_⟩
    walk_at "ev"
    rw [joinL_nil]
    refine h p' _ hp' ?_ ?_
    · rw [List.length_flatten, sum_ones h1, hlen]
    · intro c hc
      obtain ⟨l, h2, h3⟩ := List.mem_flatten.mp hc
      obtain ⟨c', rfl, h4⟩ := hl l h2
      rw [List.mem_singleton.mp h3]
      exact h4
set_option hygiene false in
local macro_rules | `(tactic| walk_at "lm") => `(tactic| first
  | ((with_reducible refine take_ok ?_ ?_ ?_ fun p r hp hr0 hr1 => ?_); (focus assumption); (focus omega); (focus omega))
  | ((with_reducible refine pick_ok ?_ ?_ ?_ fun p r hp hr0 hr1 => ?_); (focus assumption); (focus omega); (focus omega))
  | ((with_reducible refine pick2_ok ?_ ?_ ?_ fun p r hp hr0 hr1 => ?_); (focus assumption); (focus omega); (focus omega))
  | ((with_reducible refine letter_ok ?_ ?_ ?_ fun p c hp hc => ?_); (focus assumption); (focus omega); (focus omega))
  | ((with_reducible refine signs_ok ?_ ?_ ?_ ?_ ?_ fun p l hp hl hc => ?_); (focus assumption); (focus omega); (focus omega); (focus omega); (focus omega))
  | ((with_reducible refine text_ok ?_ ?_ ?_ fun p l hp hl hc => ?_); (focus assumption); (focus omega); (focus omega))
  | ((with_reducible refine rtext_ok ?_ ?_ ?_ fun p l hp hl hc => ?_); (focus assumption); (focus omega); (focus omega))
  | ((with_reducible refine rtext2_ok ?_ ?_ ?_ fun p l hp hl hc => ?_); (focus assumption); (focus omega); (focus omega))
  | (with_reducible refine whole_ok ?_))
local macro_rules | `(tactic| walk_at "ok") => `(tactic| first | assumption | exact okT_nil | exact Lts.ok (by assumption) | decide)
local macro_rules | `(tactic| walk_at "g0") => `(tactic| first
  | ((with_reducible refine And.intro ?_ ?_); (focus walk_at "sc"))
  | walk_at "lm"
  | ((with_reducible refine okL_eqtx ?_ ?_ ?_); (focus walk_at "ok"); (focus walk_at "ok"))
  | ((with_reducible refine bj_t ?_ ?_); (focus (first | with_reducible rfl | omega)))
  | ((with_reducible refine bj_f ?_ ?_); (focus omega)))
local macro_rules | `(tactic| walk_at "g1") => `(tactic| first
  | walk_at "ev"
  | walk_at "g0")
local macro_rules | `(tactic| walk_at "g2") => `(tactic| first
  | walk_at "evi"
  | walk_at "g0")
local macro_rules | `(tactic| walk_at "go") => `(tactic| repeat walk_at "g1")
local macro_rules | `(tactic| walk_at "goi") => `(tactic| repeat walk_at "g2")
local macro_rules | `(tactic| walk_at "goa") => `(tactic| repeat first | walk_at "eva" | walk_at "g0")
set_option maxHeartbeats 4000000 in
theorem text_ok {p : D} {m : Int} {k : Out → Prop} (hp : Pen p) (hm : 0 ≤ m) (hm2 : m ≤ 5000) (h : ∀ p' l, Pen p' → (l.length : Int) ≤ m → Lts l → k (.ret false (.str (tx l)) [p', .int m])) : okO (phi_ltext [p, .int m]) k := by
  unfold phi_ltext b_ltext
  walk_at "ev"
  refine take_ok hp (by omega) (by omega) fun p many hp hm0 hm1 => ?_
  walk_at "go"
  refine okL_atMem hr0 (by simpa using hr1) fun x hx => ?_
  obtain ⟨size, rfl, hs0, hs1⟩ : ∃ size : Int, x = .int size ∧ 0 < size ∧ size ≤ 26 := by
    simp only [List.mem_cons, List.not_mem_nil, or_false] at hx
    rcases hx with rfl | rfl | rfl | rfl | rfl | rfl <;> exact ⟨_, rfl, by omega, by omega⟩
  walk_at "ev"
  refine take_ok hp (by omega) (by omega) fun p way hp hw0 hw1 => ?_
  walk_at "evi"
  refine bj_mk (fun hw => ?_) (fun hw => ?_)
  · walk_at "go"
    exact h p l hp (by omega) hc
  · walk_at "go"
    refine os_while (fun z en => ∃ p l, z = (many - l.length).toNat ∧ Pen p ∧ Lts l ∧ 1 ≤ l.length ∧ l.length ≤ 10010 ∧ en = [.o true p, .v (.int m), .v (.int many), .v (.int size), .v (.int way), .v (.str (tx l)), .e]) 100000 _ _ (by omega) ⟨p, l, rfl, hp, hc, by omega, by omega, rfl⟩ ?_
    rintro z en ⟨p, l, rfl, hp, hc, hl0, hl1, rfl⟩
    walk_at "go"
    refine bj_mk (fun hlt => ?_) (fun hlt => ?_)
    · walk_at "evi"
      refine bj_mk (fun hw => ?_) (fun hw => ?_)
      · walk_at "go"
        refine ⟨_, ?_, p, l ++ l, rfl, hp, hc.app hc, by simp; omega, by simp; omega, rfl⟩
        simp only [List.length_append]
        omega
      · walk_at "evi"
        refine bj_mk (fun hw => ?_) (fun hw => ?_)
        · walk_at "ev"
          refine ⟨by omega, take_ok hp (by omega) (by omega) fun p a hp ha0 ha1 => ?_⟩
          walk_at "ev"
          refine ⟨by omega, take_ok hp (by omega) (by omega) fun p b hp hb0 hb1 => ?_⟩
          walk_at "ev"
          rw [cut_mid (by omega) (by omega)]
          have hx : (List.drop a.toNat (List.take (a + 1 + b).toNat l)).length ≤ l.length ∧ 1 ≤ (List.drop a.toNat (List.take (a + 1 + b).toNat l)).length := by
            rw [List.length_drop, List.length_take]
            omega
          refine ⟨by omega, by omega, ⟨_, ?_, p, _, rfl, hp, hc.app ((hc.take _).drop _), by simp only [List.length_append]; omega, by simp only [List.length_append]; omega, rfl⟩⟩
          simp only [List.length_append]
          omega
        · walk_at "ev"
          refine ⟨by omega, take_ok hp (by omega) (by omega) fun p a hp ha0 ha1 => ?_⟩
          walk_at "ev"
          rw [cut_to (by omega)]
          refine ⟨by omega, by simp only [List.length_take]; omega, letter_ok hp hs0 (by omega) fun p c hp hcc => ?_⟩
          walk_at "ev"
          refine ⟨?_, ⟨_, ?_, p, _, rfl, hp, (hc.app (hc.take _)).app (Lts.one hcc), ?_, ?_, rfl⟩⟩
          all_goals (simp only [List.length_append, List.length_take, List.length_cons, List.length_nil]; omega)
    · walk_at "ev"
      rw [cut_to (by omega)]
      refine ⟨by omega, ?_⟩
      have hc := hc.take many.toNat
      have hl : (l.take many.toNat).length ≤ many.toNat := by rw [List.length_take]; omega
      revert hc hl
      generalize l.take many.toNat = l
      intro hc hl
      walk_at "evi"
      refine okL_eqtx hc.ok okT_nil ?_
      walk_at "ev"
      refine bj_mk (fun he => ?_) (fun he => ?_)
      · walk_at "ev"
        exact h p l hp (by omega) hc
      · walk_at "ev"
        have hpos : 0 < l.length := by
          cases l with
          | nil => exact absurd rfl he
          | cons x r => simp
        refine take_ok hp (by omega) (by omega) fun p a hp ha0 ha1 => ?_
        walk_at "ev"
        refine bj_mk (fun hz => ?_) (fun hz => ?_)
        · walk_at "ev"
          refine ⟨by omega, take_ok hp (by omega) (by omega) fun p a hp ha0 ha1 => ?_⟩
          walk_at "ev"
          rw [cut_to (by omega)]
          refine ⟨by omega, letter_ok hp (by omega) (by omega) fun p c hp hcc => ?_⟩
          walk_at "ev"
          rw [cut_from (by omega)]
          refine ⟨?_, by omega, ?_, h p _ hp ?_ (((hc.take _).app (Lts.one hcc)).app (hc.drop _))⟩
          all_goals (simp only [List.length_append, List.length_take, List.length_drop, List.length_cons, List.length_nil]; omega)
        · walk_at "ev"
          exact h p l hp (by omega) hc
end PyD.S

end

namespace PyD.S
open PySem PySem.Spec L2
/-! _law_sizes: slots 0 some 1 found* 2 row 3 item -/
def b_lsizes : En → Fl :=
  (seqF (asO 1 (lstF nilF))
  (seqF (endF [false, false, true] (frF (itA itD (one (nmF 0))) (gNm 2) (bodF [false, false, true]
  (drF (mutF true 1 isLst appM (consF (opF sumD (consF (lcF (itA itD (one (nmF 2))) (gNm 3) yesT (ifF (tstF (opF (isiD "str") (one (nmF 3)))) (cF (.int 1)) (opF ixUD (two (nmF 1) (nmF 3)))) [3]) nilF)) nilF))))))
  (rtF (mvF 1))))
def phi_lsizes : List D → Out := runF [false] 3 b_lsizes
end PyD.S

namespace PyD.S
open PySem PySem.Spec L2
/-! _law_item: slots 0 pen* 1 size 2 number -/
def b_litem : En → Fl :=
  (seqF (ifS (orT (tstB (opF (eqOp false) (two (nmF 2) (cF (.int 0))))) (tstB (opF (eqOp false) (two (callF [true, false] phi_ltake (consF (nmF 0) (consF (cF (.int 3)) nilF))) (cF (.int 0)))))) (rtF (callF [true, false] phi_lletter (consF (nmF 0) (consF (nmF 1) nilF)))) skF)
  (rtF (opF max2D (consF (cF (.int 0)) (consF (opF subD (two (opF subD (two (nmF 2) (cF (.int 1)))) (callF [true, false] phi_ltake (consF (nmF 0) (consF (opF ixUD (two (lstF (consF (cF (.int 2)) (consF (nmF 2) nilF))) (callF [true, false] phi_ltake (consF (nmF 0) (consF (cF (.int 2)) nilF))))) nilF))))) nilF)))))
def phi_litem : List D → Out := runF [true, false, false] 0 b_litem
end PyD.S

namespace PyD.S
open PySem PySem.Spec L2
/-! _law_rows: slots 0 pen* 1 most 2 size 3 found* 4 number 5 many 6 k -/
def b_lrows : En → Fl :=
  (seqF (asV 2 (opF ixUD (two (lstF (consF (cF (.int 1)) (consF (cF (.int 2)) (consF (cF (.int 3)) (consF (cF (.int 26)) nilF))))) (callF [true, false] phi_ltake (consF (nmF 0) (consF (cF (.int 4)) nilF))))))
  (seqF (asO 3 (lstF nilF))
  (seqF (endF [false, false, true, false, true] (frF (itA rg1D (consF (opF addD (two (cF (.int 1)) (callF [true, false] phi_ltake (consF (nmF 0) (consF (nmF 1) nilF))))) nilF)) (gNm 4) (seqF (asV 5 (opF addD (two (cF (.int 1)) (callF [true, false] phi_ltake (consF (nmF 0) (consF (opF ixUD (two (lstF (consF (cF (.int 3)) (consF (cF (.int 3)) (consF (cF (.int 3)) (consF (cF (.int 12)) nilF))))) (callF [true, false] phi_ltake (consF (nmF 0) (consF (cF (.int 4)) nilF))))) nilF))))))
  (seqF (drF (mutF true 3 isLst appM (consF (opF tupleD (consF (lcF (itA rg1D (consF (nmF 5) nilF)) (gNm 6) yesT (callF [true, false, false] phi_litem (consF (nmF 0) (consF (nmF 2) (consF (nmF 4) nilF)))) [6]) nilF)) nilF)))
  (endF [false, false, false, false, true, true] (ifS (tstB (opF gtD (two (opF maxD (consF (callF [false] phi_lsizes (consF (nmF 3) nilF)) nilF)) (cF (.int 300))))) (stF 3 (opF negD (one (cF (.int 1)))) (opF mulVD (two (tupF (consF (callF [true, false] phi_lletter (consF (nmF 0) (consF (nmF 2) nilF))) nilF)) (opF addD (two (cF (.int 1)) (callF [true, false] phi_ltake (consF (nmF 0) (consF (cF (.int 3)) nilF))))))) setD) skF))))))
  (rtF (opF tupleD (consF (nmF 3) nilF))))))
def phi_lrows : List D → Out := runF [true, false] 5 b_lrows
end PyD.S

namespace PyD.S
open PySem PySem.Spec L2
/-! _law_sixty: slots 0 pen* 1 size 2 found* 3 number 4 way 5 one 6 row -/
def b_lsixty : En → Fl :=
  (seqF (asO 2 (lstF (consF (tupF (consF (callF [true, false] phi_lletter (consF (nmF 0) (consF (nmF 1) nilF))) nilF)) nilF)))
  (seqF (endF [false, false, false, true] (frF (itA rg2D (consF (cF (.int 1)) (consF (cF (.int 60)) nilF))) (gNm 3) (bodF [false, false, false, false, false, false, true]
  (seqF (asV 4 (callF [true, false] phi_ltake (consF (nmF 0) (consF (cF (.int 6)) nilF))))
  (seqF (asV 5 (callF [true, false] phi_lletter (consF (nmF 0) (consF (nmF 1) nilF))))
  (seqF (asV 6 (tupF (consF (opF subD (two (nmF 3) (cF (.int 1)))) nilF)))
  (seqF (endF [false, false, false, true, true, true] (ifS (tstB (opF gtD (two (nmF 4) (cF (.int 3))))) (asV 6 (opF ixUD (two (lstF (consF (tupF (consF (opF subD (two (nmF 3) (cF (.int 1)))) (consF (nmF 5) nilF))) (consF (tupF (consF (nmF 5) (consF (opF subD (two (nmF 3) (cF (.int 1)))) nilF))) nilF))) (opF subD (two (nmF 4) (cF (.int 4))))))) skF))
  (drF (mutF true 2 isLst appM (consF (nmF 6) nilF))))))))))
  (rtF (opF tupleD (consF (nmF 2) nilF)))))
def phi_lsixty : List D → Out := runF [true, false] 5 b_lsixty
end PyD.S

namespace PyD.S
open PySem PySem.Spec L2
/-! _law_unfolded: slots 0 some 1 found* 2 row 3 item -/
def b_lunfolded : En → Fl :=
  (seqF (asO 1 (lstF nilF))
  (seqF (endF [false, false, true] (frF (itA itD (one (nmF 0))) (gNm 2) (bodF [false, false, true]
  (drF (mutF true 1 isLst appM (consF (bmF isStr joinD (cF (.str (tx []))) (consF (lcF (itA itD (one (nmF 2))) (gNm 3) yesT (ifF (tstF (opF (isiD "str") (one (nmF 3)))) (nmF 3) (opF ixUD (two (nmF 1) (nmF 3)))) [3]) nilF)) nilF))))))
  (rtF (mvF 1))))
def phi_lunfolded : List D → Out := runF [false] 3 b_lunfolded
end PyD.S

section
set_option maxHeartbeats 8000000
namespace PyD.S
open PySem PySem.Spec L2 PyD.S
local macro_rules | `(tactic| walk_at "ev") => `(tactic| simp -dsimp -implicitDefEqProofs only [is_nn, is_in, is_sn, is_tn, is_ln, is_bn, os_endA, os_endO, os_endG, os_endP, os_endD, os_endS, os_endFr, os_endWh, os_bod, endK_nx, endK_rt, endK_bk, endK_ct, endK_exc, bodK_nx, bodK_rt, bodK_bk, bodK_ct, bodK_exc, frM_t, frM_f, frM_n, wpM_t, wpM_f, wpM_n, ok_c, ok_nm, nmK_v, nmK_o, ok_mv, mvK_v, mvK_o, ok_dm, dmK_v, dmK_o, ok_nil, ok_cons, ok_one, ok_two, ok_op, ok_tstB, ok_tstF, ok_not, bi_true, bi_false, bi_dec, bj_true, bj_false, bj_not, bi_not_dec, ok_and, ok_or, ok_ifF, ok_andF, ok_orF, ok_notF, ok_tup, ok_lst, ok_dic, ok_bm, intR_int, ok_prtN, ok_prtS, ok_sl, callK_ret, ok_call, ok_itA, ok_lc, ok_ch, ok_mut, mutG, shK_sh, shK2_sh, ordB, ownK_o, os_sk, os_bk, os_ct, seqK_nx, seqK_rt, seqK_bk, seqK_ct, seqK_exc, os_seq, os_dr, os_rt, vK_sh, vK_fr, os_asV, os_asO, os_asG, os_asP, os_st, oK_fr, ok_gNm, ok_gTp, ok_gNms0, ok_gNms1, os_fr, ok_run, defK_nx, defK_sh, defK_fr, loopK_nx, loopK_ct, loopK_bk, loopK_rt, okL_some, okL_map, okL_if, okL_ifo, rsls, rsl, stos, stoD, mkR, blD, free_eq, frS_e, frS_v, frS_o, nxK_nx, List.getElem?_cons_zero, List.getElem?_cons_succ, List.set_cons_zero, List.set_cons_succ, List.length_cons, List.length_nil, Nat.zero_add, Nat.reduceAdd, mkE, slIn, List.replicate, List.cons_append, List.nil_append, outsOf, pick, lentOk, nodupB, slotsOf, borrows, putBack, resFlat, add_tx, add_lst, add_tup, add_int, sub_int, mulV_int, mod_int, fdv_int, pow_int, neg_int, eq_int, eqOp_eq, ne_false, ne_true, tx_list, len_tx, len_lst, len_tup, len_scr, len_dic, ix_lst, ix_tup, ix_tx, ix_scr, at_0, at_1, at_2, set_lst, app_lst, ixN_30, ixN_31, ixN_32, ixN_20, ixN_21, ixN_10, sl_tx, sl_lst, sl_tup, sl_scr, true_and, and_true, ordD, Bool.not_false, Bool.not_true, Bool.and_true, Bool.true_and, Bool.or_true, Bool.true_or, List.elem, Bool.false_eq_true, if_true, if_false, isLst, isStr, isDic, int_bl, int_int, list_lst, list_tup, list_scr, tuple_lst, tuple_tup, max2_int, min2_int, isi_int, isi_bl, isi_str, isi_tup, isi_lst, isi_non, isi_dic, ty_ii, ty_ib, ty_is, ty_it, ty_il, ty_bi, ty_bb, ty_bs, ty_bt, ty_bL, ty_si, ty_sb, ty_ss, ty_st, ty_sl, ty_ti, ty_tb, ty_ts, ty_tt, ty_tl, ty_li, ty_lb, ty_ls, ty_lt, ty_ll, ty_ni, ty_nb, ty_ns, ty_nt, ty_nl, rg1, rg2, rg3, it_lst, it_tup, it_scr, it_str, enum_lst, zip_lst, zip_tup, rev_lst, rev_tup, tru_int, tru_bl, tru_lst, tru_tup, wipeE, resE, List.all_cons, List.all_nil, Bool.and_eq_true, dtx, yesT_ok, and_self])
local macro_rules | `(tactic| walk_at "evi") => `(tactic| simp -dsimp -implicitDefEqProofs only [os_if, os_endIf, is_nn, is_in, is_sn, is_tn, is_ln, is_bn, os_endA, os_endO, os_endG, os_endP, os_endD, os_endS, os_endFr, os_endWh, os_bod, endK_nx, endK_rt, endK_bk, endK_ct, endK_exc, bodK_nx, bodK_rt, bodK_bk, bodK_ct, bodK_exc, frM_t, frM_f, frM_n, wpM_t, wpM_f, wpM_n, ok_c, ok_nm, nmK_v, nmK_o, ok_mv, mvK_v, mvK_o, ok_dm, dmK_v, dmK_o, ok_nil, ok_cons, ok_one, ok_two, ok_op, ok_tstB, ok_tstF, ok_not, bi_true, bi_false, bi_dec, bj_true, bj_false, bj_not, bi_not_dec, ok_and, ok_or, ok_ifF, ok_andF, ok_orF, ok_notF, ok_tup, ok_lst, ok_dic, ok_bm, intR_int, ok_prtN, ok_prtS, ok_sl, callK_ret, ok_call, ok_itA, ok_lc, ok_ch, ok_mut, mutG, shK_sh, shK2_sh, ordB, ownK_o, os_sk, os_bk, os_ct, seqK_nx, seqK_rt, seqK_bk, seqK_ct, seqK_exc, os_seq, os_dr, os_rt, vK_sh, vK_fr, os_asV, os_asO, os_asG, os_asP, os_st, oK_fr, ok_gNm, ok_gTp, ok_gNms0, ok_gNms1, os_fr, ok_run, defK_nx, defK_sh, defK_fr, loopK_nx, loopK_ct, loopK_bk, loopK_rt, okL_some, okL_map, okL_if, okL_ifo, rsls, rsl, stos, stoD, mkR, blD, free_eq, frS_e, frS_v, frS_o, nxK_nx, List.getElem?_cons_zero, List.getElem?_cons_succ, List.set_cons_zero, List.set_cons_succ, List.length_cons, List.length_nil, Nat.zero_add, Nat.reduceAdd, mkE, slIn, List.replicate, List.cons_append, List.nil_append, outsOf, pick, lentOk, nodupB, slotsOf, borrows, putBack, resFlat, add_tx, add_lst, add_tup, add_int, sub_int, mulV_int, mod_int, fdv_int, pow_int, neg_int, eq_int, eqOp_eq, ne_false, ne_true, tx_list, len_tx, len_lst, len_tup, len_scr, len_dic, ix_lst, ix_tup, ix_tx, ix_scr, at_0, at_1, at_2, set_lst, app_lst, ixN_30, ixN_31, ixN_32, ixN_20, ixN_21, ixN_10, sl_tx, sl_lst, sl_tup, sl_scr, true_and, and_true, ordD, Bool.not_false, Bool.not_true, Bool.and_true, Bool.true_and, Bool.or_true, Bool.true_or, List.elem, Bool.false_eq_true, if_true, if_false, isLst, isStr, isDic, int_bl, int_int, list_lst, list_tup, list_scr, tuple_lst, tuple_tup, max2_int, min2_int, isi_int, isi_bl, isi_str, isi_tup, isi_lst, isi_non, isi_dic, ty_ii, ty_ib, ty_is, ty_it, ty_il, ty_bi, ty_bb, ty_bs, ty_bt, ty_bL, ty_si, ty_sb, ty_ss, ty_st, ty_sl, ty_ti, ty_tb, ty_ts, ty_tt, ty_tl, ty_li, ty_lb, ty_ls, ty_lt, ty_ll, ty_ni, ty_nb, ty_ns, ty_nt, ty_nl, rg1, rg2, rg3, it_lst, it_tup, it_scr, it_str, enum_lst, zip_lst, zip_tup, rev_lst, rev_tup, tru_int, tru_bl, tru_lst, tru_tup, wipeE, resE, List.all_cons, List.all_nil, Bool.and_eq_true, dtx, yesT_ok, and_self])
local macro_rules | `(tactic| walk_at "eva") => `(tactic| simp -dsimp -implicitDefEqProofs only [is_nn, is_in, is_sn, is_tn, is_ln, is_bn, os_endA, os_endO, os_endG, os_endP, os_endD, os_endS, os_endFr, os_endWh, os_bod, endK_nx, endK_rt, endK_bk, endK_ct, endK_exc, bodK_nx, bodK_rt, bodK_bk, bodK_ct, bodK_exc, frM_t, frM_f, frM_n, wpM_t, wpM_f, wpM_n, ok_c, ok_nm, nmK_v, nmK_o, ok_mv, mvK_v, mvK_o, ok_dm, dmK_v, dmK_o, ok_nil, ok_cons, ok_one, ok_two, ok_op, ok_tstB, ok_tstF, ok_not, bi_true, bi_false, bi_dec, bj_true, bj_false, bj_not, bi_not_dec, ok_and, ok_or, ok_notF, ok_tup, ok_lst, ok_dic, ok_bm, intR_int, ok_prtN, ok_prtS, ok_sl, callK_ret, ok_call, ok_itA, ok_lc, ok_ch, ok_mut, mutG, shK_sh, shK2_sh, ordB, ownK_o, os_sk, os_bk, os_ct, seqK_nx, seqK_rt, seqK_bk, seqK_ct, seqK_exc, os_seq, os_dr, os_rt, vK_sh, vK_fr, os_asV, os_asO, os_asG, os_asP, os_st, oK_fr, ok_gNm, ok_gTp, ok_gNms0, ok_gNms1, os_fr, ok_run, defK_nx, defK_sh, defK_fr, loopK_nx, loopK_ct, loopK_bk, loopK_rt, okL_some, okL_map, okL_if, okL_ifo, rsls, rsl, stos, stoD, mkR, blD, free_eq, frS_e, frS_v, frS_o, nxK_nx, List.getElem?_cons_zero, List.getElem?_cons_succ, List.set_cons_zero, List.set_cons_succ, List.length_cons, List.length_nil, Nat.zero_add, Nat.reduceAdd, mkE, slIn, List.replicate, List.cons_append, List.nil_append, outsOf, pick, lentOk, nodupB, slotsOf, borrows, putBack, resFlat, add_tx, add_lst, add_tup, add_int, sub_int, mulV_int, mod_int, fdv_int, pow_int, neg_int, eq_int, eqOp_eq, ne_false, ne_true, tx_list, len_tx, len_lst, len_tup, len_scr, len_dic, ix_lst, ix_tup, ix_tx, ix_scr, at_0, at_1, at_2, set_lst, app_lst, ixN_30, ixN_31, ixN_32, ixN_20, ixN_21, ixN_10, sl_tx, sl_lst, sl_tup, sl_scr, true_and, and_true, ordD, Bool.not_false, Bool.not_true, Bool.and_true, Bool.true_and, Bool.or_true, Bool.true_or, List.elem, Bool.false_eq_true, if_true, if_false, isLst, isStr, isDic, int_bl, int_int, list_lst, list_tup, list_scr, tuple_lst, tuple_tup, max2_int, min2_int, isi_int, isi_bl, isi_str, isi_tup, isi_lst, isi_non, isi_dic, ty_ii, ty_ib, ty_is, ty_it, ty_il, ty_bi, ty_bb, ty_bs, ty_bt, ty_bL, ty_si, ty_sb, ty_ss, ty_st, ty_sl, ty_ti, ty_tb, ty_ts, ty_tt, ty_tl, ty_li, ty_lb, ty_ls, ty_lt, ty_ll, ty_ni, ty_nb, ty_ns, ty_nt, ty_nl, rg1, rg2, rg3, it_lst, it_tup, it_scr, it_str, enum_lst, zip_lst, zip_tup, rev_lst, rev_tup, tru_int, tru_bl, tru_lst, tru_tup, wipeE, resE, List.all_cons, List.all_nil, Bool.and_eq_true, dtx, yesT_ok, and_self])
local macro_rules | `(tactic| walk_at "sd") => `(tactic| repeat (refine And.intro (by first | omega | assumption | exact rfl) ?_))
local macro_rules | `(tactic| walk_at "sc") => `(tactic| first | assumption | omega | exact rfl | exact mulOk_r (by omega) (by omega) | exact mulOk_l (by omega) (by omega) | exact log_ok (by omega) (by omega) | (simp only [List.length_append, List.length_cons, List.length_nil, List.length_take, List.length_drop, List.length_map, List.length_replicate, upL_len]; omega) | (refine And.intro ?_ ?_ <;> walk_at "sc") | decide)
set_option hygiene false in
local macro_rules | `(tactic| walk_at "lm") => `(tactic| first
  | ((with_reducible refine take_ok ?_ ?_ ?_ fun p r hp hr0 hr1 => ?_); (focus assumption); (focus omega); (focus omega))
  | ((with_reducible refine pick_ok ?_ ?_ ?_ fun p r hp hr0 hr1 => ?_); (focus assumption); (focus omega); (focus omega))
  | ((with_reducible refine pick2_ok ?_ ?_ ?_ fun p r hp hr0 hr1 => ?_); (focus assumption); (focus omega); (focus omega))
  | ((with_reducible refine letter_ok ?_ ?_ ?_ fun p c hp hc => ?_); (focus assumption); (focus omega); (focus omega))
  | ((with_reducible refine signs_ok ?_ ?_ ?_ ?_ ?_ fun p l hp hl hc => ?_); (focus assumption); (focus omega); (focus omega); (focus omega); (focus omega))
  | ((with_reducible refine text_ok ?_ ?_ ?_ fun p l hp hl hc => ?_); (focus assumption); (focus omega); (focus omega))
  | ((with_reducible refine rtext_ok ?_ ?_ ?_ fun p l hp hl hc => ?_); (focus assumption); (focus omega); (focus omega))
  | ((with_reducible refine rtext2_ok ?_ ?_ ?_ fun p l hp hl hc => ?_); (focus assumption); (focus omega); (focus omega))
  | (with_reducible refine whole_ok ?_))
local macro_rules | `(tactic| walk_at "ok") => `(tactic| first | assumption | exact okT_nil | exact Lts.ok (by assumption) | decide)
local macro_rules | `(tactic| walk_at "g0") => `(tactic| first
  | ((with_reducible refine And.intro ?_ ?_); (focus walk_at "sc"))
  | walk_at "lm"
  | ((with_reducible refine okL_eqtx ?_ ?_ ?_); (focus walk_at "ok"); (focus walk_at "ok"))
  | ((with_reducible refine bj_t ?_ ?_); (focus (first | with_reducible rfl | omega)))
  | ((with_reducible refine bj_f ?_ ?_); (focus omega)))
local macro_rules | `(tactic| walk_at "g1") => `(tactic| first
  | walk_at "ev"
  | walk_at "g0")
local macro_rules | `(tactic| walk_at "g2") => `(tactic| first
  | walk_at "evi"
  | walk_at "g0")
local macro_rules | `(tactic| walk_at "go") => `(tactic| repeat walk_at "g1")
local macro_rules | `(tactic| walk_at "goi") => `(tactic| repeat walk_at "g2")
local macro_rules | `(tactic| walk_at "goa") => `(tactic| repeat first | walk_at "eva" | walk_at "g0")
theorem lsizes_ok {Rs : List (List It)} {rws : D} {k : Out → Prop} (hit : itD [rws] = some (Rs.map dRow)) (hwf : WF Rs) (hln : LN Rs) (h : k (.ret true (.lst ((szs Rs).map dNat)) [rws])) : okO (phi_lsizes [rws]) k := by
  unfold phi_lsizes b_lsizes
  walk_at "go"
  refine okL_of hit ?_
  refine os_ix (fun i en => en = [.v rws, .o false (.lst ((szs (Rs.take i)).map dNat)), .e, .e]) rfl ?_ ?_
  · rintro i d hd en rfl
    rw [List.getElem?_map] at hd
    obtain ⟨row, hrow, rfl⟩ := Option.map_eq_some_iff.mp hd
    have hil := (List.getElem?_eq_some_iff.mp hrow).1
    have hrl := hln.2 row (List.mem_of_getElem? hrow)
    have hsl : (szs (Rs.take i)).length = i := by unfold szs; rw [bld_len, List.length_take]; omega
    have hnext : szs (Rs.take (i + 1)) = szs (Rs.take i) ++ [rowS (szs (Rs.take i)) row] := bld_take hrow
    unfold dRow
    walk_at "go"
    refine ok_lcY (fun acc en => acc = ((row.take acc.length).map (szI (szs (Rs.take i)))).map dNat ∧ en = [.v rws, .o false (.lst ((szs (Rs.take i)).map dNat)), .v (.tup (row.map dI)), .e]) ⟨rfl, rfl⟩ ?_ ?_ ?_
    · rw [List.length_map]; omega
    · rintro q d hd acc en hq ⟨ha, rfl⟩
      rw [List.getElem?_map] at hd
      obtain ⟨it, hit, rfl⟩ := Option.map_eq_some_iff.mp hd
      subst hq
      have e : row.take (acc.length + 1) = row.take acc.length ++ [it] := by
        rw [List.take_succ, hit]
        rfl
      have hw := hwf i row hrow it (List.mem_of_getElem? hit)
      have fin : ∀ z : D, z = dNat (szI (szs (Rs.take i)) it) → acc ++ [z] = ((row.take (acc ++ [z]).length).map (szI (szs (Rs.take i)))).map dNat := fun z hz => by
        rw [List.length_append, List.length_singleton, e, List.map_append, List.map_append, ← ha, hz]
        rfl
      cases it with
      | c x =>
        simp -dsimp -implicitDefEqProofs (disch := omega) only [dI_c]
        walk_at "goi"
        exact fin _ rfl
      | r j =>
        simp -dsimp -implicitDefEqProofs (disch := omega) only [dI_r]
        walk_at "goi"
        refine okL_of (szs_at (show j < i from hw) (by omega)) ?_
        walk_at "goi"
        exact fin _ rfl
    rintro acc en hlen ⟨ha, rfl⟩
    rw [List.length_map] at hlen
    rw [hlen, List.take_length] at ha
    subst ha
    walk_at "goi"
    refine okL_of sum_nats ?_
    walk_at "goi"
    have hll := hln.1
    refine And.intro (by rw [List.length_map]; omega) ?_
    rw [hnext, List.map_append]
    rfl
  · rintro en rfl
    rw [List.length_map, List.take_length]
    walk_at "goi"
    exact h
theorem unfolded_ok {Rs : List (List It)} {rws : D} {k : Out → Prop} (hit : itD [rws] = some (Rs.map dRow)) (hwf : WF Rs) (hln : LN Rs) (hsz : SZ Rs) (h : k (.ret true (.lst ((txs Rs).map dtx)) [rws])) : okO (phi_lunfolded [rws]) k := by
  unfold phi_lunfolded b_lunfolded
  walk_at "go"
  refine okL_of hit ?_
  refine os_ix (fun i en => en = [.v rws, .o false (.lst ((txs (Rs.take i)).map dtx)), .e, .e]) rfl ?_ ?_
  · rintro i d hd en rfl
    rw [List.getElem?_map] at hd
    obtain ⟨row, hrow, rfl⟩ := Option.map_eq_some_iff.mp hd
    have hil := (List.getElem?_eq_some_iff.mp hrow).1
    have hrl := hln.2 row (List.mem_of_getElem? hrow)
    have hsl : (txs (Rs.take i)).length = i := by unfold txs; rw [bld_len, List.length_take]; omega
    have hnext : txs (Rs.take (i + 1)) = txs (Rs.take i) ++ [rowT (txs (Rs.take i)) row] := bld_take hrow
    have hll := hln.1
    unfold dRow
    walk_at "go"
    refine ok_lcY (fun acc en => acc = ((row.take acc.length).map (ttI (txs (Rs.take i)))).map dtx ∧ en = [.v rws, .o false (.lst ((txs (Rs.take i)).map dtx)), .v (.tup (row.map dI)), .e]) ⟨rfl, rfl⟩ ?_ ?_ ?_
    · rw [List.length_map]; omega
    · rintro q d hd acc en hq ⟨ha, rfl⟩
      rw [List.getElem?_map] at hd
      obtain ⟨it, hit, rfl⟩ := Option.map_eq_some_iff.mp hd
      subst hq
      have e : row.take (acc.length + 1) = row.take acc.length ++ [it] := by
        rw [List.take_succ, hit]
        rfl
      have hw := hwf i row hrow it (List.mem_of_getElem? hit)
      have fin : ∀ z : D, z = dtx (ttI (txs (Rs.take i)) it) → acc ++ [z] = ((row.take (acc ++ [z]).length).map (ttI (txs (Rs.take i)))).map dtx := fun z hz => by
        rw [List.length_append, List.length_singleton, e, List.map_append, List.map_append, ← ha, hz]
        rfl
      cases it with
      | c x =>
        simp -dsimp -implicitDefEqProofs (disch := omega) only [dI_c]
        walk_at "goi"
        exact fin _ rfl
      | r j =>
        simp -dsimp -implicitDefEqProofs (disch := omega) only [dI_r]
        walk_at "goi"
        refine okL_of (txs_at (show j < i from hw) (by omega)) ?_
        walk_at "goi"
        exact fin _ rfl
    rintro acc en hlen ⟨ha, rfl⟩
    rw [List.length_map] at hlen
    rw [hlen, List.take_length] at ha
    subst ha
    have hb : (rowT (txs (Rs.take i)) row).length ≤ 300 := by
      have hm : rowT (txs (Rs.take i)) row ∈ txs Rs := bld_sub (i := i + 1) (by show _ ∈ txs _; rw [hnext]; simp)
      refine hsz _ ?_
      rw [← txs_lens]
      exact List.mem_map.mpr ⟨_, hm, rfl⟩
    walk_at "goi"
    refine okL_of (join_row hb) ?_
    walk_at "goi"
    rw [hnext, List.map_append]
    rfl
  · rintro en rfl
    rw [List.length_map, List.take_length]
    walk_at "goi"
    exact h
end PyD.S

end

section
set_option maxHeartbeats 8000000
namespace PyD.S
open PySem PySem.Spec L2 PyD.S
local macro_rules | `(tactic| walk_at "ev") => `(tactic| simp -dsimp -implicitDefEqProofs only [is_nn, is_in, is_sn, is_tn, is_ln, is_bn, os_endA, os_endO, os_endG, os_endP, os_endD, os_endS, os_endFr, os_endWh, os_bod, endK_nx, endK_rt, endK_bk, endK_ct, endK_exc, bodK_nx, bodK_rt, bodK_bk, bodK_ct, bodK_exc, frM_t, frM_f, frM_n, wpM_t, wpM_f, wpM_n, ok_c, ok_nm, nmK_v, nmK_o, ok_mv, mvK_v, mvK_o, ok_dm, dmK_v, dmK_o, ok_nil, ok_cons, ok_one, ok_two, ok_op, ok_tstB, ok_tstF, ok_not, bi_true, bi_false, bi_dec, bj_true, bj_false, bj_not, bi_not_dec, ok_and, ok_or, ok_ifF, ok_andF, ok_orF, ok_notF, ok_tup, ok_lst, ok_dic, ok_bm, intR_int, ok_prtN, ok_prtS, ok_sl, callK_ret, ok_call, ok_itA, ok_lc, ok_ch, ok_mut, mutG, shK_sh, shK2_sh, ordB, ownK_o, os_sk, os_bk, os_ct, seqK_nx, seqK_rt, seqK_bk, seqK_ct, seqK_exc, os_seq, os_dr, os_rt, vK_sh, vK_fr, os_asV, os_asO, os_asG, os_asP, os_st, oK_fr, ok_gNm, ok_gTp, ok_gNms0, ok_gNms1, os_fr, ok_run, defK_nx, defK_sh, defK_fr, loopK_nx, loopK_ct, loopK_bk, loopK_rt, okL_some, okL_map, okL_if, okL_ifo, rsls, rsl, stos, stoD, mkR, blD, free_eq, frS_e, frS_v, frS_o, nxK_nx, List.getElem?_cons_zero, List.getElem?_cons_succ, List.set_cons_zero, List.set_cons_succ, List.length_cons, List.length_nil, Nat.zero_add, Nat.reduceAdd, mkE, slIn, List.replicate, List.cons_append, List.nil_append, outsOf, pick, lentOk, nodupB, slotsOf, borrows, putBack, resFlat, add_tx, add_lst, add_tup, add_int, sub_int, mulV_int, mod_int, fdv_int, pow_int, neg_int, eq_int, eqOp_eq, ne_false, ne_true, tx_list, len_tx, len_lst, len_tup, len_scr, len_dic, ix_lst, ix_tup, ix_tx, ix_scr, at_0, at_1, at_2, set_lst, app_lst, ixN_30, ixN_31, ixN_32, ixN_20, ixN_21, ixN_10, sl_tx, sl_lst, sl_tup, sl_scr, true_and, and_true, ordD, Bool.not_false, Bool.not_true, Bool.and_true, Bool.true_and, Bool.or_true, Bool.true_or, List.elem, Bool.false_eq_true, if_true, if_false, isLst, isStr, isDic, int_bl, int_int, list_lst, list_tup, list_scr, tuple_lst, tuple_tup, max2_int, min2_int, isi_int, isi_bl, isi_str, isi_tup, isi_lst, isi_non, isi_dic, ty_ii, ty_ib, ty_is, ty_it, ty_il, ty_bi, ty_bb, ty_bs, ty_bt, ty_bL, ty_si, ty_sb, ty_ss, ty_st, ty_sl, ty_ti, ty_tb, ty_ts, ty_tt, ty_tl, ty_li, ty_lb, ty_ls, ty_lt, ty_ll, ty_ni, ty_nb, ty_ns, ty_nt, ty_nl, rg1, rg2, rg3, it_lst, it_tup, it_scr, it_str, enum_lst, zip_lst, zip_tup, rev_lst, rev_tup, tru_int, tru_bl, tru_lst, tru_tup, wipeE, resE, List.all_cons, List.all_nil, Bool.and_eq_true, dtx, yesT_ok, and_self])
local macro_rules | `(tactic| walk_at "evi") => `(tactic| simp -dsimp -implicitDefEqProofs only [os_if, os_endIf, is_nn, is_in, is_sn, is_tn, is_ln, is_bn, os_endA, os_endO, os_endG, os_endP, os_endD, os_endS, os_endFr, os_endWh, os_bod, endK_nx, endK_rt, endK_bk, endK_ct, endK_exc, bodK_nx, bodK_rt, bodK_bk, bodK_ct, bodK_exc, frM_t, frM_f, frM_n, wpM_t, wpM_f, wpM_n, ok_c, ok_nm, nmK_v, nmK_o, ok_mv, mvK_v, mvK_o, ok_dm, dmK_v, dmK_o, ok_nil, ok_cons, ok_one, ok_two, ok_op, ok_tstB, ok_tstF, ok_not, bi_true, bi_false, bi_dec, bj_true, bj_false, bj_not, bi_not_dec, ok_and, ok_or, ok_ifF, ok_andF, ok_orF, ok_notF, ok_tup, ok_lst, ok_dic, ok_bm, intR_int, ok_prtN, ok_prtS, ok_sl, callK_ret, ok_call, ok_itA, ok_lc, ok_ch, ok_mut, mutG, shK_sh, shK2_sh, ordB, ownK_o, os_sk, os_bk, os_ct, seqK_nx, seqK_rt, seqK_bk, seqK_ct, seqK_exc, os_seq, os_dr, os_rt, vK_sh, vK_fr, os_asV, os_asO, os_asG, os_asP, os_st, oK_fr, ok_gNm, ok_gTp, ok_gNms0, ok_gNms1, os_fr, ok_run, defK_nx, defK_sh, defK_fr, loopK_nx, loopK_ct, loopK_bk, loopK_rt, okL_some, okL_map, okL_if, okL_ifo, rsls, rsl, stos, stoD, mkR, blD, free_eq, frS_e, frS_v, frS_o, nxK_nx, List.getElem?_cons_zero, List.getElem?_cons_succ, List.set_cons_zero, List.set_cons_succ, List.length_cons, List.length_nil, Nat.zero_add, Nat.reduceAdd, mkE, slIn, List.replicate, List.cons_append, List.nil_append, outsOf, pick, lentOk, nodupB, slotsOf, borrows, putBack, resFlat, add_tx, add_lst, add_tup, add_int, sub_int, mulV_int, mod_int, fdv_int, pow_int, neg_int, eq_int, eqOp_eq, ne_false, ne_true, tx_list, len_tx, len_lst, len_tup, len_scr, len_dic, ix_lst, ix_tup, ix_tx, ix_scr, at_0, at_1, at_2, set_lst, app_lst, ixN_30, ixN_31, ixN_32, ixN_20, ixN_21, ixN_10, sl_tx, sl_lst, sl_tup, sl_scr, true_and, and_true, ordD, Bool.not_false, Bool.not_true, Bool.and_true, Bool.true_and, Bool.or_true, Bool.true_or, List.elem, Bool.false_eq_true, if_true, if_false, isLst, isStr, isDic, int_bl, int_int, list_lst, list_tup, list_scr, tuple_lst, tuple_tup, max2_int, min2_int, isi_int, isi_bl, isi_str, isi_tup, isi_lst, isi_non, isi_dic, ty_ii, ty_ib, ty_is, ty_it, ty_il, ty_bi, ty_bb, ty_bs, ty_bt, ty_bL, ty_si, ty_sb, ty_ss, ty_st, ty_sl, ty_ti, ty_tb, ty_ts, ty_tt, ty_tl, ty_li, ty_lb, ty_ls, ty_lt, ty_ll, ty_ni, ty_nb, ty_ns, ty_nt, ty_nl, rg1, rg2, rg3, it_lst, it_tup, it_scr, it_str, enum_lst, zip_lst, zip_tup, rev_lst, rev_tup, tru_int, tru_bl, tru_lst, tru_tup, wipeE, resE, List.all_cons, List.all_nil, Bool.and_eq_true, dtx, yesT_ok, and_self])
local macro_rules | `(tactic| walk_at "eva") => `(tactic| simp -dsimp -implicitDefEqProofs only [is_nn, is_in, is_sn, is_tn, is_ln, is_bn, os_endA, os_endO, os_endG, os_endP, os_endD, os_endS, os_endFr, os_endWh, os_bod, endK_nx, endK_rt, endK_bk, endK_ct, endK_exc, bodK_nx, bodK_rt, bodK_bk, bodK_ct, bodK_exc, frM_t, frM_f, frM_n, wpM_t, wpM_f, wpM_n, ok_c, ok_nm, nmK_v, nmK_o, ok_mv, mvK_v, mvK_o, ok_dm, dmK_v, dmK_o, ok_nil, ok_cons, ok_one, ok_two, ok_op, ok_tstB, ok_tstF, ok_not, bi_true, bi_false, bi_dec, bj_true, bj_false, bj_not, bi_not_dec, ok_and, ok_or, ok_notF, ok_tup, ok_lst, ok_dic, ok_bm, intR_int, ok_prtN, ok_prtS, ok_sl, callK_ret, ok_call, ok_itA, ok_lc, ok_ch, ok_mut, mutG, shK_sh, shK2_sh, ordB, ownK_o, os_sk, os_bk, os_ct, seqK_nx, seqK_rt, seqK_bk, seqK_ct, seqK_exc, os_seq, os_dr, os_rt, vK_sh, vK_fr, os_asV, os_asO, os_asG, os_asP, os_st, oK_fr, ok_gNm, ok_gTp, ok_gNms0, ok_gNms1, os_fr, ok_run, defK_nx, defK_sh, defK_fr, loopK_nx, loopK_ct, loopK_bk, loopK_rt, okL_some, okL_map, okL_if, okL_ifo, rsls, rsl, stos, stoD, mkR, blD, free_eq, frS_e, frS_v, frS_o, nxK_nx, List.getElem?_cons_zero, List.getElem?_cons_succ, List.set_cons_zero, List.set_cons_succ, List.length_cons, List.length_nil, Nat.zero_add, Nat.reduceAdd, mkE, slIn, List.replicate, List.cons_append, List.nil_append, outsOf, pick, lentOk, nodupB, slotsOf, borrows, putBack, resFlat, add_tx, add_lst, add_tup, add_int, sub_int, mulV_int, mod_int, fdv_int, pow_int, neg_int, eq_int, eqOp_eq, ne_false, ne_true, tx_list, len_tx, len_lst, len_tup, len_scr, len_dic, ix_lst, ix_tup, ix_tx, ix_scr, at_0, at_1, at_2, set_lst, app_lst, ixN_30, ixN_31, ixN_32, ixN_20, ixN_21, ixN_10, sl_tx, sl_lst, sl_tup, sl_scr, true_and, and_true, ordD, Bool.not_false, Bool.not_true, Bool.and_true, Bool.true_and, Bool.or_true, Bool.true_or, List.elem, Bool.false_eq_true, if_true, if_false, isLst, isStr, isDic, int_bl, int_int, list_lst, list_tup, list_scr, tuple_lst, tuple_tup, max2_int, min2_int, isi_int, isi_bl, isi_str, isi_tup, isi_lst, isi_non, isi_dic, ty_ii, ty_ib, ty_is, ty_it, ty_il, ty_bi, ty_bb, ty_bs, ty_bt, ty_bL, ty_si, ty_sb, ty_ss, ty_st, ty_sl, ty_ti, ty_tb, ty_ts, ty_tt, ty_tl, ty_li, ty_lb, ty_ls, ty_lt, ty_ll, ty_ni, ty_nb, ty_ns, ty_nt, ty_nl, rg1, rg2, rg3, it_lst, it_tup, it_scr, it_str, enum_lst, zip_lst, zip_tup, rev_lst, rev_tup, tru_int, tru_bl, tru_lst, tru_tup, wipeE, resE, List.all_cons, List.all_nil, Bool.and_eq_true, dtx, yesT_ok, and_self])
local macro_rules | `(tactic| walk_at "sd") => `(tactic| repeat (refine And.intro (by first | omega | assumption | exact rfl) ?_))
local macro_rules | `(tactic| walk_at "sc") => `(tactic| first | assumption | omega | exact rfl | exact mulOk_r (by omega) (by omega) | exact mulOk_l (by omega) (by omega) | exact log_ok (by omega) (by omega) | (simp only [List.length_append, List.length_cons, List.length_nil, List.length_take, List.length_drop, List.length_map, List.length_replicate, upL_len]; omega) | (refine And.intro ?_ ?_ <;> walk_at "sc") | decide)
set_option hygiene false in
local macro_rules | `(tactic| walk_at "lm") => `(tactic| first
  | ((with_reducible refine take_ok ?_ ?_ ?_ fun p r hp hr0 hr1 => ?_); (focus assumption); (focus omega); (focus omega))
  | ((with_reducible refine pick_ok ?_ ?_ ?_ fun p r hp hr0 hr1 => ?_); (focus assumption); (focus omega); (focus omega))
  | ((with_reducible refine pick2_ok ?_ ?_ ?_ fun p r hp hr0 hr1 => ?_); (focus assumption); (focus omega); (focus omega))
  | ((with_reducible refine letter_ok ?_ ?_ ?_ fun p c hp hc => ?_); (focus assumption); (focus omega); (focus omega))
  | ((with_reducible refine signs_ok ?_ ?_ ?_ ?_ ?_ fun p l hp hl hc => ?_); (focus assumption); (focus omega); (focus omega); (focus omega); (focus omega))
  | ((with_reducible refine text_ok ?_ ?_ ?_ fun p l hp hl hc => ?_); (focus assumption); (focus omega); (focus omega))
  | ((with_reducible refine rtext_ok ?_ ?_ ?_ fun p l hp hl hc => ?_); (focus assumption); (focus omega); (focus omega))
  | ((with_reducible refine rtext2_ok ?_ ?_ ?_ fun p l hp hl hc => ?_); (focus assumption); (focus omega); (focus omega))
  | (with_reducible refine whole_ok ?_))
local macro_rules | `(tactic| walk_at "ok") => `(tactic| first | assumption | exact okT_nil | exact Lts.ok (by assumption) | decide)
local macro_rules | `(tactic| walk_at "g0") => `(tactic| first
  | ((with_reducible refine And.intro ?_ ?_); (focus walk_at "sc"))
  | walk_at "lm"
  | ((with_reducible refine okL_eqtx ?_ ?_ ?_); (focus walk_at "ok"); (focus walk_at "ok"))
  | ((with_reducible refine bj_t ?_ ?_); (focus (first | with_reducible rfl | omega)))
  | ((with_reducible refine bj_f ?_ ?_); (focus omega)))
local macro_rules | `(tactic| walk_at "g1") => `(tactic| first
  | walk_at "ev"
  | walk_at "g0")
local macro_rules | `(tactic| walk_at "g2") => `(tactic| first
  | walk_at "evi"
  | walk_at "g0")
local macro_rules | `(tactic| walk_at "go") => `(tactic| repeat walk_at "g1")
local macro_rules | `(tactic| walk_at "goi") => `(tactic| repeat walk_at "g2")
local macro_rules | `(tactic| walk_at "goa") => `(tactic| repeat first | walk_at "eva" | walk_at "g0")
theorem item_ok {p : D} {size : Int} {n : Nat} {k : Out → Prop} (hp : Pen p) (hs : 0 < size) (hs2 : size ≤ 26) (hn : n ≤ 1000) (h : ∀ p' it, Pen p' → okI n it → k (.ret false (dI it) [p', .int size, .int n])) : okO (phi_litem [p, .int size, .int n]) k := by
  unfold phi_litem b_litem
  walk_at "goi"
  refine bj_mk (fun h1 => ?_) (fun h1 => ?_)
  · walk_at "go"
    exact h p (.c c) hp hc
  · walk_at "goi"
    refine bj_mk (fun h2 => ?_) (fun h2 => ?_)
    · walk_at "go"
      exact h p (.c c) hp hc
    · walk_at "go"
      refine okL_atMem (by omega) (by simpa using (by assumption)) fun x hx => ?_
      obtain ⟨m, rfl, hm0, hm1⟩ : ∃ m : Int, x = .int m ∧ 0 < m ∧ m ≤ 1000 := by
        simp only [List.mem_cons, List.not_mem_nil, or_false] at hx
        rcases hx with rfl | rfl <;> exact ⟨_, rfl, by omega, by omega⟩
      clear hx
      walk_at "go"
      have hmx : 0 ≤ maxI 0 ((n : Int) - 1 - r) ∧ maxI 0 ((n : Int) - 1 - r) < n := by
        unfold maxI
        split <;> omega
      have := h p (.r (maxI 0 ((n : Int) - 1 - r)).toNat) hp (show (maxI 0 ((n : Int) - 1 - r)).toNat < n by omega)
      rw [dI_r, show (((maxI 0 ((n : Int) - 1 - r)).toNat : Nat) : Int) = maxI 0 ((n : Int) - 1 - r) by omega] at this
      exact this
theorem max_nats {n : Nat} {ns : List Nat} : maxD [.lst ((n :: ns).map dNat)] = some (false, .int (maxL n (ns.map fun z : Nat => (z : Int)))) := by
  have e : (n :: ns).map dNat = D.int n :: (ns.map fun z : Nat => (z : Int)).map D.int := by simp [dNat, Function.comp_def]
  rw [e]
  exact max_ints
theorem szs_rep {Rs : List (List It)} {n x : Nat} : szs (Rs ++ [List.replicate n (.c x)]) = szs Rs ++ [n] := by
  unfold szs
  rw [bld_snoc]
  congr 1
  unfold rowS
  rw [List.map_replicate]
  show [(List.replicate n 1).sum] = _
  simp
theorem szs_snoc {Rs : List (List It)} {row : List It} : szs (Rs ++ [row]) = szs Rs ++ [rowS (szs Rs) row] := bld_snoc
theorem LN.snoc {Rs : List (List It)} {row : List It} (h : LN Rs) (hl : Rs.length < 1000) (h1 : 1 ≤ row.length) (h2 : row.length ≤ 12) : LN (Rs ++ [row]) := ⟨by simp; omega, fun r hr => by
  rcases List.mem_append.mp hr with hr | hr
  · exact h.2 r hr
  · rw [List.mem_singleton.mp hr]; exact ⟨h1, h2⟩⟩
theorem mul_tup {ds : List D} {k : Int} (h : ds.length ≤ 1000) (h1 : 0 < ds.length) (h2 : 1 ≤ k) (h3 : k ≤ 1000) : mulVD [.tup ds, .int k] = some (false, .tup (List.replicate k.toNat ds).flatten) := by
  show (if k = 1 then some (false, D.tup ds) else mulD [.tup ds, .int k]) = _
  by_cases hk : k = 1
  · rw [if_pos hk, hk]
    simp
  · rw [if_neg hk]
    show (if ds.length ≤ 1000 ∧ 0 < ds.length ∧ 2 ≤ k ∧ k ≤ 1000 then _ else _) = _
    rw [if_pos ⟨h, h1, by omega, h3⟩]
theorem flatL_nats : ∀ ns : List Nat, flatL (ns.map dNat) = true
  | [] => rfl
  | n :: ns => by
    show (flatD (dNat n) && flatL (ns.map dNat)) = true
    rw [flatL_nats ns]
    rfl
theorem flat_nats {ns : List Nat} : flatC (.lst (ns.map dNat)) = true := flatL_nats ns
theorem lrows_ok {p : D} {most : Int} {k : Out → Prop} (hp : Pen p) (hm : 0 < most) (hm2 : most ≤ 100) (h : ∀ p' Rs, Pen p' → WF Rs → LN Rs → SZ Rs → Rs ≠ [] → (Rs.length : Int) ≤ most → k (.ret false (.tup (Rs.map dRow)) [p', .int most])) : okO (phi_lrows [p, .int most]) k := by
  unfold phi_lrows b_lrows
  walk_at "go"
  refine okL_atMem hr0 (by simpa using hr1) fun x hx => ?_
  obtain ⟨size, rfl, hs0, hs1⟩ : ∃ size : Int, x = .int size ∧ 0 < size ∧ size ≤ 26 := by
    simp only [List.mem_cons, List.not_mem_nil, or_false] at hx
    rcases hx with rfl | rfl | rfl | rfl <;> exact ⟨_, rfl, by omega, by omega⟩
  clear hx
  walk_at "go"
  have ht0 := hr0
  have ht1 := hr1
  refine os_ix (fun i en => ∃ (p : D) (Rs : List (List It)), en = [.o true p, .v (.int most), .v (.int size), .o false (.lst (Rs.map dRow)), .e, .e, .e] ∧ Pen p ∧ Rs.length = i ∧ WF Rs ∧ LN Rs ∧ SZ Rs) ⟨p, [], rfl, hp, rfl, fun n row h => by simp at h, ⟨by simp, by simp⟩, fun s h => by simp [szs, bld] at h⟩ ?_ ?_
  · rintro i d hd en ⟨p, Rs, rfl, hp, hil, hwf, hln, hsz⟩
    obtain ⟨rfl, hlt⟩ := upL_get hd
    rw [Int.zero_add]
    walk_at "go"
    refine okL_atMem (by omega) (by simpa using (by assumption)) fun x hx => ?_
    obtain ⟨mx, rfl, hx0, hx1⟩ : ∃ mx : Int, x = .int mx ∧ 0 < mx ∧ mx ≤ 12 := by
      simp only [List.mem_cons, List.not_mem_nil, or_false] at hx
      rcases hx with rfl | rfl | rfl | rfl <;> exact ⟨_, rfl, by omega, by omega⟩
    clear hx
    walk_at "ev"
    refine take_ok hp (by omega) (by omega) fun p many hp hy0 hy1 => ?_
    walk_at "go"
    refine ok_lcY (fun acc en => ∃ (p : D) (row : List It), en = [.o true p, .v (.int most), .v (.int size), .o false (.lst (Rs.map dRow)), .v (.int i), .v (.int (1 + many)), .e] ∧ Pen p ∧ acc = row.map dI ∧ ∀ it ∈ row, okI i it) ⟨p, [], rfl, hp, rfl, by simp⟩ ?_ ?_ ?_
    · rw [upL_len]; omega
    · rintro q d hd acc en hq ⟨p, row, rfl, hp, rfl, hrow⟩
      walk_at "go"
      refine item_ok hp hs0 hs1 (by omega) fun p it hp hit => ?_
      walk_at "go"
      have hsto : ∀ (P : D → Prop), P (dI it) → okL (stoD (R.sh (dI it))) P := fun P z => z
      refine ⟨p, row ++ [it], rfl, hp, by simp, fun z hz => ?_⟩
      rcases List.mem_append.mp hz with hz | hz
      · exact hrow z hz
      · rw [List.mem_singleton.mp hz]; exact hit
    rintro acc en hlen ⟨p, row, rfl, hp, rfl, hrow⟩
    rw [upL_len, List.length_map] at hlen
    have hrl : 1 ≤ row.length ∧ row.length ≤ 12 := by omega
    have hwf2 : WF (Rs ++ [row]) := hwf.snoc (by rw [hil]; exact hrow)
    have hln2 : LN (Rs ++ [row]) := hln.snoc (by omega) hrl.1 hrl.2
    have hmap : Rs.map dRow ++ [D.tup (row.map dI)] = (Rs ++ [row]).map dRow := by rw [List.map_append]; rfl
    walk_at "go"
    rw [hmap]
    walk_at "goi"
    refine lsizes_ok (Rs := Rs ++ [row]) (rws := .lst ((Rs ++ [row]).map dRow)) rfl hwf2 hln2 ?_
    walk_at "goi"
    cases hss : szs (Rs ++ [row]) with
    | nil =>
      rw [szs_snoc] at hss
      simp at hss
    | cons s0 ss =>
      refine And.intro (by rw [flat_nats]; rfl) ?_
      refine okL_of max_nats ?_
      walk_at "goi"
      obtain ⟨q1, q2, q3⟩ := maxL_spec (ss.map fun z : Nat => (z : Int)) s0
      refine bj_mk (fun h1 => ?_) (fun h1 => ?_)
      · walk_at "go"
        have hx := hc
        have hm0 := hr0
        have hm1 := hr1
        refine okL_of (mul_tup (by simp) (by simp) (by omega) (by omega)) ?_
        have e1 : (List.replicate (1 + r).toNat [D.str (tx [c])]).flatten = (List.replicate (1 + r).toNat (It.c c)).map dI := by
          rw [List.map_replicate]
          simp [dI]
        have hset : ixN ((Rs ++ [row]).map dRow).length (-1) = some Rs.length := by
          unfold ixN
          rw [if_neg (by omega), if_pos (by simp; omega)]
          simp
          omega
        have hset2 : ((Rs ++ [row]).map dRow).set Rs.length (D.tup ((List.replicate (1 + r).toNat (It.c c)).map dI)) = (Rs ++ [List.replicate (1 + r).toNat (It.c c)]).map dRow := by
          rw [List.map_append, List.set_append_right _ _ (by simp)]
          simp [dRow]
        simp -dsimp -implicitDefEqProofs (disch := omega) only [e1]
        walk_at "ev"
        refine okL_of hset ?_
        walk_at "ev"
        rw [hset2]
        walk_at "go"
        refine ⟨p, _, rfl, hp, by simp [hil], hwf.snoc fun it hit => ?_, hln.snoc (by omega) (by simp; omega) (by simp; omega), fun s hs => ?_⟩
        · rw [(List.mem_replicate.mp hit).2]
          exact hx
        · rw [szs_rep] at hs
          rcases List.mem_append.mp hs with hs | hs
          · exact hsz s hs
          · rw [List.mem_singleton.mp hs]; omega
      · walk_at "go"
        refine ⟨p, _, rfl, hp, by simp [hil], hwf2, hln2, fun s hs => ?_⟩
        rw [hss] at hs
        rcases List.mem_cons.mp hs with rfl | hs
        · omega
        · have := q3 (s : Int) (List.mem_map.mpr ⟨s, hs, rfl⟩)
          omega
  · rintro en ⟨p, Rs, rfl, hp, hil, hwf, hln, hsz⟩
    rw [upL_len] at hil
    walk_at "go"
    exact h p Rs hp hwf hln hsz (fun z => by rw [z] at hil; simp at hil; omega) (by omega)
end PyD.S

end

namespace PyD.S
open PySem PySem.Spec L2
/-! _law_reel: slots 0 script 1 k 2 number 3 stir 4 found 5 turn -/
def b_lreel_v2 : En → Fl :=
  (seqF (asV 2 (opF addD (two (opF mulVD (two (cF (.int 6)) (nmF 1))) (cF (.int 5)))))
  (seqF (ifS (tstB (opF ltD (two (nmF 1) (opF lenD (consF (nmF 0) nilF))))) (asV 2 (opF ixUD (two (nmF 0) (nmF 1)))) skF)
  (seqF (ifS (tstB (opF (eqOp false) (two (opF modD (two (nmF 2) (cF (.int 5)))) (cF (.int 2))))) (rtF (lstF (consF (opF fdvD (two (nmF 2) (cF (.int 5)))) (consF (opF (eqOp false) (two (opF modD (two (opF lenD (consF (nmF 0) nilF)) (cF (.int 8)))) (cF (.int 5)))) nilF)))) skF)
  (seqF (asV 3 (opF modD (two (opF addD (two (opF addD (two (opF mulVD (two (opF modD (two (nmF 2) (cF (.int 2147483423)))) (cF (.int 60013)))) (opF mulVD (two (cF (.int 811)) (nmF 1))))) (cF (.int 23)))) (cF (.int 2147483423)))))
  (seqF (endF [false, false, true] (asV 4 (cF (.int 0))))
  (seqF (endF [false, false, false, true, false, true] (frF (itA rg1D (consF (cF (.int 60)) nilF)) (gNm 5) (bodF [false, false, false, false, false, true]
  (seqF (asV 3 (opF modD (two (opF addD (two (opF addD (two (opF addD (two (opF mulVD (two (nmF 3) (nmF 3))) (opF mulVD (two (cF (.int 70001)) (nmF 3))))) (opF mulVD (two (cF (.int 31)) (nmF 5))))) (cF (.int 9)))) (cF (.int 2147483423)))))
  (asV 4 (opF addD (two (opF mulVD (two (nmF 4) (cF (.int 2147483423)))) (nmF 3))))))))
  (rtF (lstF (consF (nmF 4) (consF (opF (eqOp false) (two (opF modD (two (opF lenD (consF (nmF 0) nilF)) (cF (.int 8)))) (cF (.int 5)))) nilF))))))))))
def phi_lreel_v2 : List D → Out := runF [false, false] 4 b_lreel_v2
end PyD.S

namespace PyD.S
open PySem PySem.Spec L2
/-! _law_pick: slots 0 reel* 1 many 2 digit -/
def b_lpick : En → Fl :=
  (seqF (asV 2 (opF modD (two (opF ixUD (two (nmF 0) (cF (.int 0)))) (nmF 1))))
  (seqF (stF 0 (cF (.int 0)) (opF fdvD (two (opF ixUD (two (nmF 0) (cF (.int 0)))) (nmF 1))) setD)
  (rtF (nmF 2))))
def phi_lpick : List D → Out := runF [true, false] 1 b_lpick
end PyD.S

namespace PyD.S
open PySem PySem.Spec L2
/-! _law_text: slots 0 reel* 1 most 2 letters 3 many 4 way 5 some 6 text 7 one 8 other 9 start 10 k -/
def b_ltext_v3 : En → Fl :=
  (seqF (asV 2 (opF ixUD (two (lstF (consF (cF (.str (tx [97]))) (consF (cF (.str (tx [97, 98]))) (consF (cF (.str (tx [98, 97, 99]))) (consF (cF (.str (tx [122, 121, 120, 119]))) nilF))))) (callF [true, false] phi_lpick (consF (nmF 0) (consF (cF (.int 4)) nilF))))))
  (seqF (ifS (tstF (opF ixUD (two (nmF 0) (cF (.int 1))))) (asV 2 (cF (.str (tx [113, 97, 122, 119, 115, 120, 101, 100, 99, 114, 102, 118, 116, 103, 98, 121, 104, 110, 117, 106, 109, 105, 107, 111, 108, 112])))) skF)
  (seqF (asV 3 (callF [true, false] phi_lpick (consF (nmF 0) (consF (opF addD (two (nmF 1) (cF (.int 1)))) nilF))))
  (seqF (asV 4 (callF [true, false] phi_lpick (consF (nmF 0) (consF (cF (.int 5)) nilF))))
  (seqF (asV 5 (lcF (itA rg1D (consF (opF addD (two (cF (.int 1)) (callF [true, false] phi_lpick (consF (nmF 0) (consF (cF (.int 5)) nilF))))) nilF)) (gNm 10) yesT (opF ixUD (two (nmF 2) (callF [true, false] phi_lpick (consF (nmF 0) (consF (opF lenD (consF (nmF 2) nilF)) nilF))))) [10]))
  (seqF (asV 6 (bmF isStr joinD (cF (.str (tx []))) (consF (nmF 5) nilF)))
  (seqF (endF [false, false, false, false, false, true] (ifS (tstB (opF (eqOp false) (two (nmF 4) (cF (.int 1))))) (asV 6 (opF mulVD (two (nmF 6) (opF addD (two (nmF 1) (cF (.int 1))))))) skF))
  (seqF (endF [false, false, false, false, false, false, false, true] (ifS (tstB (opF (eqOp false) (two (nmF 4) (cF (.int 2))))) (seqF (endF [false, false, false, false, false, false, true] (asP 7 8 (consF (nmF 6) (consF (opF ixUD (two (nmF 2) (opF negD (one (cF (.int 1)))))) nilF))))
  (seqF (endF [false, false, false, false, false, false, false, false, true] (whF (tstB (opF ltD (two (opF lenD (consF (nmF 7) nilF)) (nmF 3)))) (asP 7 8 (consF (opF addD (two (nmF 7) (nmF 8))) (consF (nmF 7) nilF))) 100000))
  (asV 6 (nmF 7)))) skF))
  (seqF (whF (andT (tstB (opF gtD (two (nmF 4) (cF (.int 2))))) (tstB (opF ltD (two (opF lenD (consF (nmF 6) nilF)) (nmF 3))))) (bodF [false, false, false, false, false, false, false, false, false, true]
  (seqF (asV 9 (callF [true, false] phi_lpick (consF (nmF 0) (consF (opF lenD (consF (nmF 6) nilF)) nilF))))
  (asV 6 (opF addD (two (opF addD (two (nmF 6) (slF slD (nmF 6) (some (nmF 9)) (some (opF addD (two (opF addD (two (nmF 9) (cF (.int 1)))) (callF [true, false] phi_lpick (consF (nmF 0) (consF (cF (.int 6)) nilF))))))))) (opF ixUD (two (nmF 2) (callF [true, false] phi_lpick (consF (nmF 0) (consF (opF lenD (consF (nmF 2) nilF)) nilF)))))))))) 100000)
  (seqF (endF [false, false, true, false, true] (whF (andT (tstB (opF (eqOp false) (two (nmF 4) (cF (.int 0))))) (tstB (opF ltD (two (opF lenD (consF (nmF 6) nilF)) (nmF 3))))) (asV 6 (opF addD (two (nmF 6) (opF ixUD (two (nmF 2) (callF [true, false] phi_lpick (consF (nmF 0) (consF (opF lenD (consF (nmF 2) nilF)) nilF)))))))) 100000))
  (rtF (slF slD (nmF 6) none (some (nmF 3))))))))))))))
def phi_ltext_v3 : List D → Out := runF [true, false] 9 b_ltext_v3
end PyD.S

section
set_option maxHeartbeats 4000000
namespace PyD.S
open PySem PySem.Spec L2 PyD.S
local macro_rules | `(tactic| walk_at "ev") => `(tactic| simp -dsimp -implicitDefEqProofs only [is_nn, is_in, is_sn, is_tn, is_ln, is_bn, os_endA, os_endO, os_endG, os_endP, os_endD, os_endS, os_endFr, os_endWh, os_bod, endK_nx, endK_rt, endK_bk, endK_ct, endK_exc, bodK_nx, bodK_rt, bodK_bk, bodK_ct, bodK_exc, frM_t, frM_f, frM_n, wpM_t, wpM_f, wpM_n, ok_c, ok_nm, nmK_v, nmK_o, ok_mv, mvK_v, mvK_o, ok_dm, dmK_v, dmK_o, ok_nil, ok_cons, ok_one, ok_two, ok_op, ok_tstB, ok_tstF, ok_not, bi_true, bi_false, bi_dec, bj_true, bj_false, bj_not, bi_not_dec, ok_and, ok_or, ok_ifF, ok_andF, ok_orF, ok_notF, ok_tup, ok_lst, ok_dic, ok_bm, intR_int, ok_prtN, ok_prtS, ok_sl, callK_ret, ok_call, ok_itA, ok_lc, ok_ch, ok_mut, mutG, shK_sh, shK2_sh, ordB, ownK_o, os_sk, os_bk, os_ct, seqK_nx, seqK_rt, seqK_bk, seqK_ct, seqK_exc, os_seq, os_dr, os_rt, vK_sh, vK_fr, os_asV, os_asO, os_asG, os_asP, os_st, oK_fr, ok_gNm, ok_gTp, ok_gNms0, ok_gNms1, os_fr, ok_run, defK_nx, defK_sh, defK_fr, loopK_nx, loopK_ct, loopK_bk, loopK_rt, okL_some, okL_map, okL_if, okL_ifo, rsls, rsl, stos, stoD, mkR, blD, free_eq, frS_e, frS_v, frS_o, nxK_nx, List.getElem?_cons_zero, List.getElem?_cons_succ, List.set_cons_zero, List.set_cons_succ, List.length_cons, List.length_nil, Nat.zero_add, Nat.reduceAdd, mkE, slIn, List.replicate, List.cons_append, List.nil_append, outsOf, pick, lentOk, nodupB, slotsOf, borrows, putBack, resFlat, add_tx, add_lst, add_tup, add_int, sub_int, mulV_int, mod_int, fdv_int, pow_int, neg_int, eq_int, eqOp_eq, ne_false, ne_true, tx_list, len_tx, len_lst, len_tup, len_scr, len_dic, ix_lst, ix_tup, ix_tx, ix_scr, at_0, at_1, at_2, set_lst, app_lst, ixN_30, ixN_31, ixN_32, ixN_20, ixN_21, ixN_10, sl_tx, sl_lst, sl_tup, sl_scr, true_and, and_true, ordD, Bool.not_false, Bool.not_true, Bool.and_true, Bool.true_and, Bool.or_true, Bool.true_or, List.elem, Bool.false_eq_true, if_true, if_false, isLst, isStr, isDic, int_bl, int_int, list_lst, list_tup, list_scr, tuple_lst, tuple_tup, max2_int, min2_int, isi_int, isi_bl, isi_str, isi_tup, isi_lst, isi_non, isi_dic, ty_ii, ty_ib, ty_is, ty_it, ty_il, ty_bi, ty_bb, ty_bs, ty_bt, ty_bL, ty_si, ty_sb, ty_ss, ty_st, ty_sl, ty_ti, ty_tb, ty_ts, ty_tt, ty_tl, ty_li, ty_lb, ty_ls, ty_lt, ty_ll, ty_ni, ty_nb, ty_ns, ty_nt, ty_nl, rg1, rg2, rg3, it_lst, it_tup, it_scr, it_str, enum_lst, zip_lst, zip_tup, rev_lst, rev_tup, tru_int, tru_bl, tru_lst, tru_tup, wipeE, resE, List.all_cons, List.all_nil, Bool.and_eq_true, dtx, yesT_ok, and_self])
local macro_rules | `(tactic| walk_at "evi") => `(tactic| simp -dsimp -implicitDefEqProofs only [os_if, os_endIf, is_nn, is_in, is_sn, is_tn, is_ln, is_bn, os_endA, os_endO, os_endG, os_endP, os_endD, os_endS, os_endFr, os_endWh, os_bod, endK_nx, endK_rt, endK_bk, endK_ct, endK_exc, bodK_nx, bodK_rt, bodK_bk, bodK_ct, bodK_exc, frM_t, frM_f, frM_n, wpM_t, wpM_f, wpM_n, ok_c, ok_nm, nmK_v, nmK_o, ok_mv, mvK_v, mvK_o, ok_dm, dmK_v, dmK_o, ok_nil, ok_cons, ok_one, ok_two, ok_op, ok_tstB, ok_tstF, ok_not, bi_true, bi_false, bi_dec, bj_true, bj_false, bj_not, bi_not_dec, ok_and, ok_or, ok_ifF, ok_andF, ok_orF, ok_notF, ok_tup, ok_lst, ok_dic, ok_bm, intR_int, ok_prtN, ok_prtS, ok_sl, callK_ret, ok_call, ok_itA, ok_lc, ok_ch, ok_mut, mutG, shK_sh, shK2_sh, ordB, ownK_o, os_sk, os_bk, os_ct, seqK_nx, seqK_rt, seqK_bk, seqK_ct, seqK_exc, os_seq, os_dr, os_rt, vK_sh, vK_fr, os_asV, os_asO, os_asG, os_asP, os_st, oK_fr, ok_gNm, ok_gTp, ok_gNms0, ok_gNms1, os_fr, ok_run, defK_nx, defK_sh, defK_fr, loopK_nx, loopK_ct, loopK_bk, loopK_rt, okL_some, okL_map, okL_if, okL_ifo, rsls, rsl, stos, stoD, mkR, blD, free_eq, frS_e, frS_v, frS_o, nxK_nx, List.getElem?_cons_zero, List.getElem?_cons_succ, List.set_cons_zero, List.set_cons_succ, List.length_cons, List.length_nil, Nat.zero_add, Nat.reduceAdd, mkE, slIn, List.replicate, List.cons_append, List.nil_append, outsOf, pick, lentOk, nodupB, slotsOf, borrows, putBack, resFlat, add_tx, add_lst, add_tup, add_int, sub_int, mulV_int, mod_int, fdv_int, pow_int, neg_int, eq_int, eqOp_eq, ne_false, ne_true, tx_list, len_tx, len_lst, len_tup, len_scr, len_dic, ix_lst, ix_tup, ix_tx, ix_scr, at_0, at_1, at_2, set_lst, app_lst, ixN_30, ixN_31, ixN_32, ixN_20, ixN_21, ixN_10, sl_tx, sl_lst, sl_tup, sl_scr, true_and, and_true, ordD, Bool.not_false, Bool.not_true, Bool.and_true, Bool.true_and, Bool.or_true, Bool.true_or, List.elem, Bool.false_eq_true, if_true, if_false, isLst, isStr, isDic, int_bl, int_int, list_lst, list_tup, list_scr, tuple_lst, tuple_tup, max2_int, min2_int, isi_int, isi_bl, isi_str, isi_tup, isi_lst, isi_non, isi_dic, ty_ii, ty_ib, ty_is, ty_it, ty_il, ty_bi, ty_bb, ty_bs, ty_bt, ty_bL, ty_si, ty_sb, ty_ss, ty_st, ty_sl, ty_ti, ty_tb, ty_ts, ty_tt, ty_tl, ty_li, ty_lb, ty_ls, ty_lt, ty_ll, ty_ni, ty_nb, ty_ns, ty_nt, ty_nl, rg1, rg2, rg3, it_lst, it_tup, it_scr, it_str, enum_lst, zip_lst, zip_tup, rev_lst, rev_tup, tru_int, tru_bl, tru_lst, tru_tup, wipeE, resE, List.all_cons, List.all_nil, Bool.and_eq_true, dtx, yesT_ok, and_self])
local macro_rules | `(tactic| walk_at "eva") => `(tactic| simp -dsimp -implicitDefEqProofs only [is_nn, is_in, is_sn, is_tn, is_ln, is_bn, os_endA, os_endO, os_endG, os_endP, os_endD, os_endS, os_endFr, os_endWh, os_bod, endK_nx, endK_rt, endK_bk, endK_ct, endK_exc, bodK_nx, bodK_rt, bodK_bk, bodK_ct, bodK_exc, frM_t, frM_f, frM_n, wpM_t, wpM_f, wpM_n, ok_c, ok_nm, nmK_v, nmK_o, ok_mv, mvK_v, mvK_o, ok_dm, dmK_v, dmK_o, ok_nil, ok_cons, ok_one, ok_two, ok_op, ok_tstB, ok_tstF, ok_not, bi_true, bi_false, bi_dec, bj_true, bj_false, bj_not, bi_not_dec, ok_and, ok_or, ok_notF, ok_tup, ok_lst, ok_dic, ok_bm, intR_int, ok_prtN, ok_prtS, ok_sl, callK_ret, ok_call, ok_itA, ok_lc, ok_ch, ok_mut, mutG, shK_sh, shK2_sh, ordB, ownK_o, os_sk, os_bk, os_ct, seqK_nx, seqK_rt, seqK_bk, seqK_ct, seqK_exc, os_seq, os_dr, os_rt, vK_sh, vK_fr, os_asV, os_asO, os_asG, os_asP, os_st, oK_fr, ok_gNm, ok_gTp, ok_gNms0, ok_gNms1, os_fr, ok_run, defK_nx, defK_sh, defK_fr, loopK_nx, loopK_ct, loopK_bk, loopK_rt, okL_some, okL_map, okL_if, okL_ifo, rsls, rsl, stos, stoD, mkR, blD, free_eq, frS_e, frS_v, frS_o, nxK_nx, List.getElem?_cons_zero, List.getElem?_cons_succ, List.set_cons_zero, List.set_cons_succ, List.length_cons, List.length_nil, Nat.zero_add, Nat.reduceAdd, mkE, slIn, List.replicate, List.cons_append, List.nil_append, outsOf, pick, lentOk, nodupB, slotsOf, borrows, putBack, resFlat, add_tx, add_lst, add_tup, add_int, sub_int, mulV_int, mod_int, fdv_int, pow_int, neg_int, eq_int, eqOp_eq, ne_false, ne_true, tx_list, len_tx, len_lst, len_tup, len_scr, len_dic, ix_lst, ix_tup, ix_tx, ix_scr, at_0, at_1, at_2, set_lst, app_lst, ixN_30, ixN_31, ixN_32, ixN_20, ixN_21, ixN_10, sl_tx, sl_lst, sl_tup, sl_scr, true_and, and_true, ordD, Bool.not_false, Bool.not_true, Bool.and_true, Bool.true_and, Bool.or_true, Bool.true_or, List.elem, Bool.false_eq_true, if_true, if_false, isLst, isStr, isDic, int_bl, int_int, list_lst, list_tup, list_scr, tuple_lst, tuple_tup, max2_int, min2_int, isi_int, isi_bl, isi_str, isi_tup, isi_lst, isi_non, isi_dic, ty_ii, ty_ib, ty_is, ty_it, ty_il, ty_bi, ty_bb, ty_bs, ty_bt, ty_bL, ty_si, ty_sb, ty_ss, ty_st, ty_sl, ty_ti, ty_tb, ty_ts, ty_tt, ty_tl, ty_li, ty_lb, ty_ls, ty_lt, ty_ll, ty_ni, ty_nb, ty_ns, ty_nt, ty_nl, rg1, rg2, rg3, it_lst, it_tup, it_scr, it_str, enum_lst, zip_lst, zip_tup, rev_lst, rev_tup, tru_int, tru_bl, tru_lst, tru_tup, wipeE, resE, List.all_cons, List.all_nil, Bool.and_eq_true, dtx, yesT_ok, and_self])
local macro_rules | `(tactic| walk_at "sd") => `(tactic| repeat (refine And.intro (by first | omega | assumption | exact rfl) ?_))
local macro_rules | `(tactic| walk_at "sc") => `(tactic| first | assumption | omega | exact rfl | exact mulOk_r (by omega) (by omega) | exact mulOk_l (by omega) (by omega) | exact log_ok (by omega) (by omega) | (simp only [List.length_append, List.length_cons, List.length_nil, List.length_take, List.length_drop, List.length_map, List.length_replicate, upL_len]; omega) | (refine And.intro ?_ ?_ <;> walk_at "sc") | decide)
set_option hygiene false in
local macro_rules | `(tactic| walk_at "lm") => `(tactic| first
  | ((with_reducible refine take_ok ?_ ?_ ?_ fun p r hp hr0 hr1 => ?_); (focus assumption); (focus omega); (focus omega))
  | ((with_reducible refine pick_ok ?_ ?_ ?_ fun p r hp hr0 hr1 => ?_); (focus assumption); (focus omega); (focus omega))
  | ((with_reducible refine pick2_ok ?_ ?_ ?_ fun p r hp hr0 hr1 => ?_); (focus assumption); (focus omega); (focus omega))
  | ((with_reducible refine letter_ok ?_ ?_ ?_ fun p c hp hc => ?_); (focus assumption); (focus omega); (focus omega))
  | ((with_reducible refine signs_ok ?_ ?_ ?_ ?_ ?_ fun p l hp hl hc => ?_); (focus assumption); (focus omega); (focus omega); (focus omega); (focus omega))
  | ((with_reducible refine text_ok ?_ ?_ ?_ fun p l hp hl hc => ?_); (focus assumption); (focus omega); (focus omega))
  | ((with_reducible refine rtext_ok ?_ ?_ ?_ fun p l hp hl hc => ?_); (focus assumption); (focus omega); (focus omega))
  | ((with_reducible refine rtext2_ok ?_ ?_ ?_ fun p l hp hl hc => ?_); (focus assumption); (focus omega); (focus omega))
  | (with_reducible refine whole_ok ?_))
local macro_rules | `(tactic| walk_at "ok") => `(tactic| first | assumption | exact okT_nil | exact Lts.ok (by assumption) | decide)
local macro_rules | `(tactic| walk_at "g0") => `(tactic| first
  | ((with_reducible refine And.intro ?_ ?_); (focus walk_at "sc"))
  | walk_at "lm"
  | ((with_reducible refine okL_eqtx ?_ ?_ ?_); (focus walk_at "ok"); (focus walk_at "ok"))
  | ((with_reducible refine bj_t ?_ ?_); (focus (first | with_reducible rfl | omega)))
  | ((with_reducible refine bj_f ?_ ?_); (focus omega)))
local macro_rules | `(tactic| walk_at "g1") => `(tactic| first
  | walk_at "ev"
  | walk_at "g0")
local macro_rules | `(tactic| walk_at "g2") => `(tactic| first
  | walk_at "evi"
  | walk_at "g0")
local macro_rules | `(tactic| walk_at "go") => `(tactic| repeat walk_at "g1")
local macro_rules | `(tactic| walk_at "goi") => `(tactic| repeat walk_at "g2")
local macro_rules | `(tactic| walk_at "goa") => `(tactic| repeat first | walk_at "eva" | walk_at "g0")
/-- a reel -/
def Reel2 (d : D) : Prop := ∃ (i : Int) (f : Bool), d = .lst [.int i, .bl f]
theorem pick2_ok {p : D} {m : Int} {k : Out → Prop} (hp : Reel2 p) (hm : 0 < m) (hm2 : m ≤ 1000000000) (h : ∀ p' r, Reel2 p' → 0 ≤ r → r < m → k (.ret false (.int r) [p', .int m])) : okO (phi_lpick [p, .int m]) k := by
  obtain ⟨i, f, rfl⟩ := hp
  unfold phi_lpick b_lpick
  walk_at "ev"
  refine ⟨hm, ⟨hm, log_ok hm (by omega)⟩, ?_⟩
  exact h _ _ ⟨_, _, rfl⟩ (Int.emod_nonneg _ (by omega)) (Int.emod_lt_of_pos _ hm)
theorem reel2_ok {ns : List Int} {j : Int} {k : Out → Prop} (h0 : 0 ≤ j) (h1 : j ≤ 1000) (h : ∀ p, Reel2 p → k (.ret true p [.scr ns, .int j])) : okO (phi_lreel_v2 [.scr ns, .int j]) k := by
  unfold phi_lreel_v2 b_lreel_v2
  walk_at "go"
  refine os_cut (fun en => ∃ i, en = [.v (.scr ns), .v (.int j), .v (.int i), .e, .e, .e]) ?_ ?_
  · walk_at "evi"
    refine bj_mk (fun hl => ?_) (fun hl => ?_)
    · walk_at "ev"
      refine okL_at h0 hl fun x hx => ?_
      walk_at "ev"
      exact ⟨_, rfl⟩
    · walk_at "ev"
      exact ⟨_, rfl⟩
  · rintro en ⟨i, rfl⟩
    walk_at "goi"
    refine bj_mk (fun hl => ?_) (fun hl => ?_)
    · walk_at "go"
      exact h _ ⟨_, _, rfl⟩
    · walk_at "go"
      generalize hst : (_ : Int) % 2147483423 = st
      have hst : 0 ≤ st ∧ st < 2147483423 := by omega
      refine os_ix (fun _ en => ∃ st f, (0 ≤ st ∧ st < 2147483423) ∧ en = [.v (.scr ns), .v (.int j), .e, .v (.int st), .v (.int f), .e]) ⟨_, _, hst, rfl⟩ ?_ ?_
      · rintro t d hd en ⟨st, f, hst, rfl⟩
        obtain ⟨rfl, hlt⟩ := upL_get hd
        walk_at "go"
        exact ⟨_, _, ⟨Int.emod_nonneg (st * st + 70001 * st + 31 * (0 + (t : Int)) + 9) (by omega), Int.emod_lt_of_pos _ (by omega)⟩, rfl⟩
      · rintro en ⟨st, f, hst, rfl⟩
        walk_at "go"
        exact h _ ⟨_, _, rfl⟩
theorem rtext2_ok {p : D} {m : Int} {k : Out → Prop} (hp : Reel2 p) (hm : 0 ≤ m) (hm2 : m ≤ 900) (h : ∀ p' l, Reel2 p' → (l.length : Int) ≤ m → Lts l → k (.ret false (.str (tx l)) [p', .int m])) : okO (phi_ltext_v3 [p, .int m]) k := by
  unfold phi_ltext_v3 b_ltext_v3
  walk_at "go"
  refine okL_atMem hr0 (by simpa using hr1) fun x hx => ?_
  obtain ⟨ls, rfl, hls, hln, hlm⟩ : ∃ ls, x = .str (tx ls) ∧ Lts ls ∧ ls ≠ [] ∧ ls.length ≤ 26 := by
    simp only [List.mem_cons, List.not_mem_nil, or_false] at hx
    rcases hx with rfl | rfl | rfl | rfl <;> exact ⟨_, rfl, by decide, by simp, by decide⟩
  clear hx
  have hlp : 0 < ls.length := List.length_pos_iff.mpr hln
  walk_at "ev"
  refine os_cut (fun en => ∃ ls, en = [.o true p, .v (.int m), .v (.str (tx ls)), .e, .e, .e, .e, .e, .e, .e, .e] ∧ Lts ls ∧ 0 < ls.length ∧ ls.length ≤ 26) ?_ ?_
  · obtain ⟨i, f, rfl⟩ := hp
    walk_at "evi"
    refine bi_mk (fun h1 => ?_) (fun h1 => ?_)
    · walk_at "go"
      exact ⟨_, rfl, by decide, by decide, by decide⟩
    · walk_at "go"
      exact ⟨ls, rfl, hls, hlp, hlm⟩
  clear hls hln hlm hlp ls
  rintro en ⟨ls, rfl, hls⟩
  obtain ⟨hls, hlp, hlm⟩ := hls
  walk_at "ev"
  refine pick2_ok hp (by omega) (by omega) fun p many hp hm0 hm1 => ?_
  walk_at "ev"
  refine pick2_ok hp (by omega) (by omega) fun p way hp hw0 hw1 => ?_
  walk_at "go"
  refine ok_lcY (fun acc en => ∃ p' us, Reel2 p' ∧ acc = us.map dtx ∧ (∀ l ∈ us, ∃ c, l = [c] ∧ Lt c) ∧ en = [.o true p', .v (.int m), .v (.str (tx ls)), .v (.int many), .v (.int way), .e, .e, .e, .e, .e, .e]) ⟨p, [], hp, rfl, by simp, rfl⟩ (by rw [upL_len]; omega) ?_ ?_
  · rintro i d - acc en - ⟨p', us, hp', rfl, hl, rfl⟩
    walk_at "go"
    refine okL_atMem (by omega) (by omega) fun c hc => ?_
    walk_at "ev"
    refine ⟨p, us ++ [[c]], hp, by simp [dtx], ?_, rfl⟩
    intro l hl'
    rcases List.mem_append.mp hl' with z | z
    · exact hl l z
    · exact ⟨c, by simpa using z, hls c hc⟩
  rintro acc en hlen ⟨p, us, hp, rfl, hus, rfl⟩
  have h1 : ∀ l ∈ us, l.length = 1 := fun l z => by obtain ⟨c, rfl, _⟩ := hus l z; rfl
  have hlen : us.length = (1 + r).toNat := by rw [upL_len] at hlen; simpa using hlen
  walk_at "go"
  rw [join_txs h1 (by omega)]
  have hc : Lts us.flatten := by
    intro c hc
    obtain ⟨l, h2, h3⟩ := List.mem_flatten.mp hc
    obtain ⟨c', rfl, h4⟩ := hus l h2
    rw [List.mem_singleton.mp h3]
    exact h4
  have hl : us.flatten.length = us.length := by rw [List.length_flatten, sum_ones h1]
  revert hc hl
  generalize us.flatten = l
  intro hc hl
  walk_at "go"
  refine os_cut (fun en => ∃ l, en = [.o true p, .v (.int m), .v (.str (tx ls)), .v (.int many), .v (.int way), .e, .v (.str (tx l)), .e, .e, .e, .e] ∧ Lts l ∧ 1 ≤ l.length ∧ l.length ≤ 5000) ?_ ?_
  · walk_at "evi"
    refine bj_mk (fun hw => ?_) (fun hw => ?_)
    · walk_at "go"
      rw [mul_tx, okL_if]
      walk_at "go"
      refine ⟨_, rfl, fun c hc' => ?_, ?_⟩
      · obtain ⟨a, ha, hb⟩ := List.mem_flatten.mp hc'
        rw [(List.mem_replicate.mp ha).2] at hb
        exact hc c hb
      · rw [rep_len]
        have h2 : 1 ≤ (m + 1).toNat := by omega
        have h3 : (m + 1).toNat * l.length ≤ 901 * 5 := Nat.mul_le_mul (by omega) (by omega)
        have h4 : 1 * 1 ≤ (m + 1).toNat * l.length := Nat.mul_le_mul h2 (by omega)
        omega
    · walk_at "go"
      exact ⟨l, rfl, hc, by omega, by omega⟩
  clear hl hc l
  rintro en ⟨l, rfl, hc, hl0, hl1⟩
  walk_at "ev"
  refine os_cut (fun en => ∃ l, en = [.o true p, .v (.int m), .v (.str (tx ls)), .v (.int many), .v (.int way), .e, .v (.str (tx l)), .e, .e, .e, .e] ∧ Lts l ∧ 1 ≤ l.length ∧ l.length ≤ 5000) ?_ ?_
  · walk_at "evi"
    refine bj_mk (fun hw => ?_) (fun hw => ?_)
    · walk_at "go"
      have hln : ls ≠ [] := fun z => by rw [z] at hlp; simp at hlp
      rw [at_last hln]
      obtain ⟨c, hcl⟩ : ∃ c, ls.getLast? = some c := by
        cases e : ls.getLast? with
        | none => exact absurd (List.getLast?_eq_none_iff.mp e) hln
        | some c => exact ⟨c, rfl⟩
      have hcc : Lt c := hls c (List.mem_of_getLast? hcl)
      rw [hcl]
      walk_at "go"
      refine os_while (fun z en => ∃ one other, z = (many - one.length).toNat ∧ en = [.o true p, .v (.int m), .v (.str (tx ls)), .v (.int many), .v (.int way), .e, .e, .v (.str (tx one)), .v (.str (tx other)), .e, .e] ∧ Lts one ∧ Lts other ∧ 1 ≤ other.length ∧ other.length ≤ one.length ∧ one.length ≤ 5000) 100000 _ _ (by omega) ⟨l, [c], rfl, rfl, hc, Lts.one hcc, by simp, by simpa using hl0, hl1⟩ ?_
      rintro z en ⟨one, other, rfl, rfl, h1, h2, h3, h4, h5⟩
      walk_at "go"
      refine bj_mk (fun hlt => ?_) (fun hlt => ?_)
      · walk_at "go"
        refine ⟨_, ?_, one ++ other, one, rfl, rfl, h1.app h2, h1, by omega, by simp, by simp only [List.length_append]; omega⟩
        simp only [List.length_append]
        omega
      · walk_at "go"
        exact ⟨one, rfl, h1, by omega, h5⟩
    · walk_at "go"
      exact ⟨l, rfl, hc, hl0, hl1⟩
  clear hl0 hl1 hc l
  rintro en ⟨l, rfl, hc, hl0, hl1⟩
  walk_at "ev"
  refine os_cut (fun en => ∃ p l, en = [.o true p, .v (.int m), .v (.str (tx ls)), .v (.int many), .v (.int way), .e, .v (.str (tx l)), .e, .e, .e, .e] ∧ Reel2 p ∧ Lts l ∧ 1 ≤ l.length ∧ l.length ≤ 5000) ?_ ?_
  · refine os_while (fun z en => ∃ p l, z = (many - l.length).toNat ∧ en = [.o true p, .v (.int m), .v (.str (tx ls)), .v (.int many), .v (.int way), .e, .v (.str (tx l)), .e, .e, .e, .e] ∧ Reel2 p ∧ Lts l ∧ 1 ≤ l.length ∧ l.length ≤ 5000) 100000 _ _ (by omega) ⟨p, l, rfl, rfl, hp, hc, hl0, hl1⟩ ?_
    clear hl0 hl1 hc l hp p
    rintro z en ⟨p, l, rfl, rfl, hp, hc, hl0, hl1⟩
    walk_at "go"
    refine bj_mk (fun hw => ?_) (fun hw => ?_)
    · walk_at "go"
      refine bj_mk (fun hlt => ?_) (fun hlt => ?_)
      · walk_at "ev"
        refine ⟨by omega, pick2_ok hp (by omega) (by omega) fun p a hp ha0 ha1 => ?_⟩
        walk_at "ev"
        refine pick2_ok hp (by omega) (by omega) fun p b hp hb0 hb1 => ?_
        walk_at "ev"
        rw [cut_mid (by omega) (by omega)]
        have hx : (List.drop a.toNat (List.take (a + 1 + b).toNat l)).length ≤ 6 := by
          rw [List.length_drop, List.length_take]
          omega
        walk_at "go"
        refine okL_atMem (by omega) (by omega) fun c hcm => ?_
        have hl3 : (l ++ List.drop a.toNat (List.take (a + 1 + b).toNat l) ++ [c]).length ≤ l.length + 7 ∧ l.length < (l ++ List.drop a.toNat (List.take (a + 1 + b).toNat l) ++ [c]).length := by
          simp only [List.length_append, List.length_singleton]
          omega
        walk_at "ev"
        refine ⟨by simp only [List.length_append, List.length_singleton] at hl3 ⊢; omega, _, ?_, p, _, rfl, rfl, hp, (hc.app ((hc.take _).drop _)).app (Lts.one (hls c hcm)), by omega, by omega⟩
        omega
      · walk_at "go"
        exact ⟨p, l, rfl, hp, hc, hl0, hl1⟩
    · walk_at "go"
      exact ⟨p, l, rfl, hp, hc, hl0, hl1⟩
  clear hl0 hl1 hc l hp p
  rintro en ⟨p, l, rfl, hp, hc, hl0, hl1⟩
  walk_at "ev"
  refine os_while (fun z en => ∃ p l, z = (many - l.length).toNat ∧ en = [.o true p, .v (.int m), .v (.str (tx ls)), .v (.int many), .v (.int way), .e, .v (.str (tx l)), .e, .e, .e, .e] ∧ Reel2 p ∧ Lts l ∧ 1 ≤ l.length ∧ l.length ≤ 5000) 100000 _ _ (by omega) ⟨p, l, rfl, rfl, hp, hc, hl0, hl1⟩ ?_
  clear hl0 hl1 hc l hp p
  rintro z en ⟨p, l, rfl, rfl, hp, hc, hl0, hl1⟩
  have fin : l.length ≤ 16777216 ∧ k (.ret false (.str (tx (cutL l none (some many)))) [p, .int m]) := by
    rw [cut_to hm0]
    exact ⟨by omega, h p _ hp (by rw [List.length_take]; omega) (hc.take _)⟩
  walk_at "go"
  refine bj_mk (fun hw => ?_) (fun hw => ?_)
  · walk_at "go"
    refine bj_mk (fun hlt => ?_) (fun hlt => ?_)
    · walk_at "go"
      refine okL_atMem (by omega) (by omega) fun c hcm => ?_
      walk_at "ev"
      refine ⟨by simp; omega, _, ?_, p, _, rfl, rfl, hp, hc.app (Lts.one (hls c hcm)), by simp, by simp; omega⟩
      simp only [List.length_append, List.length_singleton]
      omega
    · walk_at "ev"
      exact fin
  · walk_at "ev"
    exact fin

end PyD.S

end

section
set_option maxHeartbeats 8000000
namespace PyD.S
open PySem PySem.Spec L2 PyD.S
local macro_rules | `(tactic| walk_at "ev") => `(tactic| simp -dsimp -implicitDefEqProofs only [is_nn, is_in, is_sn, is_tn, is_ln, is_bn, os_endA, os_endO, os_endG, os_endP, os_endD, os_endS, os_endFr, os_endWh, os_bod, endK_nx, endK_rt, endK_bk, endK_ct, endK_exc, bodK_nx, bodK_rt, bodK_bk, bodK_ct, bodK_exc, frM_t, frM_f, frM_n, wpM_t, wpM_f, wpM_n, ok_c, ok_nm, nmK_v, nmK_o, ok_mv, mvK_v, mvK_o, ok_dm, dmK_v, dmK_o, ok_nil, ok_cons, ok_one, ok_two, ok_op, ok_tstB, ok_tstF, ok_not, bi_true, bi_false, bi_dec, bj_true, bj_false, bj_not, bi_not_dec, ok_and, ok_or, ok_ifF, ok_andF, ok_orF, ok_notF, ok_tup, ok_lst, ok_dic, ok_bm, intR_int, ok_prtN, ok_prtS, ok_sl, callK_ret, ok_call, ok_itA, ok_lc, ok_ch, ok_mut, mutG, shK_sh, shK2_sh, ordB, ownK_o, os_sk, os_bk, os_ct, seqK_nx, seqK_rt, seqK_bk, seqK_ct, seqK_exc, os_seq, os_dr, os_rt, vK_sh, vK_fr, os_asV, os_asO, os_asG, os_asP, os_st, oK_fr, ok_gNm, ok_gTp, ok_gNms0, ok_gNms1, os_fr, ok_run, defK_nx, defK_sh, defK_fr, loopK_nx, loopK_ct, loopK_bk, loopK_rt, okL_some, okL_map, okL_if, okL_ifo, rsls, rsl, stos, stoD, mkR, blD, free_eq, frS_e, frS_v, frS_o, nxK_nx, List.getElem?_cons_zero, List.getElem?_cons_succ, List.set_cons_zero, List.set_cons_succ, List.length_cons, List.length_nil, Nat.zero_add, Nat.reduceAdd, mkE, slIn, List.replicate, List.cons_append, List.nil_append, outsOf, pick, lentOk, nodupB, slotsOf, borrows, putBack, resFlat, add_tx, add_lst, add_tup, add_int, sub_int, mulV_int, mod_int, fdv_int, pow_int, neg_int, eq_int, eqOp_eq, ne_false, ne_true, tx_list, len_tx, len_lst, len_tup, len_scr, len_dic, ix_lst, ix_tup, ix_tx, ix_scr, at_0, at_1, at_2, set_lst, app_lst, ixN_30, ixN_31, ixN_32, ixN_20, ixN_21, ixN_10, sl_tx, sl_lst, sl_tup, sl_scr, true_and, and_true, ordD, Bool.not_false, Bool.not_true, Bool.and_true, Bool.true_and, Bool.or_true, Bool.true_or, List.elem, Bool.false_eq_true, if_true, if_false, isLst, isStr, isDic, int_bl, int_int, list_lst, list_tup, list_scr, tuple_lst, tuple_tup, max2_int, min2_int, isi_int, isi_bl, isi_str, isi_tup, isi_lst, isi_non, isi_dic, ty_ii, ty_ib, ty_is, ty_it, ty_il, ty_bi, ty_bb, ty_bs, ty_bt, ty_bL, ty_si, ty_sb, ty_ss, ty_st, ty_sl, ty_ti, ty_tb, ty_ts, ty_tt, ty_tl, ty_li, ty_lb, ty_ls, ty_lt, ty_ll, ty_ni, ty_nb, ty_ns, ty_nt, ty_nl, rg1, rg2, rg3, it_lst, it_tup, it_scr, it_str, enum_lst, zip_lst, zip_tup, rev_lst, rev_tup, tru_int, tru_bl, tru_lst, tru_tup, wipeE, resE, List.all_cons, List.all_nil, Bool.and_eq_true, dtx, yesT_ok, and_self])
local macro_rules | `(tactic| walk_at "evi") => `(tactic| simp -dsimp -implicitDefEqProofs only [os_if, os_endIf, is_nn, is_in, is_sn, is_tn, is_ln, is_bn, os_endA, os_endO, os_endG, os_endP, os_endD, os_endS, os_endFr, os_endWh, os_bod, endK_nx, endK_rt, endK_bk, endK_ct, endK_exc, bodK_nx, bodK_rt, bodK_bk, bodK_ct, bodK_exc, frM_t, frM_f, frM_n, wpM_t, wpM_f, wpM_n, ok_c, ok_nm, nmK_v, nmK_o, ok_mv, mvK_v, mvK_o, ok_dm, dmK_v, dmK_o, ok_nil, ok_cons, ok_one, ok_two, ok_op, ok_tstB, ok_tstF, ok_not, bi_true, bi_false, bi_dec, bj_true, bj_false, bj_not, bi_not_dec, ok_and, ok_or, ok_ifF, ok_andF, ok_orF, ok_notF, ok_tup, ok_lst, ok_dic, ok_bm, intR_int, ok_prtN, ok_prtS, ok_sl, callK_ret, ok_call, ok_itA, ok_lc, ok_ch, ok_mut, mutG, shK_sh, shK2_sh, ordB, ownK_o, os_sk, os_bk, os_ct, seqK_nx, seqK_rt, seqK_bk, seqK_ct, seqK_exc, os_seq, os_dr, os_rt, vK_sh, vK_fr, os_asV, os_asO, os_asG, os_asP, os_st, oK_fr, ok_gNm, ok_gTp, ok_gNms0, ok_gNms1, os_fr, ok_run, defK_nx, defK_sh, defK_fr, loopK_nx, loopK_ct, loopK_bk, loopK_rt, okL_some, okL_map, okL_if, okL_ifo, rsls, rsl, stos, stoD, mkR, blD, free_eq, frS_e, frS_v, frS_o, nxK_nx, List.getElem?_cons_zero, List.getElem?_cons_succ, List.set_cons_zero, List.set_cons_succ, List.length_cons, List.length_nil, Nat.zero_add, Nat.reduceAdd, mkE, slIn, List.replicate, List.cons_append, List.nil_append, outsOf, pick, lentOk, nodupB, slotsOf, borrows, putBack, resFlat, add_tx, add_lst, add_tup, add_int, sub_int, mulV_int, mod_int, fdv_int, pow_int, neg_int, eq_int, eqOp_eq, ne_false, ne_true, tx_list, len_tx, len_lst, len_tup, len_scr, len_dic, ix_lst, ix_tup, ix_tx, ix_scr, at_0, at_1, at_2, set_lst, app_lst, ixN_30, ixN_31, ixN_32, ixN_20, ixN_21, ixN_10, sl_tx, sl_lst, sl_tup, sl_scr, true_and, and_true, ordD, Bool.not_false, Bool.not_true, Bool.and_true, Bool.true_and, Bool.or_true, Bool.true_or, List.elem, Bool.false_eq_true, if_true, if_false, isLst, isStr, isDic, int_bl, int_int, list_lst, list_tup, list_scr, tuple_lst, tuple_tup, max2_int, min2_int, isi_int, isi_bl, isi_str, isi_tup, isi_lst, isi_non, isi_dic, ty_ii, ty_ib, ty_is, ty_it, ty_il, ty_bi, ty_bb, ty_bs, ty_bt, ty_bL, ty_si, ty_sb, ty_ss, ty_st, ty_sl, ty_ti, ty_tb, ty_ts, ty_tt, ty_tl, ty_li, ty_lb, ty_ls, ty_lt, ty_ll, ty_ni, ty_nb, ty_ns, ty_nt, ty_nl, rg1, rg2, rg3, it_lst, it_tup, it_scr, it_str, enum_lst, zip_lst, zip_tup, rev_lst, rev_tup, tru_int, tru_bl, tru_lst, tru_tup, wipeE, resE, List.all_cons, List.all_nil, Bool.and_eq_true, dtx, yesT_ok, and_self])
local macro_rules | `(tactic| walk_at "eva") => `(tactic| simp -dsimp -implicitDefEqProofs only [is_nn, is_in, is_sn, is_tn, is_ln, is_bn, os_endA, os_endO, os_endG, os_endP, os_endD, os_endS, os_endFr, os_endWh, os_bod, endK_nx, endK_rt, endK_bk, endK_ct, endK_exc, bodK_nx, bodK_rt, bodK_bk, bodK_ct, bodK_exc, frM_t, frM_f, frM_n, wpM_t, wpM_f, wpM_n, ok_c, ok_nm, nmK_v, nmK_o, ok_mv, mvK_v, mvK_o, ok_dm, dmK_v, dmK_o, ok_nil, ok_cons, ok_one, ok_two, ok_op, ok_tstB, ok_tstF, ok_not, bi_true, bi_false, bi_dec, bj_true, bj_false, bj_not, bi_not_dec, ok_and, ok_or, ok_notF, ok_tup, ok_lst, ok_dic, ok_bm, intR_int, ok_prtN, ok_prtS, ok_sl, callK_ret, ok_call, ok_itA, ok_lc, ok_ch, ok_mut, mutG, shK_sh, shK2_sh, ordB, ownK_o, os_sk, os_bk, os_ct, seqK_nx, seqK_rt, seqK_bk, seqK_ct, seqK_exc, os_seq, os_dr, os_rt, vK_sh, vK_fr, os_asV, os_asO, os_asG, os_asP, os_st, oK_fr, ok_gNm, ok_gTp, ok_gNms0, ok_gNms1, os_fr, ok_run, defK_nx, defK_sh, defK_fr, loopK_nx, loopK_ct, loopK_bk, loopK_rt, okL_some, okL_map, okL_if, okL_ifo, rsls, rsl, stos, stoD, mkR, blD, free_eq, frS_e, frS_v, frS_o, nxK_nx, List.getElem?_cons_zero, List.getElem?_cons_succ, List.set_cons_zero, List.set_cons_succ, List.length_cons, List.length_nil, Nat.zero_add, Nat.reduceAdd, mkE, slIn, List.replicate, List.cons_append, List.nil_append, outsOf, pick, lentOk, nodupB, slotsOf, borrows, putBack, resFlat, add_tx, add_lst, add_tup, add_int, sub_int, mulV_int, mod_int, fdv_int, pow_int, neg_int, eq_int, eqOp_eq, ne_false, ne_true, tx_list, len_tx, len_lst, len_tup, len_scr, len_dic, ix_lst, ix_tup, ix_tx, ix_scr, at_0, at_1, at_2, set_lst, app_lst, ixN_30, ixN_31, ixN_32, ixN_20, ixN_21, ixN_10, sl_tx, sl_lst, sl_tup, sl_scr, true_and, and_true, ordD, Bool.not_false, Bool.not_true, Bool.and_true, Bool.true_and, Bool.or_true, Bool.true_or, List.elem, Bool.false_eq_true, if_true, if_false, isLst, isStr, isDic, int_bl, int_int, list_lst, list_tup, list_scr, tuple_lst, tuple_tup, max2_int, min2_int, isi_int, isi_bl, isi_str, isi_tup, isi_lst, isi_non, isi_dic, ty_ii, ty_ib, ty_is, ty_it, ty_il, ty_bi, ty_bb, ty_bs, ty_bt, ty_bL, ty_si, ty_sb, ty_ss, ty_st, ty_sl, ty_ti, ty_tb, ty_ts, ty_tt, ty_tl, ty_li, ty_lb, ty_ls, ty_lt, ty_ll, ty_ni, ty_nb, ty_ns, ty_nt, ty_nl, rg1, rg2, rg3, it_lst, it_tup, it_scr, it_str, enum_lst, zip_lst, zip_tup, rev_lst, rev_tup, tru_int, tru_bl, tru_lst, tru_tup, wipeE, resE, List.all_cons, List.all_nil, Bool.and_eq_true, dtx, yesT_ok, and_self])
local macro_rules | `(tactic| walk_at "sd") => `(tactic| repeat (refine And.intro (by first | omega | assumption | exact rfl) ?_))
local macro_rules | `(tactic| walk_at "sc") => `(tactic| first | assumption | omega | exact rfl | exact mulOk_r (by omega) (by omega) | exact mulOk_l (by omega) (by omega) | exact log_ok (by omega) (by omega) | (simp only [List.length_append, List.length_cons, List.length_nil, List.length_take, List.length_drop, List.length_map, List.length_replicate, upL_len]; omega) | (refine And.intro ?_ ?_ <;> walk_at "sc") | decide)
set_option hygiene false in
local macro_rules | `(tactic| walk_at "lm") => `(tactic| first
  | ((with_reducible refine take_ok ?_ ?_ ?_ fun p r hp hr0 hr1 => ?_); (focus assumption); (focus omega); (focus omega))
  | ((with_reducible refine pick_ok ?_ ?_ ?_ fun p r hp hr0 hr1 => ?_); (focus assumption); (focus omega); (focus omega))
  | ((with_reducible refine pick2_ok ?_ ?_ ?_ fun p r hp hr0 hr1 => ?_); (focus assumption); (focus omega); (focus omega))
  | ((with_reducible refine letter_ok ?_ ?_ ?_ fun p c hp hc => ?_); (focus assumption); (focus omega); (focus omega))
  | ((with_reducible refine signs_ok ?_ ?_ ?_ ?_ ?_ fun p l hp hl hc => ?_); (focus assumption); (focus omega); (focus omega); (focus omega); (focus omega))
  | ((with_reducible refine text_ok ?_ ?_ ?_ fun p l hp hl hc => ?_); (focus assumption); (focus omega); (focus omega))
  | ((with_reducible refine rtext_ok ?_ ?_ ?_ fun p l hp hl hc => ?_); (focus assumption); (focus omega); (focus omega))
  | ((with_reducible refine rtext2_ok ?_ ?_ ?_ fun p l hp hl hc => ?_); (focus assumption); (focus omega); (focus omega))
  | (with_reducible refine whole_ok ?_))
local macro_rules | `(tactic| walk_at "ok") => `(tactic| first | assumption | exact okT_nil | exact Lts.ok (by assumption) | decide)
local macro_rules | `(tactic| walk_at "g0") => `(tactic| first
  | ((with_reducible refine And.intro ?_ ?_); (focus walk_at "sc"))
  | walk_at "lm"
  | ((with_reducible refine okL_eqtx ?_ ?_ ?_); (focus walk_at "ok"); (focus walk_at "ok"))
  | ((with_reducible refine bj_t ?_ ?_); (focus (first | with_reducible rfl | omega)))
  | ((with_reducible refine bj_f ?_ ?_); (focus omega)))
local macro_rules | `(tactic| walk_at "g1") => `(tactic| first
  | walk_at "ev"
  | walk_at "g0")
local macro_rules | `(tactic| walk_at "g2") => `(tactic| first
  | walk_at "evi"
  | walk_at "g0")
local macro_rules | `(tactic| walk_at "go") => `(tactic| repeat walk_at "g1")
local macro_rules | `(tactic| walk_at "goi") => `(tactic| repeat walk_at "g2")
local macro_rules | `(tactic| walk_at "goa") => `(tactic| repeat first | walk_at "eva" | walk_at "g0")
theorem repf {d : D} : ∀ n, (List.replicate n [d]).flatten = List.replicate n d
  | 0 => rfl
  | n + 1 => by
    rw [List.replicate_succ, List.flatten_cons, repf n]
    rfl
theorem mulV1 {it : It} {k : Int} (h : 1 ≤ k) (h' : k ≤ 1000) : mulVD [.tup [dI it], .int k] = some (false, .tup ((List.replicate k.toNat it).map dI)) := by
  rw [mul_tup (by simp) (by simp) h h', repf, List.map_replicate]
theorem mulZr {it : It} {k : Int} (h : -1000 ≤ k) (h' : k ≤ 1000) : mulZD [.tup [dI it], .int k] = some (false, .tup ((List.replicate k.toNat it).map dI)) := by
  show (if 0 < [dI it].length ∧ k ≤ 0 ∧ -1000 ≤ k then some (false, D.tup []) else mulVD [.tup [dI it], .int k]) = _
  by_cases hk : k ≤ 0
  · rw [if_pos ⟨by simp, hk, h⟩, show k.toNat = 0 by omega]
    rfl
  · rw [if_neg (fun z => hk z.2.1), mulV1 (by omega) h']
theorem copy_of {it : It} {k : Int} (h : 1 ≤ k) (h' : k ≤ 1000) {d : D} (hd : d = dI it) : ∃ z : List D, z = (List.replicate k.toNat it).map dI ∧ z.length = k.toNat ∧ mulVD [.tup [d], .int k] = some (false, .tup z) := ⟨_, rfl, by simp, by rw [hd]; exact mulV1 h h'⟩
theorem copyZ_of {it : It} {k : Int} (h : -1000 ≤ k) (h' : k ≤ 1000) {d : D} (hd : d = dI it) : ∃ z : List D, z = (List.replicate k.toNat it).map dI ∧ z.length = k.toNat ∧ mulZD [.tup [d], .int k] = some (false, .tup z) := ⟨_, rfl, by simp, by rw [hd]; exact mulZr h h'⟩
def Row31 (n : Nat) (row : List It) : Prop := (1 ≤ row.length ∧ row.length ≤ 12) ∧ ∀ it ∈ row, okI n it
theorem wf_cons : ∀ {Rs : List (List It)} {n : Nat}, (∀ (i : Nat) row, Rs[i]? = some row → Row31 (n + i) row) → ∀ {r : List It}, Row31 n r → True := fun _ _ _ => trivial
theorem wf_of {Rs : List (List It)} (hl : Rs.length ≤ 1000) (h : ∀ (i : Nat) row, Rs[i]? = some row → Row31 i row) : WF Rs ∧ LN Rs :=
  ⟨fun n row hr => (h n row hr).2, hl, fun row hr => by
    obtain ⟨i, hi⟩ := List.mem_iff_getElem?.mp hr
    exact (h i row hi).1⟩
theorem r31_nil {n : Nat} : ∀ (i : Nat) row, ([] : List (List It))[i]? = some row → Row31 (n + i) row := fun i row h => by simp at h
theorem r31_cons {n : Nat} {r : List It} {Rs : List (List It)} (h : Row31 n r) (h' : ∀ (i : Nat) row, Rs[i]? = some row → Row31 (n + 1 + i) row) : ∀ (i : Nat) row, (r :: Rs)[i]? = some row → Row31 (n + i) row
  | 0, row, e => by cases e; exact h
  | i + 1, row, e => by
    have := h' i row e
    rw [show n + (i + 1) = n + 1 + i by omega]
    exact this
theorem llong_ok {p : D} {many : Int} {k : Out → Prop} (hp : Pen p) (hm : 299 ≤ many) (hm2 : many ≤ 302) (h : ∀ p' Rs, Pen p' → WF Rs → LN Rs → 1 ≤ Rs.length → Rs.length ≤ 10 → k (.ret false (.tup (Rs.map dRow)) [p', .int many])) : okO (phi_llong [p, .int many]) k := by
  unfold phi_llong b_llong
  walk_at "go"
  rename_i pa hpa pb ca hpb hca pc hpc
  have h' : ∀ (p' : D) (Rs : List (List It)), Pen p' → Rs.length ≤ 10 → 1 ≤ Rs.length → (∀ (i : Nat) row, Rs[i]? = some row → Row31 (0 + i) row) → k (.ret false (.tup (Rs.map dRow)) [p', .int many]) := fun p' Rs hp' hl hl1 hr => by
    have := wf_of (Rs := Rs) (by omega) (fun i row e => by have := hr i row e; rwa [Nat.zero_add] at this)
    exact h p' Rs hp' this.1 this.2 hl1 hl
  obtain ⟨z10, hz10, lz10, e10⟩ := copy_of (it := .r 0) (k := 10) (by omega) (by omega) (d := .int 0) rfl
  obtain ⟨z9, hz9, lz9, e9⟩ := copy_of (it := .r 0) (k := 9) (by omega) (by omega) (d := .int 0) rfl
  obtain ⟨z2, hz2, lz2, e2⟩ := copy_of (it := .r 0) (k := 2) (by omega) (by omega) (d := .int 0) rfl
  obtain ⟨za, hza, lza, ea⟩ := copyZ_of (it := .c ca) (k := many - 291) (by omega) (by omega) (d := .str (tx [ca])) rfl
  obtain ⟨zb, hzb, lzb, eb⟩ := copyZ_of (it := .c c) (k := many - 290) (by omega) (by omega) (d := .str (tx [c])) rfl
  obtain ⟨z12, hz12, lz12, e12⟩ := copy_of (it := .c ca) (k := 12) (by omega) (by omega) (d := .str (tx [ca])) rfl
  obtain ⟨zab, hzab, lzab, eab⟩ : ∃ z : List D, z = [It.c ca, .c c, .c ca, .c c, .c ca, .c c, .c ca, .c c, .c ca, .c c].map dI ∧ z.length = 10 ∧ mulVD [.tup [.str (tx [ca]), .str (tx [c])], .int 5] = some (false, .tup z) := ⟨_, rfl, rfl, (mul_tup (by simp) (by simp) (by omega) (by omega)).trans rfl⟩
  walk_at "evi"
  refine bj_mk (fun h1 => ?_) (fun h1 => ?_)
  · walk_at "go"
    refine okL_of eab ?_
    walk_at "go"
    refine okL_of e10 ?_
    walk_at "go"
    refine okL_of e9 ?_
    walk_at "go"
    refine okL_of ea ?_
    walk_at "go"
    have := h' p [[.c ca, .c c, .c ca, .c c, .c ca, .c c, .c ca, .c c, .c ca, .c c], List.replicate 10 (.r 0), [.r 1, .r 1] ++ List.replicate 9 (.r 0) ++ [.c c], [.r 2] ++ List.replicate (many - 291).toNat (.c ca)] (by assumption) (by simp) (by simp) ?_
    · rw [hzab, hz10, hz9, hza]
      simpa [dRow, dI] using this
    · refine r31_cons ⟨by simp, by simp [okI, hca, hc]⟩ (r31_cons ⟨by simp, by simp [okI]⟩ (r31_cons ⟨by simp, by simp [okI, hc]⟩ (r31_cons ⟨?_, ?_⟩ r31_nil)))
      · simp
        omega
      · intro it hit
        rcases List.mem_append.mp hit with hit | hit
        · simp at hit
          subst hit
          simp [okI]
        · rw [(List.mem_replicate.mp hit).2]
          exact hca
  · walk_at "evi"
    refine bj_mk (fun h2 => ?_) (fun h2 => ?_)
    · walk_at "go"
      refine ok_lcX (fun i acc en => ∃ bs : List Nat, acc = (bs.map It.r).map dI ∧ (∀ b ∈ bs, b < 5) ∧ bs.length ≤ i ∧ en = [.o true p, .v (.int many), .v (.str (tx [ca])), .v (.str (tx [c])), .v (.int r), .v (.tup ([[It.c ca], [.r 0, .r 0], [.r 1, .r 1], [.r 2, .r 2], [.r 3, .r 3], [.r 4, .r 4], [.r 5, .r 5], [.r 6, .r 6]].map dRow)), .v (.int (many - 256)), .e, .e]) ⟨[], rfl, by simp, Nat.le_refl _, rfl⟩ (by rw [upL_len]; omega) ?_ ?_
      · rintro i d hd acc en hi ⟨bs, rfl, hbs, hbl, rfl⟩
        obtain ⟨rfl, hlt⟩ := upL_get hd
        walk_at "go"
        refine okL_atMem (by omega) (by simp; omega) fun x hx => ?_
        obtain ⟨m, rfl, hm0, hm1⟩ : ∃ m : Int, x = .int m ∧ 0 < m ∧ m ≤ 16 := by
          simp only [List.mem_cons, List.not_mem_nil, or_false] at hx
          rcases hx with rfl | rfl | rfl | rfl | rfl <;> exact ⟨_, rfl, by omega, by omega⟩
        clear hx
        walk_at "go"
        refine bj_mk (fun h3 => ?_) (fun h3 => ?_)
        · walk_at "go"
          refine ⟨bs ++ [i], ?_, fun b hb => ?_, Nat.le_trans (by simp) (Nat.succ_le_succ hbl)⟩
          · rw [List.map_append, List.map_append]
            congr 1
            simp [dI]
          · rcases List.mem_append.mp hb with hb | hb
            · exact hbs b hb
            · rw [List.mem_singleton.mp hb]; omega
        · walk_at "go"
          exact ⟨bs, rfl, hbs, Nat.le_succ_of_le hbl⟩
      rintro acc en hlen ⟨bs, rfl, hbs, hbl, rfl⟩
      have hbl : bs.length ≤ 5 := hbl
      have hml : ((bs.map It.r).map dI).length = bs.length := by simp
      walk_at "go"
      have := h' p ([[It.c ca], [.r 0, .r 0], [.r 1, .r 1], [.r 2, .r 2], [.r 3, .r 3], [.r 4, .r 4], [.r 5, .r 5], [.r 6, .r 6], [.r 7, .r 7, .r 5] ++ bs.map It.r]) (by assumption) (by simp) (by simp) ?_
      · exact this
      · refine r31_cons ⟨by simp, by simp [okI, hca]⟩ (r31_cons ⟨by simp, by simp [okI]⟩ (r31_cons ⟨by simp, by simp [okI]⟩ (r31_cons ⟨by simp, by simp [okI]⟩ (r31_cons ⟨by simp, by simp [okI]⟩ (r31_cons ⟨by simp, by simp [okI]⟩ (r31_cons ⟨by simp, by simp [okI]⟩ (r31_cons ⟨by simp, by simp [okI]⟩ (r31_cons ⟨by simp; omega, ?_⟩ r31_nil))))))))
        intro it hit
        rcases List.mem_append.mp hit with hit | hit
        · simp at hit
          rcases hit with rfl | rfl <;> simp [okI]
        · obtain ⟨b, hb, rfl⟩ := List.mem_map.mp hit
          have := hbs b hb
          show b < _
          omega
    · walk_at "go"
      refine okL_of e12 ?_
      walk_at "go"
      refine okL_of e10 ?_
      walk_at "go"
      refine okL_of e2 ?_
      walk_at "go"
      refine okL_of eb ?_
      walk_at "go"
      have := h' p [List.replicate 12 (.c ca), [.c c, .r 0] ++ List.replicate 10 (.r 0), [.r 1, .r 1] ++ List.replicate 2 (.r 0), List.replicate (many - 290).toNat (.c c), [.r 2, .r 3]] (by assumption) (by simp) (by simp) ?_
      · rw [hz12, hz10, hz2, hzb]
        simpa [dRow, dI] using this
      · refine r31_cons ⟨by simp, by simp [okI, hca]⟩ (r31_cons ⟨by simp, by simp [okI, hc]⟩ (r31_cons ⟨by simp, by simp [okI]⟩ (r31_cons ⟨?_, ?_⟩ (r31_cons ⟨by simp, by simp [okI]⟩ r31_nil))))
        · simp
          omega
        · intro it hit
          rw [(List.mem_replicate.mp hit).2]
          exact hc
end PyD.S

end

section
set_option maxHeartbeats 4000000
namespace PyD.S
open PySem PySem.Spec L2 PyD.S
local macro_rules | `(tactic| walk_at "ev") => `(tactic| simp -dsimp -implicitDefEqProofs only [is_nn, is_in, is_sn, is_tn, is_ln, is_bn, os_endA, os_endO, os_endG, os_endP, os_endD, os_endS, os_endFr, os_endWh, os_bod, endK_nx, endK_rt, endK_bk, endK_ct, endK_exc, bodK_nx, bodK_rt, bodK_bk, bodK_ct, bodK_exc, frM_t, frM_f, frM_n, wpM_t, wpM_f, wpM_n, ok_c, ok_nm, nmK_v, nmK_o, ok_mv, mvK_v, mvK_o, ok_dm, dmK_v, dmK_o, ok_nil, ok_cons, ok_one, ok_two, ok_op, ok_tstB, ok_tstF, ok_not, bi_true, bi_false, bi_dec, bj_true, bj_false, bj_not, bi_not_dec, ok_and, ok_or, ok_ifF, ok_andF, ok_orF, ok_notF, ok_tup, ok_lst, ok_dic, ok_bm, intR_int, ok_prtN, ok_prtS, ok_sl, callK_ret, ok_call, ok_itA, ok_lc, ok_ch, ok_mut, mutG, shK_sh, shK2_sh, ordB, ownK_o, os_sk, os_bk, os_ct, seqK_nx, seqK_rt, seqK_bk, seqK_ct, seqK_exc, os_seq, os_dr, os_rt, vK_sh, vK_fr, os_asV, os_asO, os_asG, os_asP, os_st, oK_fr, ok_gNm, ok_gTp, ok_gNms0, ok_gNms1, os_fr, ok_run, defK_nx, defK_sh, defK_fr, loopK_nx, loopK_ct, loopK_bk, loopK_rt, okL_some, okL_map, okL_if, okL_ifo, rsls, rsl, stos, stoD, mkR, blD, free_eq, frS_e, frS_v, frS_o, nxK_nx, List.getElem?_cons_zero, List.getElem?_cons_succ, List.set_cons_zero, List.set_cons_succ, List.length_cons, List.length_nil, Nat.zero_add, Nat.reduceAdd, mkE, slIn, List.replicate, List.cons_append, List.nil_append, outsOf, pick, lentOk, nodupB, slotsOf, borrows, putBack, resFlat, add_tx, add_lst, add_tup, add_int, sub_int, mulV_int, mod_int, fdv_int, pow_int, neg_int, eq_int, eqOp_eq, ne_false, ne_true, tx_list, len_tx, len_lst, len_tup, len_scr, len_dic, ix_lst, ix_tup, ix_tx, ix_scr, at_0, at_1, at_2, set_lst, app_lst, ixN_30, ixN_31, ixN_32, ixN_20, ixN_21, ixN_10, sl_tx, sl_lst, sl_tup, sl_scr, true_and, and_true, ordD, Bool.not_false, Bool.not_true, Bool.and_true, Bool.true_and, Bool.or_true, Bool.true_or, List.elem, Bool.false_eq_true, if_true, if_false, isLst, isStr, isDic, int_bl, int_int, list_lst, list_tup, list_scr, tuple_lst, tuple_tup, max2_int, min2_int, isi_int, isi_bl, isi_str, isi_tup, isi_lst, isi_non, isi_dic, ty_ii, ty_ib, ty_is, ty_it, ty_il, ty_bi, ty_bb, ty_bs, ty_bt, ty_bL, ty_si, ty_sb, ty_ss, ty_st, ty_sl, ty_ti, ty_tb, ty_ts, ty_tt, ty_tl, ty_li, ty_lb, ty_ls, ty_lt, ty_ll, ty_ni, ty_nb, ty_ns, ty_nt, ty_nl, rg1, rg2, rg3, it_lst, it_tup, it_scr, it_str, enum_lst, zip_lst, zip_tup, rev_lst, rev_tup, tru_int, tru_bl, tru_lst, tru_tup, wipeE, resE, List.all_cons, List.all_nil, Bool.and_eq_true, dtx, yesT_ok, and_self])
local macro_rules | `(tactic| walk_at "evi") => `(tactic| simp -dsimp -implicitDefEqProofs only [os_if, os_endIf, is_nn, is_in, is_sn, is_tn, is_ln, is_bn, os_endA, os_endO, os_endG, os_endP, os_endD, os_endS, os_endFr, os_endWh, os_bod, endK_nx, endK_rt, endK_bk, endK_ct, endK_exc, bodK_nx, bodK_rt, bodK_bk, bodK_ct, bodK_exc, frM_t, frM_f, frM_n, wpM_t, wpM_f, wpM_n, ok_c, ok_nm, nmK_v, nmK_o, ok_mv, mvK_v, mvK_o, ok_dm, dmK_v, dmK_o, ok_nil, ok_cons, ok_one, ok_two, ok_op, ok_tstB, ok_tstF, ok_not, bi_true, bi_false, bi_dec, bj_true, bj_false, bj_not, bi_not_dec, ok_and, ok_or, ok_ifF, ok_andF, ok_orF, ok_notF, ok_tup, ok_lst, ok_dic, ok_bm, intR_int, ok_prtN, ok_prtS, ok_sl, callK_ret, ok_call, ok_itA, ok_lc, ok_ch, ok_mut, mutG, shK_sh, shK2_sh, ordB, ownK_o, os_sk, os_bk, os_ct, seqK_nx, seqK_rt, seqK_bk, seqK_ct, seqK_exc, os_seq, os_dr, os_rt, vK_sh, vK_fr, os_asV, os_asO, os_asG, os_asP, os_st, oK_fr, ok_gNm, ok_gTp, ok_gNms0, ok_gNms1, os_fr, ok_run, defK_nx, defK_sh, defK_fr, loopK_nx, loopK_ct, loopK_bk, loopK_rt, okL_some, okL_map, okL_if, okL_ifo, rsls, rsl, stos, stoD, mkR, blD, free_eq, frS_e, frS_v, frS_o, nxK_nx, List.getElem?_cons_zero, List.getElem?_cons_succ, List.set_cons_zero, List.set_cons_succ, List.length_cons, List.length_nil, Nat.zero_add, Nat.reduceAdd, mkE, slIn, List.replicate, List.cons_append, List.nil_append, outsOf, pick, lentOk, nodupB, slotsOf, borrows, putBack, resFlat, add_tx, add_lst, add_tup, add_int, sub_int, mulV_int, mod_int, fdv_int, pow_int, neg_int, eq_int, eqOp_eq, ne_false, ne_true, tx_list, len_tx, len_lst, len_tup, len_scr, len_dic, ix_lst, ix_tup, ix_tx, ix_scr, at_0, at_1, at_2, set_lst, app_lst, ixN_30, ixN_31, ixN_32, ixN_20, ixN_21, ixN_10, sl_tx, sl_lst, sl_tup, sl_scr, true_and, and_true, ordD, Bool.not_false, Bool.not_true, Bool.and_true, Bool.true_and, Bool.or_true, Bool.true_or, List.elem, Bool.false_eq_true, if_true, if_false, isLst, isStr, isDic, int_bl, int_int, list_lst, list_tup, list_scr, tuple_lst, tuple_tup, max2_int, min2_int, isi_int, isi_bl, isi_str, isi_tup, isi_lst, isi_non, isi_dic, ty_ii, ty_ib, ty_is, ty_it, ty_il, ty_bi, ty_bb, ty_bs, ty_bt, ty_bL, ty_si, ty_sb, ty_ss, ty_st, ty_sl, ty_ti, ty_tb, ty_ts, ty_tt, ty_tl, ty_li, ty_lb, ty_ls, ty_lt, ty_ll, ty_ni, ty_nb, ty_ns, ty_nt, ty_nl, rg1, rg2, rg3, it_lst, it_tup, it_scr, it_str, enum_lst, zip_lst, zip_tup, rev_lst, rev_tup, tru_int, tru_bl, tru_lst, tru_tup, wipeE, resE, List.all_cons, List.all_nil, Bool.and_eq_true, dtx, yesT_ok, and_self])
local macro_rules | `(tactic| walk_at "eva") => `(tactic| simp -dsimp -implicitDefEqProofs only [is_nn, is_in, is_sn, is_tn, is_ln, is_bn, os_endA, os_endO, os_endG, os_endP, os_endD, os_endS, os_endFr, os_endWh, os_bod, endK_nx, endK_rt, endK_bk, endK_ct, endK_exc, bodK_nx, bodK_rt, bodK_bk, bodK_ct, bodK_exc, frM_t, frM_f, frM_n, wpM_t, wpM_f, wpM_n, ok_c, ok_nm, nmK_v, nmK_o, ok_mv, mvK_v, mvK_o, ok_dm, dmK_v, dmK_o, ok_nil, ok_cons, ok_one, ok_two, ok_op, ok_tstB, ok_tstF, ok_not, bi_true, bi_false, bi_dec, bj_true, bj_false, bj_not, bi_not_dec, ok_and, ok_or, ok_notF, ok_tup, ok_lst, ok_dic, ok_bm, intR_int, ok_prtN, ok_prtS, ok_sl, callK_ret, ok_call, ok_itA, ok_lc, ok_ch, ok_mut, mutG, shK_sh, shK2_sh, ordB, ownK_o, os_sk, os_bk, os_ct, seqK_nx, seqK_rt, seqK_bk, seqK_ct, seqK_exc, os_seq, os_dr, os_rt, vK_sh, vK_fr, os_asV, os_asO, os_asG, os_asP, os_st, oK_fr, ok_gNm, ok_gTp, ok_gNms0, ok_gNms1, os_fr, ok_run, defK_nx, defK_sh, defK_fr, loopK_nx, loopK_ct, loopK_bk, loopK_rt, okL_some, okL_map, okL_if, okL_ifo, rsls, rsl, stos, stoD, mkR, blD, free_eq, frS_e, frS_v, frS_o, nxK_nx, List.getElem?_cons_zero, List.getElem?_cons_succ, List.set_cons_zero, List.set_cons_succ, List.length_cons, List.length_nil, Nat.zero_add, Nat.reduceAdd, mkE, slIn, List.replicate, List.cons_append, List.nil_append, outsOf, pick, lentOk, nodupB, slotsOf, borrows, putBack, resFlat, add_tx, add_lst, add_tup, add_int, sub_int, mulV_int, mod_int, fdv_int, pow_int, neg_int, eq_int, eqOp_eq, ne_false, ne_true, tx_list, len_tx, len_lst, len_tup, len_scr, len_dic, ix_lst, ix_tup, ix_tx, ix_scr, at_0, at_1, at_2, set_lst, app_lst, ixN_30, ixN_31, ixN_32, ixN_20, ixN_21, ixN_10, sl_tx, sl_lst, sl_tup, sl_scr, true_and, and_true, ordD, Bool.not_false, Bool.not_true, Bool.and_true, Bool.true_and, Bool.or_true, Bool.true_or, List.elem, Bool.false_eq_true, if_true, if_false, isLst, isStr, isDic, int_bl, int_int, list_lst, list_tup, list_scr, tuple_lst, tuple_tup, max2_int, min2_int, isi_int, isi_bl, isi_str, isi_tup, isi_lst, isi_non, isi_dic, ty_ii, ty_ib, ty_is, ty_it, ty_il, ty_bi, ty_bb, ty_bs, ty_bt, ty_bL, ty_si, ty_sb, ty_ss, ty_st, ty_sl, ty_ti, ty_tb, ty_ts, ty_tt, ty_tl, ty_li, ty_lb, ty_ls, ty_lt, ty_ll, ty_ni, ty_nb, ty_ns, ty_nt, ty_nl, rg1, rg2, rg3, it_lst, it_tup, it_scr, it_str, enum_lst, zip_lst, zip_tup, rev_lst, rev_tup, tru_int, tru_bl, tru_lst, tru_tup, wipeE, resE, List.all_cons, List.all_nil, Bool.and_eq_true, dtx, yesT_ok, and_self])
local macro_rules | `(tactic| walk_at "sd") => `(tactic| repeat (refine And.intro (by first | omega | assumption | exact rfl) ?_))
local macro_rules | `(tactic| walk_at "sc") => `(tactic| first | assumption | omega | exact rfl | exact mulOk_r (by omega) (by omega) | exact mulOk_l (by omega) (by omega) | exact log_ok (by omega) (by omega) | (simp only [List.length_append, List.length_cons, List.length_nil, List.length_take, List.length_drop, List.length_map, List.length_replicate, upL_len]; omega) | (refine And.intro ?_ ?_ <;> walk_at "sc") | decide)
set_option hygiene false in
local macro_rules | `(tactic| walk_at "lm") => `(tactic| first
  | ((with_reducible refine take_ok ?_ ?_ ?_ fun p r hp hr0 hr1 => ?_); (focus assumption); (focus omega); (focus omega))
  | ((with_reducible refine pick_ok ?_ ?_ ?_ fun p r hp hr0 hr1 => ?_); (focus assumption); (focus omega); (focus omega))
  | ((with_reducible refine pick2_ok ?_ ?_ ?_ fun p r hp hr0 hr1 => ?_); (focus assumption); (focus omega); (focus omega))
  | ((with_reducible refine letter_ok ?_ ?_ ?_ fun p c hp hc => ?_); (focus assumption); (focus omega); (focus omega))
  | ((with_reducible refine signs_ok ?_ ?_ ?_ ?_ ?_ fun p l hp hl hc => ?_); (focus assumption); (focus omega); (focus omega); (focus omega); (focus omega))
  | ((with_reducible refine text_ok ?_ ?_ ?_ fun p l hp hl hc => ?_); (focus assumption); (focus omega); (focus omega))
  | ((with_reducible refine rtext_ok ?_ ?_ ?_ fun p l hp hl hc => ?_); (focus assumption); (focus omega); (focus omega))
  | ((with_reducible refine rtext2_ok ?_ ?_ ?_ fun p l hp hl hc => ?_); (focus assumption); (focus omega); (focus omega))
  | (with_reducible refine whole_ok ?_))
local macro_rules | `(tactic| walk_at "ok") => `(tactic| first | assumption | exact okT_nil | exact Lts.ok (by assumption) | decide)
local macro_rules | `(tactic| walk_at "g0") => `(tactic| first
  | ((with_reducible refine And.intro ?_ ?_); (focus walk_at "sc"))
  | walk_at "lm"
  | ((with_reducible refine okL_eqtx ?_ ?_ ?_); (focus walk_at "ok"); (focus walk_at "ok"))
  | ((with_reducible refine bj_t ?_ ?_); (focus (first | with_reducible rfl | omega)))
  | ((with_reducible refine bj_f ?_ ?_); (focus omega)))
local macro_rules | `(tactic| walk_at "g1") => `(tactic| first
  | walk_at "ev"
  | walk_at "g0")
local macro_rules | `(tactic| walk_at "g2") => `(tactic| first
  | walk_at "evi"
  | walk_at "g0")
local macro_rules | `(tactic| walk_at "go") => `(tactic| repeat walk_at "g1")
local macro_rules | `(tactic| walk_at "goi") => `(tactic| repeat walk_at "g2")
local macro_rules | `(tactic| walk_at "goa") => `(tactic| repeat first | walk_at "eva" | walk_at "g0")
theorem lpen_ok {ns : List Int} {k : Out → Prop} (h : ∀ p, Pen p → k (.ret true p [.scr ns])) : okO (phi_lpen [.scr ns]) k := by
  unfold phi_lpen b_lpen
  walk_at "ev"
  walk_at "sd"
  exact h _ ⟨_, 0, 0, by omega, rfl⟩
end PyD.S

end

section
set_option maxHeartbeats 1000000
namespace PyD.S
open PySem PySem.Spec L2 PyD.S
local macro_rules | `(tactic| walk_at "ev") => `(tactic| simp -dsimp -implicitDefEqProofs only [loopK_exc, os_rs, rsOK_sh, os_rsO, goneK_nx, goneK_rt, tryK_nx, tryK_rt, tryK_exc, os_try, os_endTr, exD_none, exD_some, exF_none, exF_some, callK_exc, defK_exc, isx_non, isxT_non, isv_non, okL_isx, okL_isxT, okL_isv, okL_fld, is_xn, subX, reduceCtorEq, decide_true, decide_false, Bool.or_self, Bool.or_false, Bool.false_or, List.any_cons, List.any_nil, is_nn, is_in, is_sn, is_tn, is_ln, is_bn, os_endA, os_endO, os_endG, os_endP, os_endD, os_endS, os_endFr, os_endWh, os_bod, endK_nx, endK_rt, endK_bk, endK_ct, endK_exc, bodK_nx, bodK_rt, bodK_bk, bodK_ct, bodK_exc, frM_t, frM_f, frM_n, wpM_t, wpM_f, wpM_n, ok_c, ok_nm, nmK_v, nmK_o, ok_mv, mvK_v, mvK_o, ok_dm, dmK_v, dmK_o, ok_nil, ok_cons, ok_one, ok_two, ok_op, ok_tstB, ok_tstF, ok_not, bi_true, bi_false, bi_dec, bj_true, bj_false, bj_not, bi_not_dec, ok_and, ok_or, ok_ifF, ok_andF, ok_orF, ok_notF, ok_tup, ok_lst, ok_dic, ok_bm, intR_int, ok_prtN, ok_prtS, ok_sl, callK_ret, ok_call, ok_itA, ok_lc, ok_ch, ok_mut, mutG, shK_sh, shK2_sh, ordB, ownK_o, os_sk, os_bk, os_ct, seqK_nx, seqK_rt, seqK_bk, seqK_ct, seqK_exc, os_seq, os_dr, os_rt, vK_sh, vK_fr, os_asV, os_asO, os_asG, os_asP, os_st, oK_fr, ok_gNm, ok_gTp, ok_gNms0, ok_gNms1, os_fr, ok_run, defK_nx, defK_sh, defK_fr, loopK_nx, loopK_ct, loopK_bk, loopK_rt, okL_some, okL_map, okL_if, okL_ifo, rsls, rsl, stos, stoD, mkR, blD, free_eq, frS_e, frS_v, frS_o, nxK_nx, List.getElem?_cons_zero, List.getElem?_cons_succ, List.set_cons_zero, List.set_cons_succ, List.length_cons, List.length_nil, Nat.zero_add, Nat.reduceAdd, mkE, slIn, List.replicate, List.cons_append, List.nil_append, outsOf, pick, lentOk, nodupB, slotsOf, borrows, putBack, resFlat, add_tx, add_lst, add_tup, add_int, sub_int, mulV_int, mod_int, fdv_int, pow_int, neg_int, eq_int, eqOp_eq, ne_false, ne_true, tx_list, len_tx, len_lst, len_tup, len_scr, len_dic, ix_lst, ix_tup, ix_tx, ix_scr, at_0, at_1, at_2, set_lst, app_lst, ixN_30, ixN_31, ixN_32, ixN_20, ixN_21, ixN_10, sl_tx, sl_lst, sl_tup, sl_scr, true_and, and_true, ordD, Bool.not_false, Bool.not_true, Bool.and_true, Bool.true_and, Bool.or_true, Bool.true_or, List.elem, Bool.false_eq_true, if_true, if_false, isLst, isStr, isDic, int_bl, int_int, list_lst, list_tup, list_scr, tuple_lst, tuple_tup, max2_int, min2_int, isi_int, isi_bl, isi_str, isi_tup, isi_lst, isi_non, isi_dic, ty_ii, ty_ib, ty_is, ty_it, ty_il, ty_bi, ty_bb, ty_bs, ty_bt, ty_bL, ty_si, ty_sb, ty_ss, ty_st, ty_sl, ty_ti, ty_tb, ty_ts, ty_tt, ty_tl, ty_li, ty_lb, ty_ls, ty_lt, ty_ll, ty_ni, ty_nb, ty_ns, ty_nt, ty_nl, rg1, rg2, rg3, it_lst, it_tup, it_scr, it_str, enum_lst, zip_lst, zip_tup, rev_lst, rev_tup, tru_int, tru_bl, tru_lst, tru_tup, wipeE, resE, List.all_cons, List.all_nil, Bool.and_eq_true, dtx, yesT_ok, and_self])
local macro_rules | `(tactic| walk_at "evi") => `(tactic| simp -dsimp -implicitDefEqProofs only [loopK_exc, os_rs, rsOK_sh, os_rsO, goneK_nx, goneK_rt, tryK_nx, tryK_rt, tryK_exc, os_try, os_endTr, exD_none, exD_some, exF_none, exF_some, callK_exc, defK_exc, isx_non, isxT_non, isv_non, okL_isx, okL_isxT, okL_isv, okL_fld, is_xn, subX, reduceCtorEq, decide_true, decide_false, Bool.or_self, Bool.or_false, Bool.false_or, List.any_cons, List.any_nil, os_if, os_endIf, is_nn, is_in, is_sn, is_tn, is_ln, is_bn, os_endA, os_endO, os_endG, os_endP, os_endD, os_endS, os_endFr, os_endWh, os_bod, endK_nx, endK_rt, endK_bk, endK_ct, endK_exc, bodK_nx, bodK_rt, bodK_bk, bodK_ct, bodK_exc, frM_t, frM_f, frM_n, wpM_t, wpM_f, wpM_n, ok_c, ok_nm, nmK_v, nmK_o, ok_mv, mvK_v, mvK_o, ok_dm, dmK_v, dmK_o, ok_nil, ok_cons, ok_one, ok_two, ok_op, ok_tstB, ok_tstF, ok_not, bi_true, bi_false, bi_dec, bj_true, bj_false, bj_not, bi_not_dec, ok_and, ok_or, ok_ifF, ok_andF, ok_orF, ok_notF, ok_tup, ok_lst, ok_dic, ok_bm, intR_int, ok_prtN, ok_prtS, ok_sl, callK_ret, ok_call, ok_itA, ok_lc, ok_ch, ok_mut, mutG, shK_sh, shK2_sh, ordB, ownK_o, os_sk, os_bk, os_ct, seqK_nx, seqK_rt, seqK_bk, seqK_ct, seqK_exc, os_seq, os_dr, os_rt, vK_sh, vK_fr, os_asV, os_asO, os_asG, os_asP, os_st, oK_fr, ok_gNm, ok_gTp, ok_gNms0, ok_gNms1, os_fr, ok_run, defK_nx, defK_sh, defK_fr, loopK_nx, loopK_ct, loopK_bk, loopK_rt, okL_some, okL_map, okL_if, okL_ifo, rsls, rsl, stos, stoD, mkR, blD, free_eq, frS_e, frS_v, frS_o, nxK_nx, List.getElem?_cons_zero, List.getElem?_cons_succ, List.set_cons_zero, List.set_cons_succ, List.length_cons, List.length_nil, Nat.zero_add, Nat.reduceAdd, mkE, slIn, List.replicate, List.cons_append, List.nil_append, outsOf, pick, lentOk, nodupB, slotsOf, borrows, putBack, resFlat, add_tx, add_lst, add_tup, add_int, sub_int, mulV_int, mod_int, fdv_int, pow_int, neg_int, eq_int, eqOp_eq, ne_false, ne_true, tx_list, len_tx, len_lst, len_tup, len_scr, len_dic, ix_lst, ix_tup, ix_tx, ix_scr, at_0, at_1, at_2, set_lst, app_lst, ixN_30, ixN_31, ixN_32, ixN_20, ixN_21, ixN_10, sl_tx, sl_lst, sl_tup, sl_scr, true_and, and_true, ordD, Bool.not_false, Bool.not_true, Bool.and_true, Bool.true_and, Bool.or_true, Bool.true_or, List.elem, Bool.false_eq_true, if_true, if_false, isLst, isStr, isDic, int_bl, int_int, list_lst, list_tup, list_scr, tuple_lst, tuple_tup, max2_int, min2_int, isi_int, isi_bl, isi_str, isi_tup, isi_lst, isi_non, isi_dic, ty_ii, ty_ib, ty_is, ty_it, ty_il, ty_bi, ty_bb, ty_bs, ty_bt, ty_bL, ty_si, ty_sb, ty_ss, ty_st, ty_sl, ty_ti, ty_tb, ty_ts, ty_tt, ty_tl, ty_li, ty_lb, ty_ls, ty_lt, ty_ll, ty_ni, ty_nb, ty_ns, ty_nt, ty_nl, rg1, rg2, rg3, it_lst, it_tup, it_scr, it_str, enum_lst, zip_lst, zip_tup, rev_lst, rev_tup, tru_int, tru_bl, tru_lst, tru_tup, wipeE, resE, List.all_cons, List.all_nil, Bool.and_eq_true, dtx, yesT_ok, and_self])
local macro_rules | `(tactic| walk_at "eva") => `(tactic| simp -dsimp -implicitDefEqProofs only [loopK_exc, os_rs, rsOK_sh, os_rsO, goneK_nx, goneK_rt, tryK_nx, tryK_rt, tryK_exc, os_try, os_endTr, exD_none, exD_some, exF_none, exF_some, callK_exc, defK_exc, isx_non, isxT_non, isv_non, okL_isx, okL_isxT, okL_isv, okL_fld, is_xn, subX, reduceCtorEq, decide_true, decide_false, Bool.or_self, Bool.or_false, Bool.false_or, List.any_cons, List.any_nil, is_nn, is_in, is_sn, is_tn, is_ln, is_bn, os_endA, os_endO, os_endG, os_endP, os_endD, os_endS, os_endFr, os_endWh, os_bod, endK_nx, endK_rt, endK_bk, endK_ct, endK_exc, bodK_nx, bodK_rt, bodK_bk, bodK_ct, bodK_exc, frM_t, frM_f, frM_n, wpM_t, wpM_f, wpM_n, ok_c, ok_nm, nmK_v, nmK_o, ok_mv, mvK_v, mvK_o, ok_dm, dmK_v, dmK_o, ok_nil, ok_cons, ok_one, ok_two, ok_op, ok_tstB, ok_tstF, ok_not, bi_true, bi_false, bi_dec, bj_true, bj_false, bj_not, bi_not_dec, ok_and, ok_or, ok_notF, ok_tup, ok_lst, ok_dic, ok_bm, intR_int, ok_prtN, ok_prtS, ok_sl, callK_ret, ok_call, ok_itA, ok_lc, ok_ch, ok_mut, mutG, shK_sh, shK2_sh, ordB, ownK_o, os_sk, os_bk, os_ct, seqK_nx, seqK_rt, seqK_bk, seqK_ct, seqK_exc, os_seq, os_dr, os_rt, vK_sh, vK_fr, os_asV, os_asO, os_asG, os_asP, os_st, oK_fr, ok_gNm, ok_gTp, ok_gNms0, ok_gNms1, os_fr, ok_run, defK_nx, defK_sh, defK_fr, loopK_nx, loopK_ct, loopK_bk, loopK_rt, okL_some, okL_map, okL_if, okL_ifo, rsls, rsl, stos, stoD, mkR, blD, free_eq, frS_e, frS_v, frS_o, nxK_nx, List.getElem?_cons_zero, List.getElem?_cons_succ, List.set_cons_zero, List.set_cons_succ, List.length_cons, List.length_nil, Nat.zero_add, Nat.reduceAdd, mkE, slIn, List.replicate, List.cons_append, List.nil_append, outsOf, pick, lentOk, nodupB, slotsOf, borrows, putBack, resFlat, add_tx, add_lst, add_tup, add_int, sub_int, mulV_int, mod_int, fdv_int, pow_int, neg_int, eq_int, eqOp_eq, ne_false, ne_true, tx_list, len_tx, len_lst, len_tup, len_scr, len_dic, ix_lst, ix_tup, ix_tx, ix_scr, at_0, at_1, at_2, set_lst, app_lst, ixN_30, ixN_31, ixN_32, ixN_20, ixN_21, ixN_10, sl_tx, sl_lst, sl_tup, sl_scr, true_and, and_true, ordD, Bool.not_false, Bool.not_true, Bool.and_true, Bool.true_and, Bool.or_true, Bool.true_or, List.elem, Bool.false_eq_true, if_true, if_false, isLst, isStr, isDic, int_bl, int_int, list_lst, list_tup, list_scr, tuple_lst, tuple_tup, max2_int, min2_int, isi_int, isi_bl, isi_str, isi_tup, isi_lst, isi_non, isi_dic, ty_ii, ty_ib, ty_is, ty_it, ty_il, ty_bi, ty_bb, ty_bs, ty_bt, ty_bL, ty_si, ty_sb, ty_ss, ty_st, ty_sl, ty_ti, ty_tb, ty_ts, ty_tt, ty_tl, ty_li, ty_lb, ty_ls, ty_lt, ty_ll, ty_ni, ty_nb, ty_ns, ty_nt, ty_nl, rg1, rg2, rg3, it_lst, it_tup, it_scr, it_str, enum_lst, zip_lst, zip_tup, rev_lst, rev_tup, tru_int, tru_bl, tru_lst, tru_tup, wipeE, resE, List.all_cons, List.all_nil, Bool.and_eq_true, dtx, yesT_ok, and_self])
local macro_rules | `(tactic| walk_at "sd") => `(tactic| repeat (refine And.intro (by first | omega | assumption | exact rfl) ?_))
local macro_rules | `(tactic| walk_at "sc") => `(tactic| first | assumption | omega | exact rfl | exact mulOk_r (by omega) (by omega) | exact mulOk_l (by omega) (by omega) | exact log_ok (by omega) (by omega) | (simp only [List.length_append, List.length_cons, List.length_nil, List.length_take, List.length_drop, List.length_map, List.length_replicate, upL_len]; omega) | (refine And.intro ?_ ?_ <;> walk_at "sc") | decide)
set_option hygiene false in
local macro_rules | `(tactic| walk_at "lm") => `(tactic| first
  | ((with_reducible refine take_ok ?_ ?_ ?_ fun p r hp hr0 hr1 => ?_); (focus assumption); (focus omega); (focus omega))
  | ((with_reducible refine pick_ok ?_ ?_ ?_ fun p r hp hr0 hr1 => ?_); (focus assumption); (focus omega); (focus omega))
  | ((with_reducible refine pick2_ok ?_ ?_ ?_ fun p r hp hr0 hr1 => ?_); (focus assumption); (focus omega); (focus omega))
  | ((with_reducible refine letter_ok ?_ ?_ ?_ fun p c hp hc => ?_); (focus assumption); (focus omega); (focus omega))
  | ((with_reducible refine signs_ok ?_ ?_ ?_ ?_ ?_ fun p l hp hl hc => ?_); (focus assumption); (focus omega); (focus omega); (focus omega); (focus omega))
  | ((with_reducible refine text_ok ?_ ?_ ?_ fun p l hp hl hc => ?_); (focus assumption); (focus omega); (focus omega))
  | ((with_reducible refine rtext_ok ?_ ?_ ?_ fun p l hp hl hc => ?_); (focus assumption); (focus omega); (focus omega))
  | ((with_reducible refine rtext2_ok ?_ ?_ ?_ fun p l hp hl hc => ?_); (focus assumption); (focus omega); (focus omega))
  | (with_reducible refine whole_ok ?_))
local macro_rules | `(tactic| walk_at "ok") => `(tactic| first | assumption | exact okT_nil | exact Lts.ok (by assumption) | decide)
local macro_rules | `(tactic| walk_at "g0") => `(tactic| first
  | ((with_reducible refine And.intro ?_ ?_); (focus walk_at "sc"))
  | walk_at "lm"
  | ((with_reducible refine okL_eqtx ?_ ?_ ?_); (focus walk_at "ok"); (focus walk_at "ok"))
  | ((with_reducible refine bj_t ?_ ?_); (focus (first | with_reducible rfl | omega)))
  | ((with_reducible refine bj_f ?_ ?_); (focus omega)))
local macro_rules | `(tactic| walk_at "g1") => `(tactic| first
  | walk_at "ev"
  | walk_at "g0")
local macro_rules | `(tactic| walk_at "g2") => `(tactic| first
  | walk_at "evi"
  | walk_at "g0")
local macro_rules | `(tactic| walk_at "go") => `(tactic| repeat walk_at "g1")
local macro_rules | `(tactic| walk_at "goi") => `(tactic| repeat walk_at "g2")
local macro_rules | `(tactic| walk_at "goa") => `(tactic| repeat first | walk_at "eva" | walk_at "g0")
instance (Rs : List (List It)) : Decidable (SZ Rs) := by unfold SZ; infer_instance
def dueW (Rs : List (List It)) : T := if SZ Rs then [] else [109, 97, 110, 121]
theorem dueW_ok (Rs : List (List It)) : okT (dueW Rs) := by
  unfold dueW
  split <;> decide
theorem word31_ok {Rs : List (List It)} {w : Nat} {k : Out → Prop} (hw : w < 3) (hne : Rs ≠ []) (hN : Rs.length ≤ 100) (hwf : WF Rs) (hln : LN Rs) (h : k (.ret false (.str (tx (dueW Rs))) [.int w, .tup (Rs.map dRow)])) : okO (phi_lword_v2 [.int w, .tup (Rs.map dRow)]) k := by
  refine word_ok hw hne hN hwf hln (fun hs => ?_) fun hs => ?_
  · rw [dueW, if_pos hs] at h
    exact h
  · rw [dueW, if_neg hs] at h
    exact h
theorem row0_len {Rs : List (List It)} (hwf : WF Rs) (hln : LN Rs) : (szs Rs).getD 0 0 ≤ 12 := by
  cases Rs with
  | nil => exact Nat.zero_le _
  | cons row Rs =>
    have h1 : szs ((row :: Rs).take (0 + 1)) = szs ((row :: Rs).take 0) ++ [rowS (szs ((row :: Rs).take 0)) row] := bld_take rfl
    have h2 : szs (row :: Rs) = bld rowS (szs ((row :: Rs).take 1)) Rs := rfl
    obtain ⟨t, h3, _⟩ := bld_pre (f := rowS) Rs (szs ((row :: Rs).take 1))
    rw [h2, h3]
    have h4 : szs ((row :: Rs).take 1) = [rowS [] row] := h1
    rw [h4]
    show rowS [] row ≤ 12
    have h5 := (hln.2 row List.mem_cons_self).2
    have h6 : ∀ it ∈ row, okI 0 it := hwf 0 row rfl
    have h7 : ∀ (r : List It), (∀ it ∈ r, okI 0 it) → rowS [] r ≤ r.length := by
      intro r
      induction r with
      | nil => intro _; exact Nat.le_refl _
      | cons it r ih =>
        intro hr
        have := ih fun x hx => hr x (List.mem_cons_of_mem _ hx)
        have h8 : szI [] it ≤ 1 := by
          cases it with
          | c x => exact Nat.le_refl _
          | r j => exact Nat.zero_le _
        rw [rowS_cons, List.length_cons]
        omega
    exact Nat.le_trans (h7 row h6) h5
theorem sz_snoc {Rs : List (List It)} {row : List It} : SZ (Rs ++ [row]) ↔ SZ Rs ∧ rowS (szs Rs) row ≤ 300 := by
  unfold SZ
  rw [szs_snoc]
  constructor
  · intro h
    exact ⟨fun s hs => h s (by simp [hs]), h _ (by simp)⟩
  · rintro ⟨h1, h2⟩ s hs
    rcases List.mem_append.mp hs with hs | hs
    · exact h1 s hs
    · rw [List.mem_singleton.mp hs]; exact h2
/-- what may stand behind -/
structure Bh (Rs B : List (List It)) : Prop where
  wf : WF (Rs ++ B)
  ln : LN (Rs ++ B)
  len : B.length ≤ 1
  due : dueW (Rs ++ B) = dueW Rs
theorem bh_one {Rs : List (List It)} {row : List It} (hwf : WF Rs) (hln : LN Rs) (hl : Rs.length ≤ 10) (h : Row31 Rs.length row) (hs : SZ Rs → rowS (szs Rs) row ≤ 300) : Bh Rs [row] where
  wf := hwf.snoc h.2
  ln := hln.snoc (by omega) h.1.1 h.1.2
  len := Nat.le_refl _
  due := by
    unfold dueW
    by_cases h1 : SZ Rs
    · rw [if_pos h1, if_pos (sz_snoc.mpr ⟨h1, hs h1⟩)]
    · rw [if_neg h1, if_neg fun z => h1 (sz_snoc.mp z).1]
def dbl (m : Nat) : List (List It) := [It.c 97, .c 98] :: (List.range m).map fun n => [It.r n, .r n]
theorem dbl_succ {m : Nat} : dbl (m + 1) = dbl m ++ [[.r m, .r m]] := by
  unfold dbl
  rw [List.range_succ, List.map_append]
  rfl
theorem dbl_len {m : Nat} : (dbl m).length = m + 1 := by simp [dbl]
theorem dbl_szs : ∀ {m : Nat}, szs (dbl m) = (List.range (m + 1)).map fun i => 2 ^ (i + 1)
  | 0 => rfl
  | m + 1 => by
    rw [dbl_succ, szs_snoc, dbl_szs, List.range_succ (n := m + 1), List.map_append]
    congr 1
    have e : ((List.range (m + 1)).map fun i => 2 ^ (i + 1)).getD m 0 = 2 ^ (m + 1) := by
      rw [List.getD_eq_getElem?_getD, List.getElem?_map, List.getElem?_range (by omega)]
      rfl
    rw [rowS_cons, rowS_cons]
    show [(((List.range (m + 1)).map fun i => 2 ^ (i + 1)).getD m 0) + ((((List.range (m + 1)).map fun i => 2 ^ (i + 1)).getD m 0) + 0)] = [2 ^ (m + 1 + 1)]
    rw [e, Nat.pow_succ (n := 2) (m := m + 1)]
    congr 1
    omega
theorem dbl_sz {m : Nat} : SZ (dbl m) ↔ m ≤ 7 := by
  unfold SZ
  rw [dbl_szs]
  constructor
  · intro h
    refine Classical.byContradiction fun z => ?_
    have := h (2 ^ (8 + 1)) (List.mem_map.mpr ⟨8, List.mem_range.mpr (by omega), rfl⟩)
    exact absurd this (by decide)
  · intro h s hs
    obtain ⟨i, hi, rfl⟩ := List.mem_map.mp hs
    have hi := List.mem_range.mp hi
    have : 2 ^ (i + 1) ≤ 2 ^ 8 := Nat.pow_le_pow_right (by omega) (by omega)
    exact Nat.le_trans this (by decide)
theorem dbl_row {m i : Nat} {row : List It} (h : (dbl m)[i]? = some row) : Row31 i row := by
  cases i with
  | zero =>
    cases h
    exact ⟨by simp, by simp [okI, Lt]⟩
  | succ i =>
    have h : ((List.range m).map fun n => [It.r n, It.r n])[i]? = some row := h
    rw [List.getElem?_map] at h
    obtain ⟨j, hj, rfl⟩ := Option.map_eq_some_iff.mp h
    have hj := (List.getElem?_range (by
      have := (List.getElem?_eq_some_iff.mp hj).1
      simpa using this)).symm.trans hj
    cases hj
    exact ⟨by simp, by simp [okI]⟩
theorem dbl_wf {m : Nat} (hm : m ≤ 900) : WF (dbl m) ∧ LN (dbl m) := wf_of (by rw [dbl_len]; omega) fun i row h => dbl_row h
theorem dbl_take {m j : Nat} (h : j ≤ m) : (dbl m).take (j + 1) = dbl j := by
  unfold dbl
  rw [List.take_succ_cons, ← List.map_take, List.take_range, Nat.min_eq_left h]
theorem ok_law_k31 (ns : List Int) (hl : ns.length ≤ 63) : ∃ outs, phi_law_k31 [.scr ns] = .ret false (.bl true) outs := by
  have : okO (phi_law_k31 [.scr ns]) fun o => ∃ outs, o = .ret false (.bl true) outs := by
    unfold phi_law_k31 b_law_k31
    walk_at "go"
    refine lpen_ok fun p hp => ?_
    walk_at "go"
    refine os_ix (fun i en => ∃ p, en = [.v (.scr ns), .o false p, .e, .e, .e, .e, .e, .e, .e, .e, .e, .e, .e, .e] ∧ Pen p) ⟨_, rfl, hp⟩ ?_ ?_
    · rintro i d hd en ⟨p, rfl, hp⟩
      obtain ⟨rfl, hlt⟩ := upL_get hd
      walk_at "go"
      refine llong_ok hp (by omega) (by omega) fun p Rs hp hwf hln hR1 hR2 => ?_
      have hml : (Rs.map dRow).length = Rs.length := List.length_map _
      walk_at "go"
      refine os_ix (fun i en => en = [.v (.scr ns), .o false p, .e, .e, .e, .e, .e, .v (.tup (Rs.map dRow)), .o false (.lst ((szs (Rs.take i)).map dNat)), .e, .e, .e, .e, .e]) rfl ?_ ?_
      · rintro i d hd en rfl
        rw [List.getElem?_map] at hd
        obtain ⟨row, hrow, rfl⟩ := Option.map_eq_some_iff.mp hd
        have hil := (List.getElem?_eq_some_iff.mp hrow).1
        have hrl := hln.2 row (List.mem_of_getElem? hrow)
        have hsl : (szs (Rs.take i)).length = i := by unfold szs; rw [bld_len, List.length_take]; omega
        have hnext : szs (Rs.take (i + 1)) = szs (Rs.take i) ++ [rowS (szs (Rs.take i)) row] := bld_take hrow
        unfold dRow
        walk_at "go"
        refine ok_lcY (fun acc en => acc = ((row.take acc.length).map (szI (szs (Rs.take i)))).map dNat ∧ en = [.v (.scr ns), .o false p, .e, .e, .e, .e, .e, .v (.tup (Rs.map fun r => D.tup (r.map dI))), .o false (.lst ((szs (Rs.take i)).map dNat)), .v (.tup (row.map dI)), .e, .e, .e, .e]) ⟨rfl, rfl⟩ ?_ ?_ ?_
        · rw [List.length_map]; omega
        · rintro q d hd acc en hq ⟨ha, rfl⟩
          rw [List.getElem?_map] at hd
          obtain ⟨it, hit, rfl⟩ := Option.map_eq_some_iff.mp hd
          subst hq
          have e : row.take (acc.length + 1) = row.take acc.length ++ [it] := by
            rw [List.take_succ, hit]
            rfl
          have hw := hwf i row hrow it (List.mem_of_getElem? hit)
          have fin : ∀ z : D, z = dNat (szI (szs (Rs.take i)) it) → acc ++ [z] = ((row.take (acc ++ [z]).length).map (szI (szs (Rs.take i)))).map dNat := fun z hz => by
            rw [List.length_append, List.length_singleton, e, List.map_append, List.map_append, ← ha, hz]
            rfl
          cases it with
          | c x =>
            simp -dsimp -implicitDefEqProofs (disch := omega) only [dI_c]
            walk_at "goi"
            exact fin _ rfl
          | r j =>
            simp -dsimp -implicitDefEqProofs (disch := omega) only [dI_r]
            walk_at "goi"
            refine okL_of (szs_at (show j < i from hw) (by omega)) ?_
            walk_at "goi"
            exact fin _ rfl
        rintro acc en hlen ⟨ha, rfl⟩
        rw [List.length_map] at hlen
        rw [hlen, List.take_length] at ha
        subst ha
        walk_at "goi"
        refine okL_of sum_nats ?_
        have hll := hln.1
        walk_at "goi"
        rw [hnext, List.map_append]
        rfl
      rintro en rfl
      rw [hml, ← hml, List.length_map, List.take_length]
      walk_at "go"
      have hRn : Rs ≠ [] := fun z => by rw [z] at hR1; exact absurd hR1 (by simp)
      have hszl : (szs Rs).length = Rs.length := bld_len
      refine okL_atMem (by omega) (by simp; omega) fun x hx => ?_
      obtain ⟨B, rfl, hB⟩ : ∃ B : List (List It), x = .tup (B.map dRow) ∧ Bh Rs B := by
        simp only [List.mem_cons, List.not_mem_nil, or_false] at hx
        rcases hx with rfl | rfl | rfl | rfl
        · exact ⟨[], rfl, by rw [List.append_nil]; exact hwf, by rw [List.append_nil]; exact hln, by simp, by rw [List.append_nil]⟩
        · exact ⟨[[.c 97]], rfl, bh_one hwf hln hR2 ⟨by simp, by simp [okI, Lt]⟩ fun _ => show 1 + 0 ≤ 300 by omega⟩
        · refine ⟨[[.r (Rs.length - 1)]], ?_, bh_one hwf hln hR2 ⟨by simp, by simp [okI]; omega⟩ fun hs => ?_⟩
          · rw [hml]
            show D.tup [.tup [.int ((Rs.length : Int) - 1)]] = D.tup [.tup [.int ((Rs.length - 1 : Nat) : Int)]]
            rw [show ((Rs.length : Int) - 1) = ((Rs.length - 1 : Nat) : Int) by omega]
          · show (szs Rs).getD (Rs.length - 1) 0 + 0 ≤ 300
            rw [List.getD_eq_getElem?_getD, List.getElem?_eq_getElem (by omega)]
            exact hs _ (List.getElem_mem _)
        · have := row0_len hwf hln
          exact ⟨[[.c 98, .r 0]], rfl, bh_one hwf hln hR2 ⟨by simp, by simp [okI, Lt]; omega⟩ fun _ => show 1 + ((szs Rs).getD 0 0 + 0) ≤ 300 by omega⟩
      clear hx
      walk_at "ev"
      have hss : ∃ s0 ss, szs Rs = s0 :: ss := by
        cases e : szs Rs with
        | nil => rw [e] at hszl; simp at hszl; omega
        | cons s0 ss => exact ⟨s0, ss, rfl⟩
      obtain ⟨s0, ss, hss⟩ := hss
      rw [hss]
      refine ⟨by omega, okL_of max_nats ?_⟩
      obtain ⟨q1, q2, q3⟩ := maxL_spec (ss.map fun z : Nat => (z : Int)) s0
      generalize maxL (s0 : Int) (ss.map fun z : Nat => (z : Int)) = mx at q1 q2 q3
      have hmx : SZ Rs ↔ mx ≤ 300 := by
        unfold SZ
        rw [hss]
        constructor
        · intro h
          rcases q1 with h1 | h1
          · have := h s0 (by simp)
            omega
          · obtain ⟨z, hz, rfl⟩ := List.mem_map.mp h1
            have := h z (by simp [hz])
            omega
        · intro h s hs
          rcases List.mem_cons.mp hs with rfl | hs
          · omega
          · have := q3 (s : Int) (List.mem_map.mpr ⟨s, hs, rfl⟩)
            omega
      walk_at "ev"
      have hdue : atI [D.str (tx []), D.str (tx [109, 97, 110, 121])] (if decide (300 < mx) = true then 1 else 0) = some (.str (tx (dueW Rs))) := by
        unfold dueW
        by_cases hs : SZ Rs
        · rw [if_pos hs, if_neg (by simp; exact hmx.mp hs)]
          exact at_0
        · rw [if_neg hs, if_pos (by simp; exact Int.not_le.mp fun z => hs (hmx.mpr z))]
          exact at_1
      refine okL_of hdue ?_
      have hok := dueW_ok Rs
      have hBl := hB.len
      have hBm : (B.map dRow).length = B.length := List.length_map _
      walk_at "go"
      refine os_ix (fun i en => en = [.v (.scr ns), .o false p, .e, .e, .e, .e, .e, .v (.tup (Rs.map dRow)), .e, .e, .v (.tup (B.map dRow)), .v (.str (tx (dueW Rs))), .e, .e]) rfl ?_ ?_
      · rintro w d hd en rfl
        obtain ⟨rfl, hlt⟩ := upL_get hd
        walk_at "evi"
        (with_reducible refine And.intro ?_ ?_); (focus omega)
        simp -dsimp -implicitDefEqProofs (disch := omega) only [← List.map_append, Int.zero_add]
        with_reducible refine word31_ok (by omega) (by simp [hRn]) (by simp; omega) hB.wf hB.ln ?_
        simp -dsimp -implicitDefEqProofs (disch := omega) only [hB.due]
        walk_at "evi"
        refine okL_eqtx hok hok ?_
        simp -dsimp -implicitDefEqProofs (disch := omega) only [decide_true]
        walk_at "evi"
      rintro en rfl
      walk_at "ev"
      exact ⟨p, rfl, hp⟩
    · rintro en ⟨p, rfl, hp⟩
      walk_at "ev"
      repeat ((with_reducible refine And.intro ?_ ?_); (focus omega))
      have hz1 : (upL 0 (Int.toNat 59)).length = 59 := upL_len _ _
      have hz2 : ∀ (i : Nat) d, (upL 0 (Int.toNat 59))[i]? = some d → d = .int (i : Nat) := fun i d h => by
        obtain ⟨h, _⟩ := upL_get h
        rw [h, Int.zero_add]
      generalize upL 0 (Int.toNat 59) = zs at hz1 hz2 ⊢
      refine ok_lcY (fun acc en => acc = ((List.range acc.length).map fun n => [It.r n, .r n]).map dRow ∧ en = [.v (.scr ns), .o false p, .e, .e, .e, .e, .e, .e, .e, .e, .e, .e, .e, .e]) ⟨rfl, rfl⟩ (by omega) ?_ ?_
      · rintro i d hd acc en hi ⟨ha, rfl⟩
        obtain rfl := hz2 i d hd
        subst hi
        walk_at "ev"
        repeat ((with_reducible refine And.intro ?_ ?_); (focus omega))
        rw [List.length_append, List.length_singleton, List.range_succ, List.map_append, List.map_append, ← ha]
        rfl
      rintro acc en hlen ⟨ha, rfl⟩
      rw [hz1] at hlen
      have hdb : D.tup [.str (tx [97]), .str (tx [98])] :: acc = (dbl 59).map dRow := by
        rw [ha, hlen]
        rfl
      clear ha
      walk_at "ev"
      simp -dsimp -implicitDefEqProofs (disch := omega) only [List.length_cons, List.length_nil, hlen]
      clear hlen hz1 hz2
      have hd59 : ((dbl 59).map dRow).length = 60 := by rw [List.length_map, dbl_len]
      obtain ⟨X, hX⟩ : ∃ X, X = dbl 59 := ⟨_, rfl⟩
      have hXt : ∀ j, j ≤ 59 → X.take (j + 1) = dbl j := fun j hj => by rw [hX]; exact dbl_take hj
      have hXw : WF X ∧ LN X := by rw [hX]; exact dbl_wf (by omega)
      have hXd : dueW X = [109, 97, 110, 121] := by
        rw [hX, dueW, if_neg fun z => absurd (dbl_sz.mp z) (by omega)]
      rw [← hX] at hd59 hdb
      (with_reducible refine And.intro ?_ ?_); (focus omega)
      with_reducible refine take_ok hp (by omega) (by omega) fun p r hp hr0 hr1 => ?_
      walk_at "ev"
      simp -dsimp -implicitDefEqProofs (disch := omega) only [hdb]
      clear hdb
      have hXn : X ≠ [] := fun z => by rw [z] at hd59; simp at hd59
      have hXl : X.length = 60 := by rw [← hd59, List.length_map]
      obtain ⟨m, hm⟩ : ∃ m : Nat, (2 + r).toNat = m + 1 := ⟨(1 + r).toNat, by omega⟩
      have hr : (2 : Int) + r = ((m + 1 : Nat) : Int) := by omega
      have hm58 : m ≤ 57 := by omega
      simp -dsimp -implicitDefEqProofs (disch := omega) only [hr]
      clear hX hr
      (with_reducible refine And.intro ?_ ?_); (focus omega)
      refine os_ix (fun i en => en = [.v (.scr ns), .e, .e, .v (.tup (X.map dRow)), .v (.int (m + 1 : Nat)), .e, .e, .e, .e, .e, .e, .e, .e, .e]) rfl ?_ ?_
      · rintro w d hd en rfl
        obtain ⟨rfl, hlt⟩ := upL_get hd
        rw [Int.zero_add]
        walk_at "evi"
        rw [cut_to (by omega), ← List.map_take, Int.toNat_natCast, hXt m (by omega)]
        refine word31_ok (by omega) (by simp [dbl]) (by rw [dbl_len]; omega) (dbl_wf (by omega)).1 (dbl_wf (by omega)).2 ?_
        have hok := dueW_ok (dbl m)
        have hdue : atI [D.str (tx []), D.str (tx [109, 97, 110, 121])] (if decide ((8 : Int) < ((m + 1 : Nat) : Int)) = true then 1 else 0) = some (.str (tx (dueW (dbl m)))) := by
          unfold dueW
          by_cases hs : SZ (dbl m)
          · have := dbl_sz.mp hs
            rw [if_pos hs, if_neg (by simp; omega)]
            exact at_0
          · have : ¬ m ≤ 7 := fun z => hs (dbl_sz.mpr z)
            rw [if_neg hs, if_pos (by simp; omega)]
            exact at_1
        walk_at "evi"
        (with_reducible refine And.intro ?_ ?_); (focus omega)
        with_reducible refine okL_of hdue ?_
        walk_at "evi"
        refine okL_eqtx hok hok ?_
        simp -dsimp -implicitDefEqProofs (disch := omega) only [decide_true]
        walk_at "evi"
        refine word31_ok (by omega) hXn (by omega) hXw.1 hXw.2 ?_
        rw [hXd]
        walk_at "evi"
        refine okL_eqtx (by decide) (by decide) ?_
        simp -dsimp -implicitDefEqProofs (disch := omega) only [decide_true]
        walk_at "evi"
      rintro en rfl
      walk_at "ev"
      exact ⟨_, rfl⟩
  revert this
  cases phi_law_k31 [.scr ns] with
  | bad => exact fun h => h.elim
  | ret b d o => exact fun h => h
  | exc e o => exact fun h => h
end PyD.S

end


open PySem PySem.W PyProof.Rows in
set_option maxHeartbeats 0 in
theorem PySem.Challenge.cw_touchpin_k31_rows_too_long_holds : PySem.Challenge.rw_touchpin_k31_rows_too_long.Holds := by
  w_on; o_law; k_head; (case hw => w_witness2)
  k_fill
  refine L2.walk_of (l := PySem.Challenge.rw_touchpin_k31_rows_too_long) (n := 63) (k := 5) (x := "script") (CX := fun w => L2.CX PySem.Challenge.rw_touchpin_k31_rows_too_long.prog w) (sp := fun w => PyD.spD _ [false] PyD.S.phi_law_k31) rfl (by decide) rfl ⟨rfl, by decide, by decide⟩ (fun w h Y => PySem.W.kIn_of Y) ?F (fun _ _ a ns hl hO hS => PyD.law_end (PyD.S.ok_law_k31 ns hl) hO hS) (fun w H s e s' h => PyD.law_cx w H s e s' h)
  case F =>
    intro w mg fa h KX G hmg
    refine' PyD.k31.all_mk KX G hmg ?a0 ?l0 ?c0 ?k0 ?a1 ?l1 ?c1 ?k1 ?a2 ?l2 ?c2 ?k2 ?a3 ?l3 ?c3 ?k3 ?a4 ?l4 ?c4 ?k4 ?a5 ?l5 ?c5 ?k5 ?a6 ?l6 ?c6 ?k6 ?a7 ?l7 ?c7 ?k7 ?a8 ?l8 ?c8 ?k8 ?a9 ?l9 ?c9 ?k9 ?a10 ?l10 ?c10 ?k10 ?z0 ?z1 ?z2 ?z3 ?z4 ?z5 ?z6 ?z7 ?z8 ?z9 ?z10 ?z11 ?z12 ?z13 ?q0 ?xa_pin ?xa_many ?xa_noturned ?xa_norow ?xa_round ?xa_missed ?xa_notext ?xB ?ei_many
    (case a0 => k_is); (case l0 => k_is); (case c0 => k_is); (case k0 => k_is); (case a1 => k_is); (case l1 => k_is); (case c1 => k_is); (case k1 => k_is); (case a2 => k_is); (case l2 => k_is); (case c2 => k_is); (case k2 => k_is); (case a3 => k_is); (case l3 => k_is); (case c3 => k_is); (case k3 => k_is); (case a4 => k_is); (case l4 => k_is); (case c4 => k_is); (case k4 => k_is); (case a5 => k_is); (case l5 => k_is); (case c5 => k_is); (case k5 => k_is); (case a6 => k_is); (case l6 => k_is); (case c6 => k_is); (case k6 => k_is); (case a7 => k_is); (case l7 => k_is); (case c7 => k_is); (case k7 => k_is); (case a8 => k_is); (case l8 => k_is); (case c8 => k_is); (case k8 => k_is); (case a9 => k_is); (case l9 => k_is); (case c9 => k_is); (case k9 => k_is); (case a10 => k_is); (case l10 => k_is); (case c10 => k_is); (case k10 => k_is); (case z0 => k_is); (case z1 => k_is); (case z2 => k_is); (case z3 => k_is); (case z4 => k_is); (case z5 => k_is); (case z6 => k_is); (case z7 => k_is); (case z8 => k_is); (case z9 => k_is); (case z10 => k_is); (case z11 => k_is); (case z12 => k_is); (case z13 => k_is); (case q0 => k_is); (case xa_pin => k_is); (case xa_many => k_is); (case xa_noturned => k_is); (case xa_norow => k_is); (case xa_round => k_is); (case xa_missed => k_is); (case xa_notext => k_is); (case xB => kernel_rfl); (case ei_many => k_exc)
