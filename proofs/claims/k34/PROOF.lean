import PyProof.Rows.All
import HandS.ForMost
import HandS.ForExc
import HandS.Walk
import HandS.IsInst
import HandS.ExcValue
import HandS.ExcInit
import HandS.ExcIs
import HandS.ExcField
import KE.KExcIs
import HandS.Wide
import HandS.TupAny
import HandS.TupMul
import HandS.TupLe
import HandS.Style
import HandS.Conv
import HandS.StrMore
import HandS.SortInts
import HandS.Rev
import HandS.RevRange
import HandS.Zip
import HandS.More
import HandS.TupSets
import KE.SortData
import HandS.Replace
import PyProof.Rows.FactsN_abs
import HandS.SetFor
import KE.GoesMore
import KE.GoesEnum
import PyProof.ReprRoads
import PyProof.ReprText
import PyProof.ReprLen
import PyProof.ListStr
import HandS.SetTxt0
import HandS.FStr
import HandS.RaiseMore
import PyProof.EnumMake
import HandS.Flow
import HandS.ReplaceLit
import HandS.ReplaceList
import PyProof.CollectStr
import PyProof.StrLawsTight
import PyProof.Rows.StrItems
import PySem.Challenge.RW_touchpin_k34_turned_back_or_none
set_option Elab.async false
set_option linter.all false
set_option maxRecDepth 100000

namespace PyD
open PySem PySem.Spec L2
inductive XN where
  | pin | many | noturned | norow | round | missed | notext
  deriving DecidableEq
def XN.nm : XN → Str
  | .pin => "PinError"
  | .many => "TooMany"
  | .noturned => "NoTurned"
  | .norow => "NoRow"
  | .round => "GoesRound"
  | .missed => "Missed"
  | .notext => "NoText"
inductive ON where
  | growing | desk
  deriving DecidableEq
def ON.nm : ON → Str
  | .growing => "Growing"
  | .desk => "Desk"
inductive D where
  | non | bl (b : Bool) | int (i : Int) | str (s : Str)
  | tup (ds : List D) | lst (ds : List D) | dic (kvs : List (Key × D)) | obj (n : ON) (fs : List (Str × D)) | scr (ns : List Int) | exn (C : XN) (fs : List (Str × D))
  /-- within a thing of one's own: one of one's own, too; as a thing of one's own: one with such within -/
  | ow (d : D)
def KLst (K : PySem.W.Frag) (a : Addr) (xs : List V) : Prop :=
  ∃ (o : Obj) (its : Array Value) (n : Nat), K.lookup a = some o ∧ o.cls = .type "list" ∧ o.dict = none ∧ o.data = .seq its n ∧ its.size ≤ sizeLine ∧ Vals xs its.toList
def exT (a : Addr) (c : Value) (od : Option Addr) : HO := .ext fun h => ∃ (o : Obj) (vs : Array Value), h.get? a = some o ∧ Zc c od o ∧ o.data = .fields vs
def ClsN (K : PySem.W.Frag) (n : XN) (c : Value) : Prop := PySem.W.nsIn K mainGlobals n.nm = some (some c) ∧ ∃ C, c = .ref C
def ClsO (K : PySem.W.Frag) (n : ON) (C : Addr) : Prop := PySem.W.nsIn K mainGlobals n.nm = some (some (.ref C))
def XdAt (U : Addr → Prop) (H : Hp) (od : Option Addr) (ws : List (Str × V)) : Prop := (ws = [] ∧ od = none) ∨ ∃ dx, od = some dx ∧ ¬ U dx ∧ H dx = some (.xd ws)
section
variable (K : PySem.W.Frag)
mutual
def Rep (U : Addr → Prop) (H : Hp) : D → V → Prop
  | .non, v => v = .non
  | .bl b, v => v = .bl b
  | .int i, v => v = .int i
  | .str s, v => v = .str s
  | .tup ds, v => ∃ a vs, v = .ref a ∧ ¬ U a ∧ H a = some (.tup vs) ∧ RepL U H ds vs
  | .lst ds, v => ∃ a vs, v = .ref a ∧ ¬ U a ∧ H a = some (.lst vs) ∧ RepL U H ds vs
  | .dic kvs, v => ∃ a ws, v = .ref a ∧ ¬ U a ∧ H a = some (.dK ws) ∧ RepK U H kvs ws
  | .obj n fs, v => ∃ a C dx ws, v = .ref a ∧ ¬ U a ∧ H a = some (.ins C dx ws) ∧ ClsO K n C ∧ RepF U H fs ws
  | .scr ns, v => ∃ a, v = .ref a ∧ ((¬ U a ∧ ∃ o, H a = some (.frz o (.lst (ns.map V.int)))) ∨ KLst K a (ns.map V.int))
  | .exn C fs, v => ∃ a c od ws, v = .ref a ∧ ¬ U a ∧ H a = some (exT a c od) ∧ ClsN K C c ∧ XdAt U H od ws ∧ RepF U H fs ws
  | .ow d, v => v ≠ .non ∧ Rep U H d v
def RepL (U : Addr → Prop) (H : Hp) : List D → List V → Prop
  | [], vs => vs = []
  | d :: ds, vs => ∃ v r, vs = v :: r ∧ Rep U H d v ∧ RepL U H ds r
def RepK (U : Addr → Prop) (H : Hp) : List (Key × D) → List (Key × V) → Prop
  | [], ws => ws = []
  | (k, d) :: r, ws => ∃ v s, ws = (k, v) :: s ∧ Rep U H d v ∧ RepK U H r s
def RepF (U : Addr → Prop) (H : Hp) : List (Str × D) → List (Str × V) → Prop
  | [], ws => ws = []
  | (k, d) :: r, ws => ∃ v s, ws = (k, v) :: s ∧ Rep U H d v ∧ RepF U H r s
end
end
section
variable {K : PySem.W.Frag} {U U' : Addr → Prop} {H H' : Hp}
mutual
theorem Rep.to (h : ∀ a o, H a = some o → ¬ U a → H' a = some o ∧ ¬ U' a) : ∀ (d : D) (v : V), Rep K U H d v → Rep K U' H' d v
  | .non, v, r => by unfold Rep at r ⊢; exact r
  | .bl b, v, r => by unfold Rep at r ⊢; exact r
  | .int i, v, r => by unfold Rep at r ⊢; exact r
  | .str s, v, r => by unfold Rep at r ⊢; exact r
  | .tup ds, v, r => by
    unfold Rep at r ⊢
    obtain ⟨a, vs, e, nu, ha, q⟩ := r
    obtain ⟨ha', nu'⟩ := h a _ ha nu
    exact ⟨a, vs, e, nu', ha', RepL.to h ds vs q⟩
  | .lst ds, v, r => by
    unfold Rep at r ⊢
    obtain ⟨a, vs, e, nu, ha, q⟩ := r
    obtain ⟨ha', nu'⟩ := h a _ ha nu
    exact ⟨a, vs, e, nu', ha', RepL.to h ds vs q⟩
  | .dic kvs, v, r => by
    unfold Rep at r ⊢
    obtain ⟨a, ws, e, nu, ha, q⟩ := r
    obtain ⟨ha', nu'⟩ := h a _ ha nu
    exact ⟨a, ws, e, nu', ha', RepK.to h kvs ws q⟩
  | .obj n fs, v, r => by
    unfold Rep at r ⊢
    obtain ⟨a, C, dx, ws, e, nu, ha, hc, q⟩ := r
    obtain ⟨ha', nu'⟩ := h a _ ha nu
    exact ⟨a, C, dx, ws, e, nu', ha', hc, RepF.to h fs ws q⟩
  | .scr ns, v, r => by
    unfold Rep at r ⊢
    obtain ⟨a, e, c⟩ := r
    refine ⟨a, e, ?_⟩
    rcases c with ⟨nu, o, hr⟩ | c
    · obtain ⟨ha', nu'⟩ := h a _ hr nu
      exact .inl ⟨nu', o, ha'⟩
    · exact .inr c
  | .exn C fs, v, r => by
    unfold Rep at r ⊢
    obtain ⟨a, c, od, ws, e, nu, ha, hc, hx, q⟩ := r
    obtain ⟨ha', nu'⟩ := h a _ ha nu
    refine ⟨a, c, od, ws, e, nu', ha', hc, ?_, RepF.to h fs ws q⟩
    rcases hx with hx | ⟨dx, e1, n1, h1⟩
    · exact .inl hx
    · obtain ⟨h1', n1'⟩ := h dx _ h1 n1
      exact .inr ⟨dx, e1, n1', h1'⟩
  | .ow d, v, r => by unfold Rep at r ⊢; exact ⟨r.1, Rep.to h d v r.2⟩
theorem RepL.to (h : ∀ a o, H a = some o → ¬ U a → H' a = some o ∧ ¬ U' a) : ∀ (ds : List D) (vs : List V), RepL K U H ds vs → RepL K U' H' ds vs
  | [], vs, r => by unfold RepL at r ⊢; exact r
  | d :: ds, vs, r => by
    unfold RepL at r ⊢
    obtain ⟨v, s, e, q1, q2⟩ := r
    exact ⟨v, s, e, Rep.to h d v q1, RepL.to h ds s q2⟩
theorem RepK.to (h : ∀ a o, H a = some o → ¬ U a → H' a = some o ∧ ¬ U' a) : ∀ (ds : List (Key × D)) (vs : List (Key × V)), RepK K U H ds vs → RepK K U' H' ds vs
  | [], vs, r => by unfold RepK at r ⊢; exact r
  | (k, d) :: ds, vs, r => by
    unfold RepK at r ⊢
    obtain ⟨v, s, e, q1, q2⟩ := r
    exact ⟨v, s, e, Rep.to h d v q1, RepK.to h ds s q2⟩
theorem RepF.to (h : ∀ a o, H a = some o → ¬ U a → H' a = some o ∧ ¬ U' a) : ∀ (ds : List (Str × D)) (vs : List (Str × V)), RepF K U H ds vs → RepF K U' H' ds vs
  | [], vs, r => by unfold RepF at r ⊢; exact r
  | (k, d) :: ds, vs, r => by
    unfold RepF at r ⊢
    obtain ⟨v, s, e, q1, q2⟩ := r
    exact ⟨v, s, e, Rep.to h d v q1, RepF.to h ds s q2⟩
end
end
end PyD

namespace PyD
open PySem PySem.Spec L2
inductive Sl where
  | e | v (d : D) | o (b : Bool) (d : D)
abbrev En := List Sl
inductive R where
  | sh (d : D) | fr (d : D) | sl (i : Nat)
structure Ex where
  cls : XN
  fld : Option (Str × D)
inductive Res (α : Type) where
  | ok (a : α) (en : En) | exc (x : Ex) (en : En) | bad
abbrev M (α : Type) := En → Res α
inductive Fl where
  | nx (en : En) | rt (r : R) (en : En) | bk (en : En) | ct (en : En) | exc (x : Ex) (en : En) | bad
inductive Out where
  | ret (fr : Bool) (d : D) (outs : List D) | exc (x : Ex) (outs : List D) | bad
mutual
def Rch (H : Hp) : D → Addr → Addr → Prop
  | .ow d, p, a => a = p ∨ RcN H d p a
  | _, p, a => a = p
def RcN (H : Hp) : D → Addr → Addr → Prop
  | .lst ds, p, a => ∃ vs, H p = some (.lst vs) ∧ RcL H ds vs a
  | .obj _ fs, p, a => ∃ C dx ws, H p = some (.ins C dx ws) ∧ RcF H fs ws a
  | _, _, _ => False
def RcL (H : Hp) : List D → List V → Addr → Prop
  | [], _, _ => False
  | d :: ds, vs, a => ∃ v us, vs = v :: us ∧ (RcV H d v a ∨ RcL H ds us a)
def RcF (H : Hp) : List (Str × D) → List (Str × V) → Addr → Prop
  | [], _, _ => False
  | (_, d) :: ds, vs, a => ∃ k v us, vs = (k, v) :: us ∧ (RcV H d v a ∨ RcF H ds us a)
def RcV (H : Hp) : D → V → Addr → Prop
  | .ow d, v, a => ∃ q, v = .ref q ∧ Rch H d q a
  | _, _, _ => False
end
theorem Rch.self {H : Hp} {p : Addr} : ∀ {d : D}, Rch H d p p
  | .ow d => by unfold Rch; exact .inl rfl
  | .non => by unfold Rch; rfl
  | .bl _ => by unfold Rch; rfl
  | .int _ => by unfold Rch; rfl
  | .str _ => by unfold Rch; rfl
  | .tup _ => by unfold Rch; rfl
  | .lst _ => by unfold Rch; rfl
  | .dic _ => by unfold Rch; rfl
  | .obj _ _ => by unfold Rch; rfl
  | .scr _ => by unfold Rch; rfl
  | .exn _ _ => by unfold Rch; rfl
def D.flatO : D → Bool
  | .ow _ => false
  | _ => true
theorem Rch.flat {H : Hp} {p a : Addr} : ∀ {d : D}, d.flatO = true → Rch H d p a → a = p
  | .ow d, h, _ => by cases h
  | .non, _, r => by unfold Rch at r; exact r
  | .bl _, _, r => by unfold Rch at r; exact r
  | .int _, _, r => by unfold Rch at r; exact r
  | .str _, _, r => by unfold Rch at r; exact r
  | .tup _, _, r => by unfold Rch at r; exact r
  | .lst _, _, r => by unfold Rch at r; exact r
  | .dic _, _, r => by unfold Rch at r; exact r
  | .obj _ _, _, r => by unfold Rch at r; exact r
  | .scr _, _, r => by unfold Rch at r; exact r
  | .exn _ _, _, r => by unfold Rch at r; exact r
section
variable (K : PySem.W.Frag)
mutual
def Con (U : Addr → Prop) (H : Hp) : D → Addr → Prop
  | .lst ds, p => ∃ vs, H p = some (.lst vs) ∧ RepL K U H ds vs
  | .dic kvs, p => ∃ ws, H p = some (.dK ws) ∧ RepK K U H kvs ws
  | .obj n fs, p => ∃ C dx ws, H p = some (.ins C dx ws) ∧ ClsO K n C ∧ RepF K U H fs ws
  | .ow d, p => ConN U H d p
  | _, _ => False
def ConN (U : Addr → Prop) (H : Hp) : D → Addr → Prop
  | .lst ds, p => ∃ vs, H p = some (.lst vs) ∧ ConL U H p ds vs
  | .obj n fs, p => ∃ C dx ws, H p = some (.ins C dx ws) ∧ ClsO K n C ∧ ConF U H p fs ws
  | _, _ => False
def ConL (U : Addr → Prop) (H : Hp) (p : Addr) : List D → List V → Prop
  | [], vs => vs = []
  | d :: ds, vs => ∃ v us, vs = v :: us ∧ ConV U H d v ∧ ConL U H p ds us ∧ ∀ a, RcV H d v a → a ≠ p ∧ ¬ RcL H ds us a
def ConF (U : Addr → Prop) (H : Hp) (p : Addr) : List (Str × D) → List (Str × V) → Prop
  | [], vs => vs = []
  | (k, d) :: ds, vs => ∃ v us, vs = (k, v) :: us ∧ ConV U H d v ∧ ConF U H p ds us ∧ ∀ a, RcV H d v a → a ≠ p ∧ ¬ RcF H ds us a
def ConV (U : Addr → Prop) (H : Hp) : D → V → Prop
  | .ow d, v => ∃ q, v = .ref q ∧ Con U H d q
  | .non, v => Rep K U H .non v
  | .bl b, v => Rep K U H (.bl b) v
  | .int i, v => Rep K U H (.int i) v
  | .str s, v => Rep K U H (.str s) v
  | .tup ds, v => Rep K U H (.tup ds) v
  | .lst ds, v => Rep K U H (.lst ds) v
  | .dic ds, v => Rep K U H (.dic ds) v
  | .obj n ds, v => Rep K U H (.obj n ds) v
  | .scr ds, v => Rep K U H (.scr ds) v
  | .exn C ds, v => Rep K U H (.exn C ds) v
end
end
def Cont (K : PySem.W.Frag) (U : Addr → Prop) (H : Hp) : D → Addr → Prop
  | .lst ds, p => ∃ vs, H p = some (.lst vs) ∧ RepL K U H ds vs
  | .dic kvs, p => ∃ ws, H p = some (.dK ws) ∧ RepK K U H kvs ws
  | .obj n fs, p => ∃ C dx ws, H p = some (.ins C dx ws) ∧ ClsO K n C ∧ RepF K U H fs ws
  | .ow d, p => ConN K U H d p
  | _, _ => False
theorem con_iff {K : PySem.W.Frag} {U : Addr → Prop} {H : Hp} {p : Addr} : ∀ {d : D}, Con K U H d p ↔ Cont K U H d p
  | .ow d => by unfold Con; exact Iff.rfl
  | .non => by unfold Con; exact Iff.rfl
  | .bl _ => by unfold Con; exact Iff.rfl
  | .int _ => by unfold Con; exact Iff.rfl
  | .str _ => by unfold Con; exact Iff.rfl
  | .tup _ => by unfold Con; exact Iff.rfl
  | .lst _ => by unfold Con; exact Iff.rfl
  | .dic _ => by unfold Con; exact Iff.rfl
  | .obj _ _ => by unfold Con; exact Iff.rfl
  | .scr _ => by unfold Con; exact Iff.rfl
  | .exn _ _ => by unfold Con; exact Iff.rfl
section
variable {K : PySem.W.Frag} {U U' : Addr → Prop} {H H' : Hp}
mutual
theorem Con.rch {p : Addr} : ∀ {d : D}, Con K U H d p → (∀ a o, Rch H d p a → H a = some o → H' a = some o) → ∀ a, Rch H' d p a ↔ Rch H d p a
  | .ow d, c, h, a => by
    unfold Con at c
    unfold Rch at h ⊢
    rw [ConN.rcn c (h p · (.inl rfl)) (fun a o r => h a o (.inr r)) a]
  | .non, c, h, a => by unfold Rch; exact Iff.rfl
  | .bl _, c, h, a => by unfold Rch; exact Iff.rfl
  | .int _, c, h, a => by unfold Rch; exact Iff.rfl
  | .str _, c, h, a => by unfold Rch; exact Iff.rfl
  | .tup _, c, h, a => by unfold Rch; exact Iff.rfl
  | .lst _, c, h, a => by unfold Rch; exact Iff.rfl
  | .dic _, c, h, a => by unfold Rch; exact Iff.rfl
  | .obj _ _, c, h, a => by unfold Rch; exact Iff.rfl
  | .scr _, c, h, a => by unfold Rch; exact Iff.rfl
  | .exn _ _, c, h, a => by unfold Rch; exact Iff.rfl
theorem ConN.rcn {p : Addr} : ∀ {d : D}, ConN K U H d p → (∀ o, H p = some o → H' p = some o) → (∀ a o, RcN H d p a → H a = some o → H' a = some o) → ∀ a, RcN H' d p a ↔ RcN H d p a
  | .lst ds, c, hp, h, a => by
    unfold ConN at c
    obtain ⟨vs, e, c⟩ := c
    have e' := hp _ e
    have q := ConL.rcl c (fun a o r => h a o (by unfold RcN; exact ⟨vs, e, r⟩)) a
    unfold RcN
    constructor
    · rintro ⟨us, e1, r⟩
      rw [e'] at e1; cases e1
      exact ⟨vs, e, q.mp r⟩
    · rintro ⟨us, e1, r⟩
      rw [e] at e1; cases e1
      exact ⟨vs, e', q.mpr r⟩
  | .obj n fs, c, hp, h, a => by
    unfold ConN at c
    obtain ⟨C, dx, ws, e, _, c⟩ := c
    have e' := hp _ e
    have q := ConF.rcf c (fun a o r => h a o (by unfold RcN; exact ⟨C, dx, ws, e, r⟩)) a
    unfold RcN
    constructor
    · rintro ⟨C1, dx1, us, e1, r⟩
      rw [e'] at e1; cases e1
      exact ⟨C, dx, ws, e, q.mp r⟩
    · rintro ⟨C1, dx1, us, e1, r⟩
      rw [e] at e1; cases e1
      exact ⟨C, dx, ws, e', q.mpr r⟩
  | .ow _, c, hp, h, a => by unfold RcN; exact Iff.rfl
  | .non, c, hp, h, a => by unfold RcN; exact Iff.rfl
  | .bl _, c, hp, h, a => by unfold RcN; exact Iff.rfl
  | .int _, c, hp, h, a => by unfold RcN; exact Iff.rfl
  | .str _, c, hp, h, a => by unfold RcN; exact Iff.rfl
  | .tup _, c, hp, h, a => by unfold RcN; exact Iff.rfl
  | .dic _, c, hp, h, a => by unfold RcN; exact Iff.rfl
  | .scr _, c, hp, h, a => by unfold RcN; exact Iff.rfl
  | .exn _ _, c, hp, h, a => by unfold RcN; exact Iff.rfl
theorem ConL.rcl {p : Addr} : ∀ {ds : List D} {vs : List V}, ConL K U H p ds vs → (∀ a o, RcL H ds vs a → H a = some o → H' a = some o) → ∀ a, RcL H' ds vs a ↔ RcL H ds vs a
  | [], vs, c, h, a => by unfold RcL; exact Iff.rfl
  | d :: ds, vs, c, h, a => by
    unfold ConL at c
    obtain ⟨v, us, e, c1, c2, _⟩ := c
    have q1 := ConV.rcv c1 (fun a o r => h a o (by unfold RcL; exact ⟨v, us, e, .inl r⟩)) a
    have q2 := ConL.rcl c2 (fun a o r => h a o (by unfold RcL; exact ⟨v, us, e, .inr r⟩)) a
    unfold RcL
    subst e
    constructor
    · rintro ⟨v1, us1, e1, r⟩
      cases e1
      exact ⟨v, us, rfl, r.imp q1.mp q2.mp⟩
    · rintro ⟨v1, us1, e1, r⟩
      cases e1
      exact ⟨v, us, rfl, r.imp q1.mpr q2.mpr⟩
theorem ConF.rcf {p : Addr} : ∀ {ds : List (Str × D)} {vs : List (Str × V)}, ConF K U H p ds vs → (∀ a o, RcF H ds vs a → H a = some o → H' a = some o) → ∀ a, RcF H' ds vs a ↔ RcF H ds vs a
  | [], vs, c, h, a => by unfold RcF; exact Iff.rfl
  | (k, d) :: ds, vs, c, h, a => by
    unfold ConF at c
    obtain ⟨v, us, e, c1, c2, _⟩ := c
    have q1 := ConV.rcv c1 (fun a o r => h a o (by unfold RcF; exact ⟨k, v, us, e, .inl r⟩)) a
    have q2 := ConF.rcf c2 (fun a o r => h a o (by unfold RcF; exact ⟨k, v, us, e, .inr r⟩)) a
    unfold RcF
    subst e
    constructor
    · rintro ⟨k1, v1, us1, e1, r⟩
      cases e1
      exact ⟨k, v, us, rfl, r.imp q1.mp q2.mp⟩
    · rintro ⟨k1, v1, us1, e1, r⟩
      cases e1
      exact ⟨k, v, us, rfl, r.imp q1.mpr q2.mpr⟩
theorem ConV.rcv : ∀ {d : D} {v : V}, ConV K U H d v → (∀ a o, RcV H d v a → H a = some o → H' a = some o) → ∀ a, RcV H' d v a ↔ RcV H d v a
  | .ow d, v, c, h, a => by
    unfold ConV at c
    obtain ⟨q, e, c⟩ := c
    have z := Con.rch c (fun a o r => h a o (by unfold RcV; exact ⟨q, e, r⟩)) a
    unfold RcV
    subst e
    constructor
    · rintro ⟨q1, e1, r⟩
      cases e1
      exact ⟨q, rfl, z.mp r⟩
    · rintro ⟨q1, e1, r⟩
      cases e1
      exact ⟨q, rfl, z.mpr r⟩
  | .non, v, c, h, a => by unfold RcV; exact Iff.rfl
  | .bl _, v, c, h, a => by unfold RcV; exact Iff.rfl
  | .int _, v, c, h, a => by unfold RcV; exact Iff.rfl
  | .str _, v, c, h, a => by unfold RcV; exact Iff.rfl
  | .tup _, v, c, h, a => by unfold RcV; exact Iff.rfl
  | .lst _, v, c, h, a => by unfold RcV; exact Iff.rfl
  | .dic _, v, c, h, a => by unfold RcV; exact Iff.rfl
  | .obj _ _, v, c, h, a => by unfold RcV; exact Iff.rfl
  | .scr _, v, c, h, a => by unfold RcV; exact Iff.rfl
  | .exn _ _, v, c, h, a => by unfold RcV; exact Iff.rfl
end
mutual
theorem Con.to (t : ∀ a o, H a = some o → ¬ U a → H' a = some o ∧ ¬ U' a) {p : Addr} : ∀ {d : D}, Con K U H d p → (∀ a o, Rch H d p a → H a = some o → H' a = some o) → Con K U' H' d p
  | .lst ds, c, h => by
    unfold Con at c ⊢
    obtain ⟨vs, a, r⟩ := c
    exact ⟨vs, h _ _ Rch.self a, RepL.to t ds vs r⟩
  | .dic ds, c, h => by
    unfold Con at c ⊢
    obtain ⟨vs, a, r⟩ := c
    exact ⟨vs, h _ _ Rch.self a, RepK.to t ds vs r⟩
  | .obj n ds, c, h => by
    unfold Con at c ⊢
    obtain ⟨C, dx, vs, a, c, r⟩ := c
    exact ⟨C, dx, vs, h _ _ Rch.self a, c, RepF.to t ds vs r⟩
  | .ow d, c, h => by
    unfold Con at c ⊢
    unfold Rch at h
    exact ConN.to t c (fun o => h p o (.inl rfl)) (fun a o r => h a o (.inr r))
  | .non, c, h => by unfold Con at c; exact c.elim
  | .bl _, c, h => by unfold Con at c; exact c.elim
  | .int _, c, h => by unfold Con at c; exact c.elim
  | .str _, c, h => by unfold Con at c; exact c.elim
  | .tup _, c, h => by unfold Con at c; exact c.elim
  | .scr _, c, h => by unfold Con at c; exact c.elim
  | .exn _ _, c, h => by unfold Con at c; exact c.elim
theorem ConN.to (t : ∀ a o, H a = some o → ¬ U a → H' a = some o ∧ ¬ U' a) {p : Addr} : ∀ {d : D}, ConN K U H d p → (∀ o, H p = some o → H' p = some o) → (∀ a o, RcN H d p a → H a = some o → H' a = some o) → ConN K U' H' d p
  | .lst ds, c, hp, h => by
    unfold ConN at c ⊢
    obtain ⟨vs, a, r⟩ := c
    exact ⟨vs, hp _ a, ConL.to t r fun b o r => h b o (by unfold RcN; exact ⟨vs, a, r⟩)⟩
  | .obj n ds, c, hp, h => by
    unfold ConN at c ⊢
    obtain ⟨C, dx, vs, a, c, r⟩ := c
    exact ⟨C, dx, vs, hp _ a, c, ConF.to t r fun b o r => h b o (by unfold RcN; exact ⟨C, dx, vs, a, r⟩)⟩
  | .ow _, c, hp, h => by unfold ConN at c; exact c.elim
  | .non, c, hp, h => by unfold ConN at c; exact c.elim
  | .bl _, c, hp, h => by unfold ConN at c; exact c.elim
  | .int _, c, hp, h => by unfold ConN at c; exact c.elim
  | .str _, c, hp, h => by unfold ConN at c; exact c.elim
  | .tup _, c, hp, h => by unfold ConN at c; exact c.elim
  | .dic _, c, hp, h => by unfold ConN at c; exact c.elim
  | .scr _, c, hp, h => by unfold ConN at c; exact c.elim
  | .exn _ _, c, hp, h => by unfold ConN at c; exact c.elim
theorem ConL.to (t : ∀ a o, H a = some o → ¬ U a → H' a = some o ∧ ¬ U' a) {p : Addr} : ∀ {ds : List D} {vs : List V}, ConL K U H p ds vs → (∀ a o, RcL H ds vs a → H a = some o → H' a = some o) → ConL K U' H' p ds vs
  | [], vs, c, h => by unfold ConL at c ⊢; exact c
  | d :: ds, vs, c, h => by
    unfold ConL at c ⊢
    obtain ⟨v, us, e, c1, c2, c3⟩ := c
    have h1 : ∀ a o, RcV H d v a → H a = some o → H' a = some o := fun a o r => h a o (by unfold RcL; exact ⟨v, us, e, .inl r⟩)
    have h2 : ∀ a o, RcL H ds us a → H a = some o → H' a = some o := fun a o r => h a o (by unfold RcL; exact ⟨v, us, e, .inr r⟩)
    refine ⟨v, us, e, ConV.to t c1 h1, ConL.to t c2 h2, fun a r => ?_⟩
    obtain ⟨q1, q2⟩ := c3 a ((ConV.rcv c1 h1 a).mp r)
    exact ⟨q1, fun z => q2 ((ConL.rcl c2 h2 a).mp z)⟩
theorem ConF.to (t : ∀ a o, H a = some o → ¬ U a → H' a = some o ∧ ¬ U' a) {p : Addr} : ∀ {ds : List (Str × D)} {vs : List (Str × V)}, ConF K U H p ds vs → (∀ a o, RcF H ds vs a → H a = some o → H' a = some o) → ConF K U' H' p ds vs
  | [], vs, c, h => by unfold ConF at c ⊢; exact c
  | (k, d) :: ds, vs, c, h => by
    unfold ConF at c ⊢
    obtain ⟨v, us, e, c1, c2, c3⟩ := c
    have h1 : ∀ a o, RcV H d v a → H a = some o → H' a = some o := fun a o r => h a o (by unfold RcF; exact ⟨k, v, us, e, .inl r⟩)
    have h2 : ∀ a o, RcF H ds us a → H a = some o → H' a = some o := fun a o r => h a o (by unfold RcF; exact ⟨k, v, us, e, .inr r⟩)
    refine ⟨v, us, e, ConV.to t c1 h1, ConF.to t c2 h2, fun a r => ?_⟩
    obtain ⟨q1, q2⟩ := c3 a ((ConV.rcv c1 h1 a).mp r)
    exact ⟨q1, fun z => q2 ((ConF.rcf c2 h2 a).mp z)⟩
theorem ConV.to (t : ∀ a o, H a = some o → ¬ U a → H' a = some o ∧ ¬ U' a) : ∀ {d : D} {v : V}, ConV K U H d v → (∀ a o, RcV H d v a → H a = some o → H' a = some o) → ConV K U' H' d v
  | .ow d, v, c, h => by
    unfold ConV at c ⊢
    obtain ⟨q, e, c⟩ := c
    exact ⟨q, e, Con.to t c fun a o r => h a o (by unfold RcV; exact ⟨q, e, r⟩)⟩
  | .non, v, c, h => by unfold ConV at c ⊢; exact Rep.to t _ v c
  | .bl _, v, c, h => by unfold ConV at c ⊢; exact Rep.to t _ v c
  | .int _, v, c, h => by unfold ConV at c ⊢; exact Rep.to t _ v c
  | .str _, v, c, h => by unfold ConV at c ⊢; exact Rep.to t _ v c
  | .tup _, v, c, h => by unfold ConV at c ⊢; exact Rep.to t _ v c
  | .lst _, v, c, h => by unfold ConV at c ⊢; exact Rep.to t _ v c
  | .dic _, v, c, h => by unfold ConV at c ⊢; exact Rep.to t _ v c
  | .obj _ _, v, c, h => by unfold ConV at c ⊢; exact Rep.to t _ v c
  | .scr _, v, c, h => by unfold ConV at c ⊢; exact Rep.to t _ v c
  | .exn _ _, v, c, h => by unfold ConV at c ⊢; exact Rep.to t _ v c
end
def Knd (o : HO) : Prop := (∀ xs, o ≠ .tup xs) ∧ ∀ xs, o ≠ .xd xs
mutual
theorem Con.at {p : Addr} : ∀ {d : D}, Con K U H d p → ∀ a, Rch H d p a → ∃ o, H a = some o ∧ Knd o
  | .lst ds, c, a, r => by unfold Con at c; unfold Rch at r; subst r; obtain ⟨vs, e, _⟩ := c; exact ⟨_, e, ⟨fun _ z => (by cases z), fun _ z => (by cases z)⟩⟩
  | .dic ds, c, a, r => by unfold Con at c; unfold Rch at r; subst r; obtain ⟨vs, e, _⟩ := c; exact ⟨_, e, ⟨fun _ z => (by cases z), fun _ z => (by cases z)⟩⟩
  | .obj n ds, c, a, r => by unfold Con at c; unfold Rch at r; subst r; obtain ⟨C, dx, vs, e, _⟩ := c; exact ⟨_, e, ⟨fun _ z => (by cases z), fun _ z => (by cases z)⟩⟩
  | .ow d, c, a, r => by
    unfold Con at c
    unfold Rch at r
    rcases r with rfl | r
    · exact ConN.at0 c
    · exact ConN.at c a r
  | .non, c, _, _ => by unfold Con at c; exact c.elim
  | .bl _, c, _, _ => by unfold Con at c; exact c.elim
  | .int _, c, _, _ => by unfold Con at c; exact c.elim
  | .str _, c, _, _ => by unfold Con at c; exact c.elim
  | .tup _, c, _, _ => by unfold Con at c; exact c.elim
  | .scr _, c, _, _ => by unfold Con at c; exact c.elim
  | .exn _ _, c, _, _ => by unfold Con at c; exact c.elim
theorem ConN.at0 {p : Addr} : ∀ {d : D}, ConN K U H d p → ∃ o, H p = some o ∧ Knd o
  | .lst ds, c => by unfold ConN at c; obtain ⟨vs, e, _⟩ := c; exact ⟨_, e, ⟨fun _ z => (by cases z), fun _ z => (by cases z)⟩⟩
  | .obj n ds, c => by unfold ConN at c; obtain ⟨C, dx, vs, e, _⟩ := c; exact ⟨_, e, ⟨fun _ z => (by cases z), fun _ z => (by cases z)⟩⟩
  | .ow _, c => by unfold ConN at c; exact c.elim
  | .non, c => by unfold ConN at c; exact c.elim
  | .bl _, c => by unfold ConN at c; exact c.elim
  | .int _, c => by unfold ConN at c; exact c.elim
  | .str _, c => by unfold ConN at c; exact c.elim
  | .tup _, c => by unfold ConN at c; exact c.elim
  | .dic _, c => by unfold ConN at c; exact c.elim
  | .scr _, c => by unfold ConN at c; exact c.elim
  | .exn _ _, c => by unfold ConN at c; exact c.elim
theorem ConN.at {p : Addr} : ∀ {d : D}, ConN K U H d p → ∀ a, RcN H d p a → ∃ o, H a = some o ∧ Knd o
  | .lst ds, c, a, r => by
    unfold ConN at c; unfold RcN at r
    obtain ⟨vs, e, c⟩ := c
    obtain ⟨us, e1, r⟩ := r
    rw [e] at e1; cases e1
    exact ConL.at c a r
  | .obj n ds, c, a, r => by
    unfold ConN at c; unfold RcN at r
    obtain ⟨C, dx, vs, e, _, c⟩ := c
    obtain ⟨C1, dx1, us, e1, r⟩ := r
    rw [e] at e1; cases e1
    exact ConF.at c a r
  | .ow _, c, _, _ => by unfold ConN at c; exact c.elim
  | .non, c, _, _ => by unfold ConN at c; exact c.elim
  | .bl _, c, _, _ => by unfold ConN at c; exact c.elim
  | .int _, c, _, _ => by unfold ConN at c; exact c.elim
  | .str _, c, _, _ => by unfold ConN at c; exact c.elim
  | .tup _, c, _, _ => by unfold ConN at c; exact c.elim
  | .dic _, c, _, _ => by unfold ConN at c; exact c.elim
  | .scr _, c, _, _ => by unfold ConN at c; exact c.elim
  | .exn _ _, c, _, _ => by unfold ConN at c; exact c.elim
theorem ConL.at {p : Addr} : ∀ {ds : List D} {vs : List V}, ConL K U H p ds vs → ∀ a, RcL H ds vs a → ∃ o, H a = some o ∧ Knd o
  | [], vs, c, a, r => by unfold RcL at r; exact r.elim
  | d :: ds, vs, c, a, r => by
    unfold ConL at c; unfold RcL at r
    obtain ⟨v, us, e, c1, c2, _⟩ := c
    obtain ⟨v1, us1, e1, r⟩ := r
    subst e; cases e1
    rcases r with r | r
    · exact ConV.at c1 a r
    · exact ConL.at c2 a r
theorem ConF.at {p : Addr} : ∀ {ds : List (Str × D)} {vs : List (Str × V)}, ConF K U H p ds vs → ∀ a, RcF H ds vs a → ∃ o, H a = some o ∧ Knd o
  | [], vs, c, a, r => by unfold RcF at r; exact r.elim
  | (k, d) :: ds, vs, c, a, r => by
    unfold ConF at c; unfold RcF at r
    obtain ⟨v, us, e, c1, c2, _⟩ := c
    obtain ⟨k1, v1, us1, e1, r⟩ := r
    subst e; cases e1
    rcases r with r | r
    · exact ConV.at c1 a r
    · exact ConF.at c2 a r
theorem ConV.at : ∀ {d : D} {v : V}, ConV K U H d v → ∀ a, RcV H d v a → ∃ o, H a = some o ∧ Knd o
  | .ow d, v, c, a, r => by
    unfold ConV at c; unfold RcV at r
    obtain ⟨q, e, c⟩ := c
    obtain ⟨q1, e1, r⟩ := r
    subst e; cases e1
    exact Con.at c a r
  | .non, _, _, _, r => by unfold RcV at r; exact r.elim
  | .bl _, _, _, _, r => by unfold RcV at r; exact r.elim
  | .int _, _, _, _, r => by unfold RcV at r; exact r.elim
  | .str _, _, _, _, r => by unfold RcV at r; exact r.elim
  | .tup _, _, _, _, r => by unfold RcV at r; exact r.elim
  | .lst _, _, _, _, r => by unfold RcV at r; exact r.elim
  | .dic _, _, _, _, r => by unfold RcV at r; exact r.elim
  | .obj _ _, _, _, _, r => by unfold RcV at r; exact r.elim
  | .scr _, _, _, _, r => by unfold RcV at r; exact r.elim
  | .exn _ _, _, _, _, r => by unfold RcV at r; exact r.elim
end
mutual
theorem Con.rep {p : Addr} : ∀ {d : D}, Con K U H d p → (∀ a, Rch H d p a → ¬ U a) → Rep K U H d (.ref p)
  | .lst ds, c, nu => by
    unfold Con at c
    obtain ⟨vs, a, r⟩ := c
    unfold Rep
    exact ⟨p, vs, rfl, nu _ Rch.self, a, r⟩
  | .dic ds, c, nu => by
    unfold Con at c
    obtain ⟨vs, a, r⟩ := c
    unfold Rep
    exact ⟨p, vs, rfl, nu _ Rch.self, a, r⟩
  | .obj n ds, c, nu => by
    unfold Con at c
    obtain ⟨C, dx, vs, a, c, r⟩ := c
    unfold Rep
    exact ⟨p, C, dx, vs, rfl, nu _ Rch.self, a, c, r⟩
  | .ow d, c, nu => by
    unfold Con at c
    unfold Rep
    unfold Rch at nu
    refine ⟨by simp, ?_⟩
    exact ConN.rep c (nu p (.inl rfl)) fun a r => nu a (.inr r)
  | .non, c, _ => by unfold Con at c; exact c.elim
  | .bl _, c, _ => by unfold Con at c; exact c.elim
  | .int _, c, _ => by unfold Con at c; exact c.elim
  | .str _, c, _ => by unfold Con at c; exact c.elim
  | .tup _, c, _ => by unfold Con at c; exact c.elim
  | .scr _, c, _ => by unfold Con at c; exact c.elim
  | .exn _ _, c, _ => by unfold Con at c; exact c.elim
theorem ConN.rep {p : Addr} : ∀ {d : D}, ConN K U H d p → ¬ U p → (∀ a, RcN H d p a → ¬ U a) → Rep K U H d (.ref p)
  | .lst ds, c, np, nu => by
    unfold ConN at c
    obtain ⟨vs, e, c⟩ := c
    unfold Rep
    exact ⟨p, vs, rfl, np, e, ConL.rep c fun a r => nu a (by unfold RcN; exact ⟨vs, e, r⟩)⟩
  | .obj n fs, c, np, nu => by
    unfold ConN at c
    obtain ⟨C, dx, ws, e, hc, c⟩ := c
    unfold Rep
    exact ⟨p, C, dx, ws, rfl, np, e, hc, ConF.rep c fun a r => nu a (by unfold RcN; exact ⟨C, dx, ws, e, r⟩)⟩
  | .ow _, c, _, _ => by unfold ConN at c; exact c.elim
  | .non, c, _, _ => by unfold ConN at c; exact c.elim
  | .bl _, c, _, _ => by unfold ConN at c; exact c.elim
  | .int _, c, _, _ => by unfold ConN at c; exact c.elim
  | .str _, c, _, _ => by unfold ConN at c; exact c.elim
  | .tup _, c, _, _ => by unfold ConN at c; exact c.elim
  | .dic _, c, _, _ => by unfold ConN at c; exact c.elim
  | .scr _, c, _, _ => by unfold ConN at c; exact c.elim
  | .exn _ _, c, _, _ => by unfold ConN at c; exact c.elim
theorem ConL.rep {p : Addr} : ∀ {ds : List D} {vs : List V}, ConL K U H p ds vs → (∀ a, RcL H ds vs a → ¬ U a) → RepL K U H ds vs
  | [], vs, c, _ => by unfold ConL at c; unfold RepL; exact c
  | d :: ds, vs, c, nu => by
    unfold ConL at c
    obtain ⟨v, us, e, c1, c2, _⟩ := c
    unfold RepL
    exact ⟨v, us, e, ConV.rep c1 fun a r => nu a (by unfold RcL; exact ⟨v, us, e, .inl r⟩), ConL.rep c2 fun a r => nu a (by unfold RcL; exact ⟨v, us, e, .inr r⟩)⟩
theorem ConF.rep {p : Addr} : ∀ {ds : List (Str × D)} {vs : List (Str × V)}, ConF K U H p ds vs → (∀ a, RcF H ds vs a → ¬ U a) → RepF K U H ds vs
  | [], vs, c, _ => by unfold ConF at c; unfold RepF; exact c
  | (k, d) :: ds, vs, c, nu => by
    unfold ConF at c
    obtain ⟨v, us, e, c1, c2, _⟩ := c
    unfold RepF
    exact ⟨v, us, e, ConV.rep c1 fun a r => nu a (by unfold RcF; exact ⟨k, v, us, e, .inl r⟩), ConF.rep c2 fun a r => nu a (by unfold RcF; exact ⟨k, v, us, e, .inr r⟩)⟩
theorem ConV.rep : ∀ {d : D} {v : V}, ConV K U H d v → (∀ a, RcV H d v a → ¬ U a) → Rep K U H d v
  | .ow d, v, c, nu => by
    unfold ConV at c
    obtain ⟨q, e, c⟩ := c
    subst e
    unfold Rep
    exact ⟨by simp, Con.rep c fun a r => nu a (by unfold RcV; exact ⟨q, rfl, r⟩)⟩
  | .non, v, c, _ => by unfold ConV at c; exact c
  | .bl _, v, c, _ => by unfold ConV at c; exact c
  | .int _, v, c, _ => by unfold ConV at c; exact c
  | .str _, v, c, _ => by unfold ConV at c; exact c
  | .tup _, v, c, _ => by unfold ConV at c; exact c
  | .lst _, v, c, _ => by unfold ConV at c; exact c
  | .dic _, v, c, _ => by unfold ConV at c; exact c
  | .obj _ _, v, c, _ => by unfold ConV at c; exact c
  | .scr _, v, c, _ => by unfold ConV at c; exact c
  | .exn _ _, v, c, _ => by unfold ConV at c; exact c
end
end
def Own (H : Hp) (σ : L2.St) (en : En) (a : Addr) : Prop := ∃ (i : Nat) (b : Bool) (d : D) (p : Addr), en[i]? = some (.o b d) ∧ σ[i]? = some (some (.ref p)) ∧ Rch H d p a
def Un (B : Addr → Prop) (H : Hp) (σ : L2.St) (en : En) (a : Addr) : Prop := B a ∨ Own H σ en a
structure Good (K : PySem.W.Frag) (B : Addr → Prop) (H : Hp) (σ : L2.St) (en : En) : Prop where
  len : σ.length = en.length
  all : ∀ a, B a → H a ≠ none
  rep : ∀ (i : Nat) (d : D), en[i]? = some (.v d) → ∃ v, σ[i]? = some (some v) ∧ Rep K (Un B H σ en) H d v
  own : ∀ (i : Nat) (b : Bool) (d : D), en[i]? = some (.o b d) → ∃ p, σ[i]? = some (some (.ref p)) ∧ (∀ a, Rch H d p a → ¬ B a) ∧ Cont K (Un B H σ en) H d p
  inj : ∀ (i j : Nat) (p q a : Addr) (b c : Bool) (d d' : D), en[i]? = some (.o b d) → en[j]? = some (.o c d') → σ[i]? = some (some (.ref p)) → σ[j]? = some (some (.ref q)) → Rch H d p a → Rch H d' q a → i = j
def OwnF (H : Hp) (σ : L2.St) (en : En) (a : Addr) : Prop := ∃ (i : Nat) (d : D) (p : Addr), en[i]? = some (.o false d) ∧ σ[i]? = some (some (.ref p)) ∧ Rch H d p a
structure Stp (σ : L2.St) (en : En) (H : Hp) (σ' : L2.St) (en' : En) (H' : Hp) : Prop where
  len : en'.length = en.length
  fr : ∀ a o, H a = some o → ¬ Own H σ en a → H' a = some o
  al : ∀ a, H a ≠ none → H' a ≠ none
  ow : ∀ a, Own H' σ' en' a → Own H σ en a ∨ H a = none
  of : ∀ a, OwnF H' σ' en' a → OwnF H σ en a ∨ H a = none
  pin : ∀ (i : Nat) (d : D), en[i]? = some (.o true d) → σ'[i]? = σ[i]? ∧ ∃ d', en'[i]? = some (.o true d')
  pb : ∀ (i : Nat) (d : D), en'[i]? = some (.o true d) → ∃ d', en[i]? = some (.o true d')
  pr : ∀ (i : Nat) (d d' : D) (p a : Addr), en[i]? = some (.o true d) → en'[i]? = some (.o true d') → σ[i]? = some (some (.ref p)) → Rch H' d' p a → Rch H d p a ∨ H a = none ∨ OwnF H σ en a
structure Bx (B B' : Addr → Prop) (σ : L2.St) (en : En) (H : Hp) : Prop where
  up : ∀ a, B a → B' a
  new : ∀ a, B' a → B a ∨ H a = none ∨ Own H σ en a
def Ext (H H' : Hp) : Prop := ∀ a o, H a = some o → H' a = some o
section
variable {K : PySem.W.Frag} {B B' B2 : Addr → Prop} {U U' : Addr → Prop} {H H' H2 : Hp} {σ σ' σ2 : L2.St} {en en' en2 : En} {d : D} {v : V} {p : Addr} {i : Nat}
theorem Cont.to (h : ∀ a o, H a = some o → ¬ U a → H' a = some o ∧ ¬ U' a) (hp : ∀ a o, Rch H d p a → H a = some o → H' a = some o) (c : Cont K U H d p) : Cont K U' H' d p :=
  con_iff.mp (Con.to h (con_iff.mpr c) hp)
theorem Cont.rch (hp : ∀ a o, Rch H d p a → H a = some o → H' a = some o) (c : Cont K U H d p) (a : Addr) : Rch H' d p a ↔ Rch H d p a := Con.rch (con_iff.mpr c) hp a
theorem Cont.atK (c : Cont K U H d p) {a : Addr} (r : Rch H d p a) : ∃ o, H a = some o ∧ Knd o := Con.at (con_iff.mpr c) a r
theorem Cont.atR (c : Cont K U H d p) {a : Addr} (r : Rch H d p a) : ∃ o, H a = some o := let ⟨o, e, _⟩ := c.atK r; ⟨o, e⟩
theorem Cont.at (c : Cont K U H d p) : ∃ o, H p = some o := c.atR Rch.self
theorem Cont.rep (nu : ∀ a, Rch H d p a → ¬ U a) (c : Cont K U H d p) : Rep K U H d (.ref p) := Con.rep (con_iff.mpr c) nu
theorem Good.ownAt (G : Good K B H σ en) {a : Addr} (h : Own H σ en a) : ∃ o, H a = some o := by
  obtain ⟨i, b, d, p, e, s, r⟩ := h
  obtain ⟨p, s', _, c⟩ := G.own i b d e
  rw [s] at s'
  cases s'
  exact c.atR r
theorem Good.ownNB (G : Good K B H σ en) {a : Addr} (h : Own H σ en a) : ¬ B a := by
  obtain ⟨i, b, d, p, e, s, r⟩ := h
  obtain ⟨p, s', n, c⟩ := G.own i b d e
  rw [s] at s'
  cases s'
  exact n a r
theorem Good.unAt (G : Good K B H σ en) {a : Addr} (h : Un B H σ en a) : H a ≠ none := by
  rcases h with h | h
  · exact G.all a h
  · obtain ⟨o, e⟩ := G.ownAt h
    rw [e]
    simp
theorem Good.ownIff (G : Good K B H σ en) (h : ∀ a o, Own H σ en a → H a = some o → H' a = some o) (a : Addr) : Own H' σ en a ↔ Own H σ en a := by
  constructor
  · rintro ⟨i, b, d, p, e, s, r⟩
    obtain ⟨p', s', _, c⟩ := G.own i b d e
    rw [s] at s'
    cases s'
    exact ⟨i, b, d, p, e, s, (c.rch (fun a o r => h a o ⟨i, b, d, p, e, s, r⟩) a).mp r⟩
  · rintro ⟨i, b, d, p, e, s, r⟩
    obtain ⟨p', s', _, c⟩ := G.own i b d e
    rw [s] at s'
    cases s'
    exact ⟨i, b, d, p, e, s, (c.rch (fun a o r => h a o ⟨i, b, d, p, e, s, r⟩) a).mpr r⟩
theorem Good.ownFIff (G : Good K B H σ en) (h : ∀ a o, Own H σ en a → H a = some o → H' a = some o) (a : Addr) : OwnF H' σ en a ↔ OwnF H σ en a := by
  constructor
  · rintro ⟨i, d, p, e, s, r⟩
    obtain ⟨p', s', _, c⟩ := G.own i false d e
    rw [s] at s'
    cases s'
    exact ⟨i, d, p, e, s, (c.rch (fun a o r => h a o ⟨i, false, d, p, e, s, r⟩) a).mp r⟩
  · rintro ⟨i, d, p, e, s, r⟩
    obtain ⟨p', s', _, c⟩ := G.own i false d e
    rw [s] at s'
    cases s'
    exact ⟨i, d, p, e, s, (c.rch (fun a o r => h a o ⟨i, false, d, p, e, s, r⟩) a).mpr r⟩
theorem OwnF.own {a : Addr} (h : OwnF H σ en a) : Own H σ en a := let ⟨i, d, p, e, s, r⟩ := h; ⟨i, false, d, p, e, s, r⟩
theorem Stp.refl (σ : L2.St) (en : En) (H : Hp) : Stp σ en H σ en H := ⟨rfl, fun _ _ h _ => h, fun _ h => h, fun _ h => .inl h, fun _ h => .inl h, fun _ d h => ⟨rfl, d, h⟩, fun _ d h => ⟨d, h⟩, fun i d d' p a e1 e2 _ r => .inl (by rw [e1] at e2; cases e2; exact r)⟩
theorem Stp.trans (a : Stp σ en H σ' en' H') (b : Stp σ' en' H' σ2 en2 H2) : Stp σ en H σ2 en2 H2 where
  len := b.len.trans a.len
  fr := fun x o h n => b.fr x o (a.fr x o h n) fun q => by
    rcases a.ow x q with q | q
    · exact n q
    · rw [h] at q; cases q
  al := fun x h => b.al x (a.al x h)
  ow := fun x h => by
    rcases b.ow x h with q | q
    · exact a.ow x q
    · refine .inr (Classical.byContradiction fun z => a.al x z q)
  of := fun x h => by
    rcases b.of x h with q | q
    · exact a.of x q
    · refine .inr (Classical.byContradiction fun z => a.al x z q)
  pin := fun i d h => by
    obtain ⟨e1, d1, h1⟩ := a.pin i d h
    obtain ⟨e2, d2, h2⟩ := b.pin i d1 h1
    exact ⟨e2.trans e1, d2, h2⟩
  pb := fun i d h => by
    obtain ⟨d1, h1⟩ := b.pb i d h
    exact a.pb i d1 h1
  pr := fun i d d' p x h1 h2 s r => by
    obtain ⟨e1, d1, h3⟩ := a.pin i d h1
    rcases b.pr i d1 d' p x h3 h2 (e1.trans s) r with q | q | q
    · exact a.pr i d d1 p x h1 h3 s q
    · exact .inr (.inl (Classical.byContradiction fun z => a.al x z q))
    · exact .inr (a.of x q).symm
theorem Stp.ext (G : Good K B H σ en) (h : Ext H H') : Stp σ en H σ en H' := ⟨rfl, fun a o e _ => h a o e, fun a e => by
  cases q : H a with
  | none => exact absurd q e
  | some o => rw [h a o q]; simp, fun a q => .inl ((G.ownIff (fun a o _ => h a o) a).mp q), fun a q => .inl ((G.ownFIff (fun a o _ => h a o) a).mp q), fun _ d h => ⟨rfl, d, h⟩, fun _ d h => ⟨d, h⟩, fun i d d' p a e1 e2 s r => .inl (by
    rw [e1] at e2; cases e2
    obtain ⟨p', s', _, c⟩ := G.own i true d e1
    rw [s] at s'; cases s'
    exact (c.rch (fun a o _ => h a o) a).mp r)⟩
theorem Bx.refl (B : Addr → Prop) (σ : L2.St) (en : En) (H : Hp) : Bx B B σ en H := ⟨fun _ h => h, fun _ h => .inl h⟩
theorem Bx.trans (a : Bx B B' σ en H) (s : Stp σ en H σ' en' H') (b : Bx B' B2 σ' en' H') : Bx B B2 σ en H :=
  ⟨fun x h => b.up x (a.up x h), fun x h => by
    rcases b.new x h with q | q | q
    · exact a.new x q
    · exact .inr (.inl (Classical.byContradiction fun z => s.al x z q))
    · rcases s.ow x q with q | q
      · exact .inr (.inr q)
      · exact .inr (.inl q)⟩
theorem stepTo (s : Stp σ en H σ' en' H') (b : Bx B B' σ en H) : ∀ a o, H a = some o → ¬ Un B H σ en a → H' a = some o ∧ ¬ Un B' H' σ' en' a := fun a o h n =>
  ⟨s.fr a o h fun q => n (.inr q), fun q => by
    rcases q with q | q
    · rcases b.new a q with q | q | q
      · exact n (.inl q)
      · rw [h] at q; cases q
      · exact n (.inr q)
    · rcases s.ow a q with q | q
      · exact n (.inr q)
      · rw [h] at q; cases q⟩
theorem Rep.step (s : Stp σ en H σ' en' H') (b : Bx B B' σ en H) (r : Rep K (Un B H σ en) H d v) : Rep K (Un B' H' σ' en') H' d v := Rep.to (stepTo s b) d v r
theorem Un.mono (h : ∀ a, B a → B' a) {a : Addr} (q : Un B H σ en a) : Un B' H σ en a := q.imp (h a) id
theorem Good.mono (G : Good K B' H σ en) (h : ∀ a, B a → B' a) : Good K B H σ en where
  len := G.len
  all := fun a q => G.all a (h a q)
  rep := fun i d e => by
    obtain ⟨v, s, r⟩ := G.rep i d e
    exact ⟨v, s, Rep.to (fun a o x n => ⟨x, fun q => n (Un.mono h q)⟩) d v r⟩
  own := fun i b d e => by
    obtain ⟨p, s, n, c⟩ := G.own i b d e
    exact ⟨p, s, fun a r q => n a r (h a q), Cont.to (fun a o x n => ⟨x, fun q => n (Un.mono h q)⟩) (fun _ _ _ x => x) c⟩
  inj := G.inj
theorem Good.ext (G : Good K B H σ en) (h : Ext H H') (hb : ∀ a, B' a → B a ∨ (H a = none ∧ H' a ≠ none)) : Good K B' H' σ en := by
  have oi := G.ownIff (H' := H') (fun a o _ => h a o)
  have t : ∀ a o, H a = some o → ¬ Un B H σ en a → H' a = some o ∧ ¬ Un B' H' σ en a := fun a o e n => ⟨h a o e, fun q => by
    rcases q with q | q
    · rcases hb a q with q | q
      · exact n (.inl q)
      · rw [e] at q; cases q.1
    · exact n (.inr ((oi a).mp q))⟩
  exact {
    len := G.len
    all := fun a q => by
      rcases hb a q with q | q
      · have := G.all a q
        cases e : H a with
        | none => exact absurd e this
        | some o => rw [h a o e]; simp
      · exact q.2
    rep := fun i d e => by
      obtain ⟨v, s, r⟩ := G.rep i d e
      exact ⟨v, s, Rep.to t d v r⟩
    own := fun i b d e => by
      obtain ⟨p, s, n, c⟩ := G.own i b d e
      refine ⟨p, s, fun a r z => ?_, Cont.to t (fun a o _ x => h a o x) c⟩
      have r' := (c.rch (H' := H') (fun a o _ => h a o) a).mp r
      obtain ⟨o, q⟩ := c.atR r'
      rcases hb a z with z | z
      · exact n a r' z
      · rw [q] at z; cases z.1
    inj := fun i j p q a b c d d' e1 e2 s1 s2 r1 r2 => by
      obtain ⟨p', t1, _, c1⟩ := G.own i b d e1
      rw [s1] at t1; cases t1
      obtain ⟨q', t2, _, c2⟩ := G.own j c d' e2
      rw [s2] at t2; cases t2
      exact G.inj i j p q a b c d d' e1 e2 s1 s2 ((c1.rch (H' := H') (fun a o _ => h a o) a).mp r1) ((c2.rch (H' := H') (fun a o _ => h a o) a).mp r2) }
theorem Good.ext0 (G : Good K B H σ en) (h : Ext H H') : Good K B H' σ en := G.ext h fun _ q => .inl q
def ArgR (K : PySem.W.Frag) (B : Addr → Prop) (σ : L2.St) (en : En) (H : Hp) : R → V → Prop
  | .sh d, v => Rep K (Un B H σ en) H d v
  | .fr d, v => ∃ p, v = .ref p ∧ (∀ a, Rch H d p a → B a) ∧ Cont K (Un B H σ en) H d p
  | .sl i, v => σ[i]? = some (some v)
def frN (σ : L2.St) (en : En) (H H' : Hp) (r : R) (v : V) : Prop := match r with
  | .fr d => ∀ p a, v = .ref p → Rch H' d p a → H a = none ∨ OwnF H σ en a
  | _ => True
def frNs (σ : L2.St) (en : En) (H H' : Hp) : List R → List V → Prop
  | r :: rs, v :: vs => frN σ en H H' r v ∧ frNs σ en H H' rs vs
  | _, _ => True
theorem frN.step (s : Stp σ en H σ' en' H') : ∀ {r : R} {v : V}, frN σ' en' H' H2 r v → frN σ en H H2 r v
  | .sh _, _, _ => trivial
  | .sl _, _, _ => trivial
  | .fr d, v, h => fun p a e r => by
    rcases h p a e r with q | q
    · exact .inl (Classical.byContradiction fun z => s.al a z q)
    · exact (s.of a q).symm
def RcR (H : Hp) : R → V → Addr → Prop
  | .fr d, v, a => ∃ p, v = .ref p ∧ Rch H d p a
  | _, _, _ => False
def RcRs (H : Hp) : List R → List V → Addr → Prop
  | r :: rs, v :: vs, a => RcR H r v a ∨ RcRs H rs vs a
  | _, _, _ => False
def ArgRs (K : PySem.W.Frag) (B : Addr → Prop) (σ : L2.St) (en : En) (H : Hp) : List R → List V → Prop
  | [], vs => vs = []
  | r :: rs, vs => ∃ v us, vs = v :: us ∧ ArgR K B σ en H r v ∧ ArgRs K B σ en H rs us ∧ ∀ a, RcR H r v a → ¬ RcRs H rs us a
theorem frNs.step (s : Stp σ en H σ' en' H') : ∀ {rs : List R} {vs : List V}, frNs σ' en' H' H2 rs vs → frNs σ en H H2 rs vs
  | [], _, _ => trivial
  | _ :: _, [], _ => trivial
  | r :: rs, v :: vs, h => ⟨h.1.step s, frNs.step s h.2⟩
theorem Cont.step (s : Stp σ en H σ' en' H') (b : Bx B B' σ en H) (hp : ∀ a, Rch H d p a → ¬ Own H σ en a) (c : Cont K (Un B H σ en) H d p) : Cont K (Un B' H' σ' en') H' d p :=
  Cont.to (stepTo s b) (fun a o r x => s.fr a o x (hp a r)) c
theorem ArgR.step (G : Good K B H σ en) (s : Stp σ en H σ' en' H') (hs : σ' = σ) (b : Bx B B' σ en H) : ∀ {r : R} {v : V}, ArgR K B σ en H r v → ArgR K B' σ' en' H' r v
  | .sh d, v, h => Rep.step s b h
  | .fr d, v, ⟨p, e, q, c⟩ => by
    have no : ∀ a, Rch H d p a → ¬ Own H σ en a := fun a r z => G.ownNB z (q a r)
    exact ⟨p, e, fun a r => b.up a (q a ((c.rch (fun a o r x => s.fr a o x (no a r)) a).mp r)), c.step s b no⟩
  | .sl i, v, h => by
    show σ'[i]? = _
    rw [hs]; exact h
theorem ArgR.rcR (G : Good K B H σ en) (s : Stp σ en H σ' en' H') : ∀ {r : R} {v : V}, ArgR K B σ en H r v → ∀ a, RcR H' r v a ↔ RcR H r v a
  | .sh d, v, h, a => Iff.rfl
  | .sl i, v, h, a => Iff.rfl
  | .fr d, v, ⟨p, e, q, c⟩, a => by
    have z := c.rch (H' := H') (fun a o r x => s.fr a o x fun z => G.ownNB z (q a r)) a
    subst e
    constructor
    · rintro ⟨p1, e1, r⟩
      cases e1
      exact ⟨p, rfl, z.mp r⟩
    · rintro ⟨p1, e1, r⟩
      cases e1
      exact ⟨p, rfl, z.mpr r⟩
theorem ArgRs.rcRs (G : Good K B H σ en) (s : Stp σ en H σ' en' H') : ∀ {rs : List R} {vs : List V}, ArgRs K B σ en H rs vs → ∀ a, RcRs H' rs vs a ↔ RcRs H rs vs a
  | [], vs, h, a => by unfold RcRs; exact Iff.rfl
  | r :: rs, vs, ⟨v, us, e, h1, h2, _⟩, a => by
    subst e
    show _ ∨ _ ↔ _ ∨ _
    rw [ArgR.rcR G s h1 a, ArgRs.rcRs G s h2 a]
theorem ArgRs.step (G : Good K B H σ en) (s : Stp σ en H σ' en' H') (hs : σ' = σ) (b : Bx B B' σ en H) : ∀ {rs : List R} {vs : List V}, ArgRs K B σ en H rs vs → ArgRs K B' σ' en' H' rs vs
  | [], vs, h => h
  | r :: rs, vs, ⟨v, us, e, h1, h2, h3⟩ => ⟨v, us, e, ArgR.step G s hs b h1, ArgRs.step G s hs b h2, fun a q z => h3 a ((ArgR.rcR G s h1 a).mp q) ((ArgRs.rcRs G s h2 a).mp z)⟩
def ExR (K : PySem.W.Frag) (U : Addr → Prop) (H : Hp) (x : Ex) (c : Value) (od : Option Addr) : Prop :=
  ClsN K x.cls c ∧ match x.fld with
    | none => od = none
    | some (f, d) => ∃ a v, od = some a ∧ ¬ U a ∧ H a = some (.xd [(f, v)]) ∧ Rep K U H d v
end
section
variable (K : PySem.W.Frag) (W : WX)
def RdE (f : M R) : TE := fun σ H Q => ∃ B en, Good K B H σ en ∧ match f en with
  | .ok r en' => ∀ v H', (∃ B', Bx B B' σ en H ∧ Good K B' H' σ en' ∧ ArgR K B' σ en' H' r v ∧ frN σ en H H' r v) → Stp σ en H σ en' H' → Q v H'
  | .exc x en' => ∀ c od H', ExR K (Un B H' σ en') H' x c od → Good K B H' σ en' → Stp σ en H σ en' H' → W c od σ H'
  | .bad => False
def RdA (f : M (List R)) : TA := fun σ H Q => ∃ B en, Good K B H σ en ∧ match f en with
  | .ok rs en' => ∀ vs H', (∃ B', Bx B B' σ en H ∧ Good K B' H' σ en' ∧ ArgRs K B' σ en' H' rs vs ∧ frNs σ en H H' rs vs) → Stp σ en H σ en' H' → Q vs H'
  | .exc x en' => ∀ c od H', ExR K (Un B H' σ en') H' x c od → Good K B H' σ en' → Stp σ en H σ en' H' → W c od σ H'
  | .bad => False
def RdT (f : M Bool) : TT := fun σ H Q => ∃ B en, Good K B H σ en ∧ match f en with
  | .ok b en' => ∀ H', (∃ B', Bx B B' σ en H ∧ Good K B' H' σ en') → Stp σ en H σ en' H' → Q b H'
  | .exc x en' => ∀ c od H', ExR K (Un B H' σ en') H' x c od → Good K B H' σ en' → Stp σ en H σ en' H' → W c od σ H'
  | .bad => False
def RdS (f : En → Fl) : TS := fun D σ H => ∃ B en, Good K B H σ en ∧ match f en with
  | .nx en' => ∀ σ' H', Good K B H' σ' en' → Stp σ en H σ' en' H' → D.nx σ' H'
  | .bk en' => ∀ σ' H', Good K B H' σ' en' → Stp σ en H σ' en' H' → D.bk σ' H'
  | .ct en' => ∀ σ' H', Good K B H' σ' en' → Stp σ en H σ' en' H' → D.ct σ' H'
  | .rt r en' => ∀ v σ' H', (∃ B', Bx B B' σ en H ∧ Good K B' H' σ' en' ∧ ArgR K B' σ' en' H' r v ∧ frN σ en H H' r v) → Stp σ en H σ' en' H' → D.rt v H'
  | .exc x en' => ∀ c od σ' H', ExR K (Un B H' σ' en') H' x c od → Good K B H' σ' en' → Stp σ en H σ' en' H' → W c od σ' H'
  | .bad => False
def RdG (f : D → M Unit) : TG := fun v σ H Q => ∃ B en d, Good K B H σ en ∧ Rep K (Un B H σ en) H d v ∧ match f d en with
  | .ok _ en' => ∀ σ' H', Good K B H' σ' en' → Stp σ en H σ' en' H' → Q σ' H'
  | _ => False
end
end PyD

namespace PyD
open PySem PySem.Spec L2
section
variable {X : Cx}
theorem pe_imp {e : Expr} {t t' : TE} (h : PE X e t) (i : ∀ σ H Q, t' σ H Q → t σ H Q) : PE X e t' := ⟨fun pins s σ H Q I q => h.run pins s σ H Q I (i σ H Q q)⟩
theorem pt_imp {e : Expr} {t t' : TT} (h : PT X e t) (i : ∀ σ H Q, t' σ H Q → t σ H Q) : PT X e t' := ⟨fun pins s σ H Q I q => h.run pins s σ H Q I (i σ H Q q)⟩
theorem pw_imp {e : Expr} {t t' : TT} (h : PW X e t) (i : ∀ σ H Q, t' σ H Q → t σ H Q) : PW X e t' := ⟨fun wh pins s σ H Q I q => h.run wh pins s σ H Q I (i σ H Q q)⟩
theorem pa_imp {e : List Expr} {t t' : TA} (h : PA X e t) (i : ∀ σ H Q, t' σ H Q → t σ H Q) : PA X e t' := ⟨fun pos pins s σ H Q I q => h.run pos pins s σ H Q I (i σ H Q q)⟩
theorem ps_imp {e : Stmt} {t t' : TS} (h : PS X e t) (i : ∀ D σ H, t' D σ H → t D σ H) : PS X e t' := ⟨fun pins s σ H D I q => h.run pins s σ H D I (i D σ H q)⟩
theorem pss_imp {e : List Stmt} {t t' : TS} (h : PSs X e t) (i : ∀ D σ H, t' D σ H → t D σ H) : PSs X e t' := ⟨fun pins s σ H D I q => h.run pins s σ H D I (i D σ H q)⟩
theorem pg_imp {e : Expr} {t t' : TG} (h : PG X e t) (i : ∀ v σ H Q, t' v σ H Q → t v σ H Q) : PG X e t' := ⟨fun pins s σ H v u Q I r q => h.run pins s σ H v u Q I r (i v σ H Q q)⟩
theorem pi_imp {tg e : Expr} {t t' : TI} (h : PI X tg e t) (i : ∀ σ H R, t' σ H R → t σ H R) : PI X tg e t' := ⟨fun pins s σ H R I q => h.run pins s σ H R I (i σ H R q)⟩
theorem CallR_or {f : Value} {r r' : List V → Hp → VK → Prop} (h : CallR X f r) (h' : CallR X f r') : CallR X f (fun xs H Q => r xs H Q ∨ r' xs H Q) :=
  fun pins s σ H xs us Q I v q => q.elim (h pins s σ H xs us Q I v) (h' pins s σ H xs us Q I v)
end
def nmF (i : Nat) : M R := fun en => match en[i]? with
  | some (.v d) => .ok (.sh d) en
  | some (.o _ _) => .ok (.sl i) en
  | _ => .bad
def mvF (i : Nat) : M R := fun en => match en[i]? with
  | some (.v d) => .ok (.sh d) en
  | some (.o false d) => .ok (.fr d) (en.set i .e)
  | _ => .bad
def dmF (i : Nat) : M R := fun en => match en[i]? with
  | some (.v d) => .ok (.sh d) en
  | some (.o false d) => .ok (.sh d) (en.set i (.v d))
  | _ => .bad
def cF (d : D) : M R := fun en => .ok (.sh d) en
def nilF : M (List R) := fun en => .ok [] en
def consF (f : M R) (fs : M (List R)) : M (List R) := fun en => match f en with
  | .ok r en1 => (match fs en1 with
    | .ok rs en2 => .ok (r :: rs) en2
    | .exc x en2 => .exc x en2
    | .bad => .bad)
  | .exc x en1 => .exc x en1
  | .bad => .bad
def rsl (en : En) : R → Option D
  | .sh d => some d
  | .fr d => some d
  | .sl i => match en[i]? with
    | some (.o _ d) => some d
    | _ => none
def rsls (en : En) : List R → Option (List D)
  | [] => some []
  | r :: rs => match rsl en r with
    | some d => (match rsls en rs with
      | some ds => some (d :: ds)
      | none => none)
    | none => none
def mkR (b : Bool) (d : D) : R := match b with
  | true => .fr d
  | false => .sh d
def opF (g : List D → Option (Bool × D)) (fs : M (List R)) : M R := fun en => match fs en with
  | .ok rs en1 => (match rsls en1 rs with
    | some ds => (match g ds with
      | some (b, d) => .ok (mkR b d) en1
      | none => .bad)
    | none => .bad)
  | .exc x en1 => .exc x en1
  | .bad => .bad
section
variable (K : PySem.W.Frag)
def HdN (H : Hp) : D → V → Prop
  | .lst ds, v => ∃ a vs, v = .ref a ∧ H a = some (.lst vs) ∧ vs.length = ds.length
  | .obj n fs, v => ∃ a C dx ws, v = .ref a ∧ H a = some (.ins C dx ws) ∧ ClsO K n C ∧ ws.map (·.1) = fs.map (·.1)
  | _, v => v ≠ .non
def ARep (U : Addr → Prop) (H : Hp) : D → V → Prop
  | .lst ds, v => ∃ a vs, v = .ref a ∧ H a = some (.lst vs) ∧ RepL K U H ds vs
  | .dic kvs, v => ∃ a ws, v = .ref a ∧ H a = some (.dK ws) ∧ RepK K U H kvs ws
  | .obj n fs, v => ∃ a C dx ws, v = .ref a ∧ H a = some (.ins C dx ws) ∧ ClsO K n C ∧ RepF K U H fs ws
  | .ow d, v => HdN K H d v
  | d, v => Rep K U H d v
def ARepL (U : Addr → Prop) (H : Hp) : List D → List V → Prop
  | [], vs => vs = []
  | d :: ds, vs => ∃ v us, vs = v :: us ∧ ARep K U H d v ∧ ARepL U H ds us
def Fresh (U : Addr → Prop) (H H' : Hp) (d : D) (v : V) : Prop := ∃ p, v = .ref p ∧ H p = none ∧ Cont K (fun a => U a ∨ a = p) H' d p ∧ d.flatO = true
def Prim (r : List V → Hp → VK → Prop) (g : List D → Option (Bool × D)) : Prop :=
  ∀ (U : Addr → Prop) (H : Hp) (ds : List D) (vs : List V) (Q : VK) (b : Bool) (d : D), (∀ a, U a → H a ≠ none) → ARepL K U H ds vs → g ds = some (b, d) →
    (∀ v H', Ext H H' → (b = false → Rep K U H' d v) → (b = true → Fresh K U H H' d v) → Q v H') → r vs H Q
end
section
variable {K : PySem.W.Frag} {W : WX} {B B' : Addr → Prop} {U U' : Addr → Prop} {H H' : Hp} {σ : L2.St} {en en' : En} {d : D} {v : V} {Q Q' : VK}
theorem HdN.ne : ∀ {d : D} {v : V}, HdN K H d v → v ≠ .non
  | .lst _, v, ⟨_, _, e, _⟩ => by rw [e]; simp
  | .obj _ _, v, ⟨_, _, _, _, e, _⟩ => by rw [e]; simp
  | .non, _, h => h
  | .bl _, _, h => h
  | .int _, _, h => h
  | .str _, _, h => h
  | .tup _, _, h => h
  | .dic _, _, h => h
  | .scr _, _, h => h
  | .exn _ _, _, h => h
  | .ow _, _, h => h
theorem repL_len : ∀ {ds : List D} {vs : List V}, RepL K U H ds vs → vs.length = ds.length
  | [], vs, h => by unfold RepL at h; rw [h]; rfl
  | d :: ds, vs, h => by
    unfold RepL at h
    obtain ⟨v, us, e, _, r⟩ := h
    rw [e, List.length_cons, List.length_cons, repL_len r]
theorem repF_keys : ∀ {ds : List (Str × D)} {vs : List (Str × V)}, RepF K U H ds vs → vs.map (·.1) = ds.map (·.1)
  | [], vs, h => by unfold RepF at h; rw [h]; rfl
  | (k, d) :: ds, vs, h => by
    unfold RepF at h
    obtain ⟨v, us, e, _, r⟩ := h
    rw [e, List.map_cons, List.map_cons, repF_keys r]
theorem conL_len {p : Addr} : ∀ {ds : List D} {vs : List V}, ConL K U H p ds vs → vs.length = ds.length
  | [], vs, h => by unfold ConL at h; rw [h]; rfl
  | d :: ds, vs, h => by
    unfold ConL at h
    obtain ⟨v, us, e, _, r, _⟩ := h
    rw [e, List.length_cons, List.length_cons, conL_len r]
theorem conF_keys {p : Addr} : ∀ {ds : List (Str × D)} {vs : List (Str × V)}, ConF K U H p ds vs → vs.map (·.1) = ds.map (·.1)
  | [], vs, h => by unfold ConF at h; rw [h]; rfl
  | (k, d) :: ds, vs, h => by
    unfold ConF at h
    obtain ⟨v, us, e, _, r, _⟩ := h
    rw [e, List.map_cons, List.map_cons, conF_keys r]
theorem repHdN (hv : v ≠ .non) : ∀ {d : D}, Rep K U H d v → HdN K H d v
  | .lst ds, h => by
    unfold Rep at h
    obtain ⟨a, vs, e, _, ha, r⟩ := h
    exact ⟨a, vs, e, ha, repL_len r⟩
  | .obj n fs, h => by
    unfold Rep at h
    obtain ⟨a, C, dx, ws, e, _, ha, hc, r⟩ := h
    exact ⟨a, C, dx, ws, e, ha, hc, repF_keys r⟩
  | .non, _ => hv
  | .bl _, _ => hv
  | .int _, _ => hv
  | .str _, _ => hv
  | .tup _, _ => hv
  | .dic _, _ => hv
  | .scr _, _ => hv
  | .exn _ _, _ => hv
  | .ow _, _ => hv
theorem conHdN {p : Addr} : ∀ {d : D}, ConN K U H d p → HdN K H d (.ref p)
  | .lst ds, h => by
    unfold ConN at h
    obtain ⟨vs, ha, r⟩ := h
    exact ⟨p, vs, rfl, ha, conL_len r⟩
  | .obj n fs, h => by
    unfold ConN at h
    obtain ⟨C, dx, ws, ha, hc, r⟩ := h
    exact ⟨p, C, dx, ws, rfl, ha, hc, conF_keys r⟩
  | .non, _ => by simp [HdN]
  | .bl _, _ => by simp [HdN]
  | .int _, _ => by simp [HdN]
  | .str _, _ => by simp [HdN]
  | .tup _, _ => by simp [HdN]
  | .dic _, _ => by simp [HdN]
  | .scr _, _ => by simp [HdN]
  | .exn _ _, _ => by simp [HdN]
  | .ow _, _ => by simp [HdN]
theorem Rep.arep : ∀ {d : D} {v : V}, Rep K U H d v → ARep K U H d v
  | .non, v, h => h
  | .bl _, v, h => h
  | .int _, v, h => h
  | .str _, v, h => h
  | .tup _, v, h => h
  | .scr _, v, h => h
  | .exn _ _, v, h => h
  | .ow d, v, h => by unfold Rep at h; exact repHdN h.1 h.2
  | .lst ds, v, h => by
    unfold Rep at h
    obtain ⟨a, vs, e, _, c, q⟩ := h
    exact ⟨a, vs, e, c, q⟩
  | .dic _, v, h => by
    unfold Rep at h
    obtain ⟨a, ws, e, _, ha, q⟩ := h
    exact ⟨a, ws, e, ha, q⟩
  | .obj _ _, v, h => by
    unfold Rep at h
    obtain ⟨a, C, dx, ws, e, _, ha, hc, q⟩ := h
    exact ⟨a, C, dx, ws, e, ha, hc, q⟩
theorem Cont.arep {p : Addr} : ∀ {d : D}, Cont K U H d p → ARep K U H d (.ref p)
  | .lst _, ⟨vs, a, r⟩ => ⟨p, vs, rfl, a, r⟩
  | .dic _, ⟨vs, a, r⟩ => ⟨p, vs, rfl, a, r⟩
  | .obj _ _, ⟨C, dx, vs, a, c, r⟩ => ⟨p, C, dx, vs, rfl, a, c, r⟩
  | .ow d, c => conHdN c
theorem ArgR.arep (G : Good K B H σ en) : ∀ {r : R} {v : V} {d : D}, ArgR K B σ en H r v → rsl en r = some d → ARep K (Un B H σ en) H d v
  | .sh d', v, d, h, e => by
    cases e
    exact Rep.arep h
  | .fr d', v, d, ⟨p, e1, _, c⟩, e => by
    cases e
    rw [e1]
    exact c.arep
  | .sl i, v, d, h, e => by
    unfold rsl at e
    dsimp only at e
    cases q : en[i]? with
    | none => rw [q] at e; cases e
    | some s =>
      rw [q] at e
      cases s with
      | e => cases e
      | v x => cases e
      | o b x =>
        cases e
        obtain ⟨p, s1, _, c⟩ := G.own i b d q
        have h' : σ[i]? = some (some v) := h
        rw [s1] at h'
        cases h'
        exact c.arep
theorem ArgRs.arep (G : Good K B H σ en) : ∀ {rs : List R} {vs : List V} {ds : List D}, ArgRs K B σ en H rs vs → rsls en rs = some ds → ARepL K (Un B H σ en) H ds vs
  | [], vs, ds, h, e => by
    cases e
    exact h
  | r :: rs, vs, ds, ⟨v, us, e1, h1, h2, _⟩, e => by
    unfold rsls at e
    cases q : rsl en r with
    | none => rw [q] at e; cases e
    | some d =>
      rw [q] at e
      dsimp only at e
      cases q2 : rsls en rs with
      | none => rw [q2] at e; cases e
      | some ds' =>
        rw [q2] at e
        cases e
        exact ⟨v, us, e1, ArgR.arep G h1 q, ArgRs.arep G h2 q2⟩
theorem RdE.mono {f : M R} (h : ∀ v H, Q v H → Q' v H) (r : RdE K W f σ H Q) : RdE K W f σ H Q' := by
  obtain ⟨B, en, G, m⟩ := r
  refine ⟨B, en, G, ?_⟩
  revert m
  cases f en with
  | ok r en' => exact fun m v H' a b => h v H' (m v H' a b)
  | exc x en' => exact fun m => m
  | bad => exact fun m => m
theorem frN.later {B1 : Addr → Prop} {H1 H2 : Hp} {en1 en2 : En} {r : R} (G1 : Good K B1 H1 σ en1) (st : Stp σ en1 H1 σ en2 H2) (h : ArgR K B1 σ en1 H1 r v) (n : frN σ en H H1 r v) : frN σ en H H2 r v := by
  cases r with
  | sh d => trivial
  | sl i => trivial
  | fr d =>
    intro p a e q
    have z := (ArgR.rcR G1 st h a).mp ⟨p, e, q⟩
    obtain ⟨p', e', q'⟩ := z
    exact n p' a e' q'
theorem frNs.rc {H2 : Hp} : ∀ {rs : List R} {vs : List V} {a : Addr}, frNs σ en H H2 rs vs → RcRs H2 rs vs a → H a = none ∨ OwnF H σ en a
  | [], vs, a, _, z => by unfold RcRs at z; exact z.elim
  | r :: rs, [], a, _, z => by unfold RcRs at z; exact z.elim
  | r :: rs, v :: vs, a, n, z => by
    rcases z with z | z
    · cases r with
      | sh d => exact z.elim
      | sl i => exact z.elim
      | fr d =>
        obtain ⟨p, e, q⟩ := z
        exact n.1 p a e q
    · exact frNs.rc n.2 z
theorem ArgRs.cons' {B1 B2 : Addr → Prop} {H1 H2 : Hp} {en1 en2 : En} {r : R} {rs : List R} {us : List V} (G1 : Good K B1 H1 σ en1) (st2 : Stp σ en1 H1 σ en2 H2) (b2 : Bx B1 B2 σ en1 H1) (r1 : ArgR K B1 σ en1 H1 r v) (r2 : ArgRs K B2 σ en2 H2 rs us) (n2 : frNs σ en1 H1 H2 rs us) :
    ArgRs K B2 σ en2 H2 (r :: rs) (v :: us) := by
  refine ⟨v, us, rfl, ArgR.step G1 st2 rfl b2 r1, r2, fun a q z => ?_⟩
  have q1 := (ArgR.rcR G1 st2 r1 a).mp q
  cases r with
  | sh d => exact q1
  | sl i => exact q1
  | fr d =>
    obtain ⟨p, e, rr⟩ := q1
    obtain ⟨p', e', bb, cc⟩ := r1
    rw [e] at e'; cases e'
    rcases frNs.rc n2 z with y | y
    · obtain ⟨o, ho⟩ := cc.atR rr
      rw [ho] at y; cases y
    · exact G1.ownNB y.own (bb a rr)
theorem consImp {f : M R} {fs : M (List R)} {Q : List V → Hp → Prop} (r : RdA K W (consF f fs) σ H Q) : tCons (RdE K W f) (RdA K W fs) σ H Q := by
  obtain ⟨B, en, G, m⟩ := r
  refine ⟨B, en, G, ?_⟩
  unfold consF at m
  cases e1 : f en with
  | bad => rw [e1] at m; exact m
  | exc x en1 => rw [e1] at m; exact m
  | ok r en1 =>
    rw [e1] at m
    dsimp only at m ⊢
    intro v H1 ⟨B1, b1, G1, r1, n1⟩ st1
    refine ⟨B1, en1, G1, ?_⟩
    cases e2 : fs en1 with
    | bad => rw [e2] at m; exact m
    | exc x en2 =>
      rw [e2] at m
      intro c od H2 hx G2 st2
      exact m c od H2 (by
        obtain ⟨h1, h2⟩ := hx
        refine ⟨h1, ?_⟩
        revert h2
        cases x.fld with
        | none => exact fun h2 => h2
        | some fd => exact fun ⟨a, v, e, nu, ha, hr⟩ => ⟨a, v, e, fun q => nu (Un.mono b1.up q), ha, Rep.to (fun a o x n => ⟨x, fun q => n (Un.mono b1.up q)⟩) _ _ hr⟩) (G2.mono b1.up) (st1.trans st2)
    | ok rs en2 =>
      rw [e2] at m
      intro us H2 ⟨B2, b2, G2, r2, n2⟩ st2
      refine m (v :: us) H2 ⟨B2, b1.trans st1 b2, G2, ⟨v, us, rfl, ArgR.step G1 st2 rfl b2 r1, r2, fun a q z => ?_⟩, frN.later G1 st2 r1 n1, n2.step st1⟩ (st1.trans st2)
      have q1 := (ArgR.rcR G1 st2 r1 a).mp q
      cases r with
      | sh d => exact q1
      | sl i => exact q1
      | fr d =>
        obtain ⟨p, e, rr⟩ := q1
        obtain ⟨p', e', bb, cc⟩ := r1
        rw [e] at e'; cases e'
        rcases frNs.rc n2 z with y | y
        · obtain ⟨o, ho⟩ := cc.atR rr
          rw [ho] at y; cases y
        · exact G1.ownNB y.own (bb a rr)
theorem nilImp {Q : List V → Hp → Prop} (r : RdA K W nilF σ H Q) : tNil σ H Q := by
  obtain ⟨B, en, G, m⟩ := r
  exact m [] H ⟨B, Bx.refl B σ en H, G, rfl, trivial⟩ (Stp.refl σ en H)
theorem un_or {p : Addr} {a : Addr} (h : Un (fun x => B x ∨ x = p) H σ en a) : Un B H σ en a ∨ a = p := by
  rcases h with (h | h) | h
  · exact .inl (.inl h)
  · exact .inr h
  · exact .inl (.inr h)
theorem opImp {r : List V → Hp → VK → Prop} {g : List D → Option (Bool × D)} {fs : M (List R)} (hp : Prim K r g) (m : RdE K W (opF g fs) σ H Q) : RdA K W fs σ H (fun vs H' => r vs H' Q) := by
  obtain ⟨B, en, G, m⟩ := m
  refine ⟨B, en, G, ?_⟩
  unfold opF at m
  cases e1 : fs en with
  | bad => rw [e1] at m; exact m
  | exc x en1 => rw [e1] at m; exact m
  | ok rs en1 =>
    rw [e1] at m
    dsimp only at m ⊢
    intro vs H1 ⟨B1, b1, G1, r1, n1⟩ st1
    cases e2 : rsls en1 rs with
    | none => rw [e2] at m; exact m.elim
    | some ds =>
      rw [e2] at m
      dsimp only at m
      cases e3 : g ds with
      | none => rw [e3] at m; exact m.elim
      | some bd =>
        obtain ⟨b, d⟩ := bd
        rw [e3] at m
        dsimp only at m
        refine hp (Un B1 H1 σ en1) H1 ds vs Q b d (fun a => G1.unAt) (ArgRs.arep G1 r1 e2) e3 fun v H2 x2 h1 h2 => ?_
        have st2 : Stp σ en1 H1 σ en1 H2 := Stp.ext G1 x2
        have oi := G1.ownIff (H' := H2) (fun a o _ => x2 a o)
        cases b with
        | false => exact m v H2 ⟨B1, b1, G1.ext0 x2, Rep.to (fun a o x n => ⟨x, fun z => n (z.imp id (oi a).mp)⟩) _ _ (h1 rfl), trivial⟩ (st1.trans st2)
        | true =>
          obtain ⟨p, ep, np, c, fl⟩ := h2 rfl
          obtain ⟨o, ho⟩ := c.at
          have b2 : Bx B1 (fun x => B1 x ∨ x = p) σ en1 H1 := ⟨fun a h => .inl h, fun a h => by
            rcases h with h | h
            · exact .inl h
            · rw [h]; exact .inr (.inl np)⟩
          refine m v H2 ⟨fun x => B1 x ∨ x = p, b1.trans st1 b2, G1.ext x2 (fun a h => ?_), ⟨p, ep, fun a r => .inr (Rch.flat fl r), Cont.to (fun a o x n => ⟨x, fun q => n ((un_or q).imp (fun z => z.imp id (oi a).mp) id)⟩) (fun _ _ _ x => x) c⟩, ?_⟩ (st1.trans st2)
          · rcases h with h | h
            · exact .inl h
            · rw [h, ho]; exact .inr ⟨np, by simp⟩
          · intro q a e r
            rw [ep] at e
            cases e
            rw [Rch.flat fl r]
            exact .inl (Classical.byContradiction fun z => st1.al p z np)
end
section
variable {X : Cx} {W : WX} {pos : Pos}
theorem e_nm (i : Nat) {x : Str} (hN : X.N[i]? = some x := by rfl) (hv : Vis X.env.scope x := by first | exact Or.inl rfl | exact Or.inr (Or.inl rfl) | exact Or.inr (Or.inr rfl)) (hd : (x == ("__debug__" : Str)) = false := by decide)
    (hcd : (x == ("__classdict__" : Str)) = false := by decide) : PE X (.Name x pos) (RdE X.K W (nmF i)) := by
  refine pe_imp (pe_var (i := i) hN hv hd hcd) fun σ H Q ⟨B, en, G, m⟩ => ?_
  unfold nmF at m
  revert m
  cases e : en[i]? with
  | none => exact fun m => m.elim
  | some s =>
    cases s with
    | e => exact fun m => m.elim
    | v d =>
      intro m
      obtain ⟨v, s, r⟩ := G.rep i d e
      exact ⟨v, s, m v H ⟨B, Bx.refl B σ en H, G, r, trivial⟩ (Stp.refl σ en H)⟩
    | o b d =>
      intro m
      obtain ⟨p, s, n, c⟩ := G.own i b d e
      exact ⟨.ref p, s, m (.ref p) H ⟨B, Bx.refl B σ en H, G, s, trivial⟩ (Stp.refl σ en H)⟩
end
section
variable {K : PySem.W.Frag} {B B' : Addr → Prop} {H H' : Hp} {σ : L2.St} {en en' : En} {d : D} {i : Nat} {p : Addr}
theorem set_get {α : Type} {l : List α} {i j : Nat} {x y : α} (h : (l.set i x)[j]? = some y) : (i = j ∧ y = x ∧ i < l.length) ∨ (i ≠ j ∧ l[j]? = some y) := by
  by_cases e : i = j
  · subst e
    rw [List.getElem?_set] at h
    by_cases q : i < l.length
    · rw [if_pos rfl, if_pos q] at h
      exact .inl ⟨rfl, (Option.some.inj h).symm, q⟩
    · rw [if_pos rfl, if_neg q] at h
      cases h
  · rw [List.getElem?_set_ne e] at h
    exact .inr ⟨e, h⟩
theorem get_lt {α : Type} {l : List α} {i : Nat} {x : α} (h : l[i]? = some x) : i < l.length := by
  rcases Nat.lt_or_ge i l.length with q | q
  · exact q
  · rw [List.getElem?_eq_none q] at h; cases h
theorem own_set_e {a : Addr} (h : Own H σ (en.set i .e) a) : Own H σ en a := by
  obtain ⟨j, b, d, p, e, s, r⟩ := h
  rcases set_get e with ⟨_, q, _⟩ | ⟨_, q⟩
  · cases q
  · exact ⟨j, b, d, p, q, s, r⟩
theorem Good.drop (G : Good K B H σ en) : Good K B H σ (en.set i .e) where
  len := by rw [List.length_set]; exact G.len
  all := G.all
  rep := fun j d e => by
    rcases set_get e with ⟨_, q, _⟩ | ⟨_, q⟩
    · cases q
    · obtain ⟨v, s, r⟩ := G.rep j d q
      exact ⟨v, s, Rep.to (fun a o x n => ⟨x, fun z => n (z.imp id own_set_e)⟩) d v r⟩
  own := fun j b d e => by
    rcases set_get e with ⟨_, q, _⟩ | ⟨_, q⟩
    · cases q
    · obtain ⟨p, s, n, c⟩ := G.own j b d q
      exact ⟨p, s, n, Cont.to (fun a o x n => ⟨x, fun z => n (z.imp id own_set_e)⟩) (fun _ _ _ x => x) c⟩
  inj := fun j k p p' a b c d d' e1 e2 s1 s2 => by
    rcases set_get e1 with ⟨_, q, _⟩ | ⟨_, q1⟩
    · cases q
    · rcases set_get e2 with ⟨_, q, _⟩ | ⟨_, q2⟩
      · cases q
      · exact G.inj j k p p' a b c d d' q1 q2 s1 s2
theorem Stp.drop {s : Sl} (hs : ∀ b d, s ≠ .o b d) (e0 : ∀ d, en[i]? ≠ some (.o true d)) (h : ∀ a, Own H σ (en.set i s) a → Own H σ en a) : Stp σ en H σ (en.set i s) H where
  len := List.length_set
  fr := fun _ _ h _ => h
  al := fun _ h => h
  ow := fun a q => .inl (h a q)
  of := fun a q => .inl (by
    obtain ⟨j, d, p, e, s1, r⟩ := q
    rcases set_get e with ⟨_, q, _⟩ | ⟨_, q⟩
    · exact absurd q.symm (hs false d)
    · exact ⟨j, d, p, q, s1, r⟩)
  pin := fun j d e => ⟨rfl, d, by
    by_cases q : i = j
    · subst q
      exact absurd e (e0 d)
    · rw [List.getElem?_set_ne q]
      exact e⟩
  pb := fun j d e => by
    rcases set_get e with ⟨_, q, _⟩ | ⟨_, q⟩
    · exact absurd q.symm (hs true d)
    · exact ⟨d, q⟩
  pr := fun j d d' p a e1 e2 _ r => by
    rcases set_get e2 with ⟨_, q, _⟩ | ⟨_, q⟩
    · exact absurd q.symm (hs true d')
    · rw [e1] at q; cases q; exact .inl r
end
section
variable {X : Cx} {W : WX} {pos : Pos}
theorem e_c {e : Expr} {d : D} {v : V} (h : PE X e (tC v)) (r : ∀ U H, Rep X.K U H d v) : PE X e (RdE X.K W (cF d)) :=
  pe_imp h fun σ H Q ⟨B, en, G, m⟩ => m v H ⟨B, Bx.refl B σ en H, G, r _ _, trivial⟩ (Stp.refl σ en H)
theorem e_int {i j} : PE X (.Constant (.int i) j pos) (RdE X.K W (cF (.int i))) := e_c pe_int fun _ _ => by unfold Rep; rfl
theorem e_bl {i j} : PE X (.Constant (.bool i) j pos) (RdE X.K W (cF (.bl i))) := e_c pe_bl fun _ _ => by unfold Rep; rfl
theorem e_non {j} : PE X (.Constant .none j pos) (RdE X.K W (cF .non)) := e_c pe_non fun _ _ => by unfold Rep; rfl
theorem e_str {x j} : PE X (.Constant (.str x) j pos) (RdE X.K W (cF (.str x))) := e_c pe_str fun _ _ => by unfold Rep; rfl
theorem a_nil : PA X [] (RdA X.K W nilF) := pa_imp pa_nil fun σ H Q q => nilImp q
theorem a_cons {e : Expr} {es : List Expr} {f : M R} {fs : M (List R)} (ha : PE X e (RdE X.K W f)) (hr : PA X es (RdA X.K W fs)) (hs : starEach (e :: es) X.env = (false, eval e X.env) :: starEach es X.env := by rfl) :
    PA X (e :: es) (RdA X.K W (consF f fs)) := pa_imp (pa_cons ha hr hs) fun σ H Q q => consImp q
def r1 (r : V → Hp → VK → Prop) : List V → Hp → VK → Prop := fun vs H Q => ∃ x, vs = [x] ∧ r x H Q
def r2 (r : R2) : List V → Hp → VK → Prop := fun vs H Q => ∃ x y, vs = [x, y] ∧ r x y H Q
def one (f : M R) : M (List R) := consF f nilF
def two (f g : M R) : M (List R) := consF f (consF g nilF)
theorem imp1 {K : PySem.W.Frag} {f : M R} {σ : L2.St} {H : Hp} {k : List V → Hp → Prop} (m : RdA K W (one f) σ H k) : RdE K W f σ H fun x H1 => k [x] H1 :=
  RdE.mono (fun v H1 q => (nilImp q : tNil σ H1 fun xs H2 => k (v :: xs) H2)) (consImp m)
theorem imp2 {K : PySem.W.Frag} {f g : M R} {σ : L2.St} {H : Hp} {k : List V → Hp → Prop} (m : RdA K W (two f g) σ H k) : RdE K W f σ H fun x H1 => RdE K W g σ H1 fun y H2 => k [x, y] H2 :=
  RdE.mono (fun v H q => imp1 q) (consImp m)
theorem impOp {K : PySem.W.Frag} {r : R2} {g : List D → Option (Bool × D)} {fa fb : M R} {σ : L2.St} {H : Hp} {Q : VK} (hp : Prim K (r2 r) g) (m : RdE K W (opF g (two fa fb)) σ H Q) : tOp r (RdE K W fa) (RdE K W fb) σ H Q := by
  refine RdE.mono (fun x H1 q => RdE.mono (fun y H2 q => ?_) q) (imp2 (opImp hp m))
  obtain ⟨a, b, e, z⟩ := q
  cases e
  exact z
theorem impUn {K : PySem.W.Frag} {r : V → Hp → VK → Prop} {g : List D → Option (Bool × D)} {fa : M R} {σ : L2.St} {H : Hp} {Q : VK} (hp : Prim K (r1 r) g) (m : RdE K W (opF g (one fa)) σ H Q) : tUn r (RdE K W fa) σ H Q := by
  refine RdE.mono (fun x H1 q => ?_) (imp1 (opImp hp m))
  obtain ⟨a, e, z⟩ := q
  cases e
  exact z
variable {a b : Expr} {fa fb : M R} {g : List D → Option (Bool × D)}
theorem e_bin {op : Operator} {r : R2} (ho : OpR X (binaryOp op) r) (hp : Prim X.K (r2 r) g) (ha : PE X a (RdE X.K W fa)) (hb : PE X b (RdE X.K W fb)) : PE X (.BinOp a op b pos) (RdE X.K W (opF g (two fa fb))) :=
  pe_imp (pe_op ho ha hb) fun σ H Q m => impOp hp m
theorem e_un {op : UnaryOp} {r : V → Hp → VK → Prop} (ho : UnR X (unaryOp op) r) (hp : Prim X.K (r1 r) g) (ha : PE X a (RdE X.K W fa)) : PE X (.UnaryOp op a pos) (RdE X.K W (opF g (one fa))) :=
  pe_imp (pe_un ho ha) fun σ H Q m => impUn hp m
theorem e_cmp {op : CmpOp} {r : R2} (ho : OpR X (compareOp op) r) (hp : Prim X.K (r2 r) g) (ha : PE X a (RdE X.K W fa)) (hb : PE X b (RdE X.K W fb)) (hm : behindInMarks op b = false) : PE X (.Compare a [op] [b] pos) (RdE X.K W (opF g (two fa fb))) :=
  pe_imp (pe_cmpR ho ha hb hm) fun σ H Q m => impOp hp m
theorem e_ix {r : R2} (hr : IxR X r) (hp : Prim X.K (r2 r) g) (ha : PE X a (RdE X.K W fa)) (hb : PE X b (RdE X.K W fb)) (hs : PlainIx b) : PE X (.Subscript a b pos) (RdE X.K W (opF g (two fa fb))) :=
  pe_imp (pe_ix hr ha hb hs) fun σ H Q m => impOp hp m
variable {x : Str} {p : Pos} {e : Expr} {es : List Expr} {fs : M (List R)} {id T : String} {r : List V → Hp → VK → Prop}
theorem e_callB (hc : CallR X (.builtin id) r) (hp : Prim X.K r g) (hg : Gl X x) (hm : X.mg x = none) (hv : bootBuiltins x = some (.builtin id)) (ha : PA X (e :: es) (RdA X.K W fs)) (hn : x ≠ "__name__" := by decide) (hdb : (x == ("__debug__" : Str)) = false := by decide)
    (he : starEach (e :: es) X.env = (false, eval e X.env) :: starEach es X.env := by rfl) (hpl : (backTo pos (starEach es X.env)).any (·.1) = false := by rfl) : PE X (.Call (.Name x p) (e :: es) [] pos) (RdE X.K W (opF g fs)) :=
  pe_imp (pe_callB hc hg hm hv ha hn hdb he hpl) fun σ H Q m => opImp hp m
theorem e_callTy (hc : CallR X (.type T) r) (hp : Prim X.K r g) (hg : Gl X x) (hm : X.mg x = none) (hv : bootBuiltins x = some (.type T)) (ha : PA X (e :: es) (RdA X.K W fs)) (hn : x ≠ "__name__" := by decide) (hdb : (x == ("__debug__" : Str)) = false := by decide)
    (he : starEach (e :: es) X.env = (false, eval e X.env) :: starEach es X.env := by rfl) (hpl : (backTo pos (starEach es X.env)).any (·.1) = false := by rfl) : PE X (.Call (.Name x p) (e :: es) [] pos) (RdE X.K W (opF g fs)) :=
  pe_imp (pe_callTy hc hg hm hv ha hn hdb he hpl) fun σ H Q m => opImp hp m
end
end PyD

namespace PyD
open PySem PySem.Spec L2
def truD : D → Option Bool
  | .non => some false
  | .bl b => some b
  | .int i => some (i != 0)
  | .str s => if s.length ≤ sizeLine then some ((s.length : Int) != 0) else none
  | .tup ds => some (!ds.isEmpty)
  | .lst ds => some (!ds.isEmpty)
  | .dic ds => some (!ds.isEmpty)
  | .obj _ _ => none
  | .scr _ => none
  | .exn _ _ => none
  | .ow _ => none
def tstF (f : M R) : M Bool := fun en => match f en with
  | .ok r en1 => (match rsl en1 r with
    | some d => (match truD d with
      | some b => .ok b en1
      | none => .bad)
    | none => .bad)
  | .exc x en1 => .exc x en1
  | .bad => .bad
def blD : D → Option Bool
  | .bl b => some b
  | _ => none
def tstB (f : M R) : M Bool := fun en => match f en with
  | .ok r en1 => (match rsl en1 r with
    | some d => (match blD d with
      | some b => .ok b en1
      | none => .bad)
    | none => .bad)
  | .exc x en1 => .exc x en1
  | .bad => .bad
def notT (f : M Bool) : M Bool := fun en => match f en with
  | .ok b en1 => .ok (!b) en1
  | .exc x en1 => .exc x en1
  | .bad => .bad
def andT (f g : M Bool) : M Bool := fun en => match f en with
  | .ok true en1 => g en1
  | .ok false en1 => .ok false en1
  | .exc x en1 => .exc x en1
  | .bad => .bad
def orT (f g : M Bool) : M Bool := fun en => match f en with
  | .ok true en1 => .ok true en1
  | .ok false en1 => g en1
  | .exc x en1 => .exc x en1
  | .bad => .bad
def ifF (t : M Bool) (f g : M R) : M R := fun en => match t en with
  | .ok true en1 => f en1
  | .ok false en1 => g en1
  | .exc x en1 => .exc x en1
  | .bad => .bad
def andF (f g : M R) : M R := fun en => match tstB f en with
  | .ok true en1 => g en1
  | .ok false en1 => .ok (.sh (.bl false)) en1
  | .exc x en1 => .exc x en1
  | .bad => .bad
def orF (f g : M R) : M R := fun en => match tstB f en with
  | .ok true en1 => .ok (.sh (.bl true)) en1
  | .ok false en1 => g en1
  | .exc x en1 => .exc x en1
  | .bad => .bad
def notF (f : M R) : M R := fun en => match tstB f en with
  | .ok b en1 => .ok (.sh (.bl (!b))) en1
  | .exc x en1 => .exc x en1
  | .bad => .bad
section
variable {K : PySem.W.Frag} {W : WX} {B B' : Addr → Prop} {U : Addr → Prop} {H H' : Hp} {σ : L2.St} {en en' : En} {d : D} {v : V}
theorem RepL.nil_iff : ∀ {ds : List D} {vs : List V}, RepL K U H ds vs → (!ds.isEmpty) = !vs.isEmpty
  | [], vs, h => by
    unfold RepL at h
    rw [h] <;> rfl
  | d :: ds, vs, h => by
    unfold RepL at h
    obtain ⟨v, r, e, _⟩ := h
    rw [e] <;> rfl
theorem RepK.nil_iff : ∀ {ds : List (Key × D)} {vs : List (Key × V)}, RepK K U H ds vs → (!ds.isEmpty) = !vs.isEmpty
  | [], vs, h => by
    unfold RepK at h
    rw [h] <;> rfl
  | (k, d) :: ds, vs, h => by
    unfold RepK at h
    obtain ⟨v, r, e, _⟩ := h
    rw [e] <;> rfl
theorem ARep.tru : ∀ {d : D} {v : V} {b : Bool}, ARep K U H d v → truD d = some b → TruV K v H b
  | .non, v, b, h, e => by
    unfold ARep Rep at h
    rw [h]
    exact (Option.some.inj e).symm
  | .bl _, v, b, h, e => by
    unfold ARep Rep at h
    rw [h]
    exact (Option.some.inj e).symm
  | .int _, v, b, h, e => by
    unfold ARep Rep at h
    rw [h]
    exact (Option.some.inj e).symm
  | .str s, v, b, h, e => by
    unfold ARep Rep at h
    rw [h]
    unfold truD at e
    dsimp only at e
    by_cases q : s.length ≤ sizeLine
    · rw [if_pos q] at e
      exact ⟨q, (Option.some.inj e).symm⟩
    · rw [if_neg q] at e
      cases e
  | .tup ds, v, b, h, e => by
    unfold ARep Rep at h
    obtain ⟨a, vs, e1, _, ha, r⟩ := h
    rw [e1, ← Option.some.inj e]
    exact .inr (.inl ⟨vs, SqT.of ha, r.nil_iff⟩)
  | .lst ds, v, b, h, e => by
    obtain ⟨a, vs, e1, ha, r⟩ := h
    rw [e1, ← Option.some.inj e]
    exact .inl ⟨vs, SqL.of ha, r.nil_iff⟩
  | .dic ds, v, b, h, e => by
    obtain ⟨a, vs, e1, ha, r⟩ := h
    rw [e1, ← Option.some.inj e]
    exact .inr (.inr ⟨vs, ha, r.nil_iff⟩)
  | .obj _ _, v, b, h, e => by
    unfold truD at e
    cases e
  | .scr _, v, b, h, e => by
    unfold truD at e
    cases e
  | .exn _ _, v, b, h, e => by
    unfold truD at e
    cases e
  | .ow _, v, b, h, e => by
    unfold truD at e
    cases e
theorem RdT.mono {f : M Bool} {Q Q' : Bool → Hp → Prop} (h : ∀ v H, Q v H → Q' v H) (r : RdT K W f σ H Q) : RdT K W f σ H Q' := by
  obtain ⟨B, en, G, m⟩ := r
  refine ⟨B, en, G, ?_⟩
  revert m
  cases f en with
  | ok r en' => exact fun m H' a b => h _ H' (m H' a b)
  | exc x en' => exact fun m => m
  | bad => exact fun m => m
theorem tstImp {f : M R} {Q : Bool → Hp → Prop} (m : RdT K W (tstF f) σ H Q) : RdE K W f σ H fun x H' => ∃ k, TruV K x H' k ∧ Q k H' := by
  obtain ⟨B, en, G, m⟩ := m
  refine ⟨B, en, G, ?_⟩
  unfold tstF at m
  cases e1 : f en with
  | bad => rw [e1] at m; exact m
  | exc x en1 => rw [e1] at m; exact m
  | ok r en1 =>
    rw [e1] at m
    dsimp only at m ⊢
    intro v H1 ⟨B1, b1, G1, r1, n1⟩ st1
    cases e2 : rsl en1 r with
    | none => rw [e2] at m; exact m.elim
    | some d =>
      rw [e2] at m
      dsimp only at m
      cases e3 : truD d with
      | none => rw [e3] at m; exact m.elim
      | some b =>
        rw [e3] at m
        exact ⟨b, ARep.tru (ArgR.arep G1 r1 e2) e3, m H1 ⟨B1, b1, G1⟩ st1⟩
theorem tstBImp {f : M R} {Q : Bool → Hp → Prop} (m : RdT K W (tstB f) σ H Q) : RdE K W f σ H fun x H' => ∃ k, x = .bl k ∧ Q k H' := by
  obtain ⟨B, en, G, m⟩ := m
  refine ⟨B, en, G, ?_⟩
  unfold tstB at m
  cases e1 : f en with
  | bad => rw [e1] at m; exact m
  | exc x en1 => rw [e1] at m; exact m
  | ok r en1 =>
    rw [e1] at m
    dsimp only at m ⊢
    intro v H1 ⟨B1, b1, G1, r1, n1⟩ st1
    cases e2 : rsl en1 r with
    | none => rw [e2] at m; exact m.elim
    | some d =>
      rw [e2] at m
      dsimp only at m
      have ar := ArgR.arep G1 r1 e2
      cases d with
      | bl b =>
        unfold ARep Rep at ar
        exact ⟨b, ar, m H1 ⟨B1, b1, G1⟩ st1⟩
      | non => exact m.elim
      | int _ => exact m.elim
      | str _ => exact m.elim
      | tup _ => exact m.elim
      | lst _ => exact m.elim
      | dic _ => exact m.elim
      | obj _ _ => exact m.elim
      | scr _ => exact m.elim
      | exn _ _ => exact m.elim
      | ow _ => exact m.elim
theorem ExR.mono {x : Ex} {c : Value} {od : Option Addr} {U U' : Addr → Prop} (h : ∀ a, U' a → U a) (e : ExR K U H x c od) : ExR K U' H x c od := by
  obtain ⟨h1, h2⟩ := e
  refine ⟨h1, ?_⟩
  revert h2
  cases x.fld with
  | none => exact fun h2 => h2
  | some fd => exact fun ⟨a, v, e, nu, ha, hr⟩ => ⟨a, v, e, fun q => nu (h a q), ha, Rep.to (fun a o x n => ⟨x, fun q => n (h a q)⟩) _ _ hr⟩
theorem RdT.bind {f : M Bool} {Q : Bool → Hp → Prop} (G : Good K B H σ en) (m : match f en with
    | .ok b en' => ∀ H' B', Bx B B' σ en H → Good K B' H' σ en' → Stp σ en H σ en' H' → Q b H'
    | .exc x en' => ∀ c od H', ExR K (Un B H' σ en') H' x c od → Good K B H' σ en' → Stp σ en H σ en' H' → W c od σ H'
    | .bad => False) : RdT K W f σ H Q := by
  refine ⟨B, en, G, ?_⟩
  revert m
  cases f en with
  | ok b en' => exact fun m H' ⟨B', b, g⟩ st => m H' B' b g st
  | exc x en' => exact fun m => m
  | bad => exact fun m => m
theorem RdT.of {f : M Bool} {Q : Bool → Hp → Prop} {en1 : En} {H1 : Hp} {B1 : Addr → Prop} (b1 : Bx B B1 σ en H) (G1 : Good K B1 H1 σ en1) (st1 : Stp σ en H σ en1 H1) (m : match f en1 with
    | .ok b en' => ∀ H', (∃ B', Bx B B' σ en H ∧ Good K B' H' σ en') → Stp σ en H σ en' H' → Q b H'
    | .exc x en' => ∀ c od H', ExR K (Un B H' σ en') H' x c od → Good K B H' σ en' → Stp σ en H σ en' H' → W c od σ H'
    | .bad => False) : RdT K W f σ H1 Q := by
  refine ⟨B1, en1, G1, ?_⟩
  revert m
  cases f en1 with
  | ok b en' => exact fun m H' ⟨B', b', g⟩ st => m H' ⟨B', b1.trans st1 b', g⟩ (st1.trans st)
  | exc x en' => exact fun m c od H' e g st => m c od H' (e.mono fun a q => Un.mono b1.up q) (g.mono b1.up) (st1.trans st)
  | bad => exact fun m => m
theorem RdE.of {f : M R} {Q : VK} {en1 : En} {H1 : Hp} {B1 : Addr → Prop} (b1 : Bx B B1 σ en H) (G1 : Good K B1 H1 σ en1) (st1 : Stp σ en H σ en1 H1) (m : match f en1 with
    | .ok r en' => ∀ v H', (∃ B', Bx B B' σ en H ∧ Good K B' H' σ en' ∧ ArgR K B' σ en' H' r v ∧ frN σ en H H' r v) → Stp σ en H σ en' H' → Q v H'
    | .exc x en' => ∀ c od H', ExR K (Un B H' σ en') H' x c od → Good K B H' σ en' → Stp σ en H σ en' H' → W c od σ H'
    | .bad => False) : RdE K W f σ H1 Q := by
  refine ⟨B1, en1, G1, ?_⟩
  revert m
  cases f en1 with
  | ok b en' => exact fun m v H' ⟨B', b', g, r, n⟩ st => m v H' ⟨B', b1.trans st1 b', g, r, n.step st1⟩ (st1.trans st)
  | exc x en' => exact fun m c od H' e g st => m c od H' (e.mono fun a q => Un.mono b1.up q) (g.mono b1.up) (st1.trans st)
  | bad => exact fun m => m
theorem notImp {f : M Bool} {Q : Bool → Hp → Prop} (m : RdT K W (notT f) σ H Q) : tNot (RdT K W f) σ H Q := by
  obtain ⟨B, en, G, m⟩ := m
  refine ⟨B, en, G, ?_⟩
  unfold notT at m
  cases e1 : f en with
  | bad => rw [e1] at m; exact m
  | exc x en1 => rw [e1] at m; exact m
  | ok r en1 => rw [e1] at m; exact m
theorem andImp {f g : M Bool} {Q : Bool → Hp → Prop} (m : RdT K W (andT f g) σ H Q) : tAnd (RdT K W f) (RdT K W g) σ H Q := by
  obtain ⟨B, en, G, m⟩ := m
  refine ⟨B, en, G, ?_⟩
  unfold andT at m
  cases e1 : f en with
  | bad => rw [e1] at m; exact m
  | exc x en1 => rw [e1] at m; exact m
  | ok r en1 =>
    rw [e1] at m
    intro H1 ⟨B1, b1, G1⟩ st1
    cases r with
    | false => exact m H1 ⟨B1, b1, G1⟩ st1
    | true => exact RdT.of b1 G1 st1 m
theorem orImp {f g : M Bool} {Q : Bool → Hp → Prop} (m : RdT K W (orT f g) σ H Q) : tOr (RdT K W f) (RdT K W g) σ H Q := by
  obtain ⟨B, en, G, m⟩ := m
  refine ⟨B, en, G, ?_⟩
  unfold orT at m
  cases e1 : f en with
  | bad => rw [e1] at m; exact m
  | exc x en1 => rw [e1] at m; exact m
  | ok r en1 =>
    rw [e1] at m
    intro H1 ⟨B1, b1, G1⟩ st1
    cases r with
    | true => exact m H1 ⟨B1, b1, G1⟩ st1
    | false => exact RdT.of b1 G1 st1 m
theorem ifImp {t : M Bool} {f g : M R} {Q : VK} (m : RdE K W (ifF t f g) σ H Q) : tIf (RdT K W t) (RdE K W f) (RdE K W g) σ H Q := by
  obtain ⟨B, en, G, m⟩ := m
  refine ⟨B, en, G, ?_⟩
  unfold ifF at m
  cases e1 : t en with
  | bad => rw [e1] at m; exact m
  | exc x en1 => rw [e1] at m; exact m
  | ok r en1 =>
    rw [e1] at m
    intro H1 ⟨B1, b1, G1⟩ st1
    cases r with
    | true => exact RdE.of b1 G1 st1 m
    | false => exact RdE.of b1 G1 st1 m
theorem andVImp {f g : M R} {Q : VK} (m : RdE K W (andF f g) σ H Q) : tAndV (RdE K W f) (RdE K W g) σ H Q := by
  obtain ⟨B, en, G, m⟩ := m
  unfold andF at m
  refine RdE.mono (fun v H1 q => ?_) (tstBImp (Q := fun c H1 => if c = true then RdE K W g σ H1 Q else Q (.bl false) H1) ⟨B, en, G, ?_⟩)
  · exact q
  · cases e1 : tstB f en with
    | bad => rw [e1] at m; exact m
    | exc x en1 => rw [e1] at m; exact m
    | ok r en1 =>
      rw [e1] at m
      intro H1 ⟨B1, b1, G1⟩ st1
      cases r with
      | true => exact RdE.of b1 G1 st1 m
      | false => exact m (.bl false) H1 ⟨B1, b1, G1, (by unfold ArgR Rep; rfl), trivial⟩ st1
end
section
variable {X : Cx} {W : WX} {pos : Pos} {a b c : Expr} {rest : List Expr} {fa fb : M R} {ta tb : M Bool} {g : List D → Option (Bool × D)}
theorem t_truth (ha : PE X a (RdE X.K W fa)) (he : ∀ whole, isTrue a X.env whole = (do let v ← whole; standAt a.pos; holding [v] (truthy v)) := by intro _; rfl) : PT X a (RdT X.K W (tstF fa)) :=
  pt_imp (pt_truth ha he) fun σ H Q m => tstImp m
theorem t_cmp {op : CmpOp} {r : R2} (ho : OpR X (compareOp op) r) (hp : Prim X.K (r2 r) g) (ha : PE X a (RdE X.K W fa)) (hb : PE X b (RdE X.K W fb)) (hm : behindInMarks op b = false) : PT X (.Compare a [op] [b] pos) (RdT X.K W (tstB (opF g (two fa fb)))) :=
  pt_imp (pt_cmpR ho ha hb hm) fun σ H Q m => impOp hp (tstBImp m)
theorem t_not (ha : PT X a (RdT X.K W ta)) : PT X (.UnaryOp .Not a pos) (RdT X.K W (notT ta)) := pt_imp (pt_not ha) fun σ H Q m => notImp m
theorem w_and1 (ha : PT X a (RdT X.K W ta)) : PW X (.BoolOp .And [a] pos) (RdT X.K W ta) := pw_and1 ha
theorem w_or1 (ha : PT X a (RdT X.K W ta)) : PW X (.BoolOp .Or [a] pos) (RdT X.K W ta) := pw_or1 ha
theorem w_and (ha : PT X a (RdT X.K W ta)) (hb : PW X (.BoolOp .And (b :: rest) pos) (RdT X.K W tb)) : PW X (.BoolOp .And (a :: b :: rest) pos) (RdT X.K W (andT ta tb)) := pw_imp (pw_and ha hb) fun σ H Q m => andImp m
theorem w_or (ha : PT X a (RdT X.K W ta)) (hb : PW X (.BoolOp .Or (b :: rest) pos) (RdT X.K W tb)) : PW X (.BoolOp .Or (a :: b :: rest) pos) (RdT X.K W (orT ta tb)) := pw_imp (pw_or ha hb) fun σ H Q m => orImp m
theorem e_one {op} (h : PE X a (RdE X.K W fa)) : PE X (.BoolOp op [a] pos) (RdE X.K W fa) := pe_one h
theorem e_and (ha : PE X a (RdE X.K W fa)) (hb : PE X (.BoolOp .And (b :: rest) pos) (RdE X.K W fb)) : PE X (.BoolOp .And (a :: b :: rest) pos) (RdE X.K W (andF fa fb)) := pe_imp (pe_and ha hb) fun σ H Q m => andVImp m
theorem e_if (hc : PT X c (RdT X.K W ta)) (ha : PE X a (RdE X.K W fa)) (hb : PE X b (RdE X.K W fb)) : PE X (.IfExp c a b pos) (RdE X.K W (ifF ta fa fb)) := pe_imp (pe_ifExp hc ha hb) fun σ H Q m => ifImp m
end
end PyD

namespace PyD
open PySem PySem.Spec L2
def skF : En → Fl := fun en => .nx en
def seqF (f g : En → Fl) : En → Fl := fun en => match f en with
  | .nx en1 => g en1
  | o => o
def bkF : En → Fl := fun en => .bk en
def ctF : En → Fl := fun en => .ct en
def drF (f : M R) : En → Fl := fun en => match f en with
  | .ok _ en1 => .nx en1
  | .exc x en1 => .exc x en1
  | .bad => .bad
def rtF (f : M R) : En → Fl := fun en => match f en with
  | .ok r en1 => .rt r en1
  | .exc x en1 => .exc x en1
  | .bad => .bad
def ifS (t : M Bool) (f g : En → Fl) : En → Fl := fun en => match t en with
  | .ok true en1 => f en1
  | .ok false en1 => g en1
  | .exc x en1 => .exc x en1
  | .bad => .bad
def freeAt (en : En) (i : Nat) : Bool := match en[i]? with
  | some (.o true _) => false
  | some _ => true
  | none => false
def asV (i : Nat) (f : M R) : En → Fl := fun en => match f en with
  | .ok r en1 => (match freeAt en1 i with
    | true => (match r with
      | .sh d => .nx (en1.set i (.v d))
      | .fr d => .nx (en1.set i (.v d))
      | .sl _ => .bad)
    | false => .bad)
  | .exc x en1 => .exc x en1
  | .bad => .bad
def asO (i : Nat) (f : M R) : En → Fl := fun en => match f en with
  | .ok r en1 => (match freeAt en1 i with
    | true => (match r with
      | .fr d => .nx (en1.set i (.o false d))
      | _ => .bad)
    | false => .bad)
  | .exc x en1 => .exc x en1
  | .bad => .bad
def gNm (i : Nat) : D → M Unit := fun d en => match freeAt en i with
  | true => .ok () (en.set i (.v d))
  | false => .bad
def gNms : List Nat → List D → M Unit
  | [], [], en => .ok () en
  | i :: is, d :: ds, en => (match freeAt en i with
    | true => gNms is ds (en.set i (.v d))
    | false => .bad)
  | _, _, _ => .bad
def gTp (is : List Nat) : D → M Unit := fun d en => match d with
  | .tup ds => gNms is ds en
  | _ => .bad
def asG (g : D → M Unit) (f : M R) : En → Fl := fun en => match f en with
  | .ok (.sh d) en1 => (match g d en1 with
    | .ok _ en2 => .nx en2
    | _ => .bad)
  | .ok _ _ => .bad
  | .exc x en1 => .exc x en1
  | .bad => .bad
def asP (i j : Nat) (fs : M (List R)) : En → Fl := fun en => match fs en with
  | .ok [.sh d, .sh d'] en1 => (match freeAt en1 i with
    | true => (match freeAt en1 j with
      | true => .nx ((en1.set i (.v d)).set j (.v d'))
      | false => .bad)
    | false => .bad)
  | .ok _ _ => .bad
  | .exc x en1 => .exc x en1
  | .bad => .bad
def whF (t : M Bool) (f : En → Fl) : Nat → En → Fl
  | 0, _ => .bad
  | n + 1, en => match t en with
    | .ok true en1 => (match f en1 with
      | .nx en2 => whF t f n en2
      | .ct en2 => whF t f n en2
      | .bk en2 => .nx en2
      | o => o)
    | .ok false en1 => .nx en1
    | .exc x en1 => .exc x en1
    | .bad => .bad
def frL (g : D → M Unit) (f : En → Fl) : List D → En → Fl
  | [], en => .nx en
  | d :: ds, en => match g d en with
    | .ok _ en1 => (match f en1 with
      | .nx en2 => frL g f ds en2
      | .ct en2 => frL g f ds en2
      | .bk en2 => .nx en2
      | o => o)
    | _ => .bad
def frF (it : M (List D)) (g : D → M Unit) (f : En → Fl) : En → Fl := fun en => match it en with
  | .ok ds en1 => frL g f ds en1
  | .exc x en1 => .exc x en1
  | .bad => .bad
section
variable {K : PySem.W.Frag} {W : WX} {B B' B1 : Addr → Prop} {U : Addr → Prop} {H H' H1 : Hp} {σ σ' σ1 : L2.St} {en en' en1 : En} {d : D} {v : V} {i : Nat} {p : Addr} {D0 : Ends}
def QS (K : PySem.W.Frag) (W : WX) (B : Addr → Prop) (σ : L2.St) (en : En) (H : Hp) (D : Ends) (f : Fl) : Prop := match f with
  | .nx en' => ∀ σ' H', Good K B H' σ' en' → Stp σ en H σ' en' H' → D.nx σ' H'
  | .bk en' => ∀ σ' H', Good K B H' σ' en' → Stp σ en H σ' en' H' → D.bk σ' H'
  | .ct en' => ∀ σ' H', Good K B H' σ' en' → Stp σ en H σ' en' H' → D.ct σ' H'
  | .rt r en' => ∀ v σ' H', (∃ B', Bx B B' σ en H ∧ Good K B' H' σ' en' ∧ ArgR K B' σ' en' H' r v ∧ frN σ en H H' r v) → Stp σ en H σ' en' H' → D.rt v H'
  | .exc x en' => ∀ c od σ' H', ExR K (Un B H' σ' en') H' x c od → Good K B H' σ' en' → Stp σ en H σ' en' H' → W c od σ' H'
  | .bad => False
theorem QS.to {f : Fl} (b1 : Bx B B1 σ en H) (st : Stp σ en H σ1 en1 H1) (q : QS K W B σ en H D0 f) : QS K W B1 σ1 en1 H1 D0 f := by
  cases f with
  | nx en' => exact fun σ' H' g s => q σ' H' (g.mono b1.up) (st.trans s)
  | bk en' => exact fun σ' H' g s => q σ' H' (g.mono b1.up) (st.trans s)
  | ct en' => exact fun σ' H' g s => q σ' H' (g.mono b1.up) (st.trans s)
  | rt r en' => exact fun v σ' H' ⟨B', b, g, r, n⟩ s => q v σ' H' ⟨B', b1.trans st b, g, r, n.step st⟩ (st.trans s)
  | exc x en' => exact fun c od σ' H' e g s => q c od σ' H' (e.mono fun a z => Un.mono b1.up z) (g.mono b1.up) (st.trans s)
  | bad => exact q
theorem RdS.of {f : En → Fl} (b1 : Bx B B1 σ en H) (G1 : Good K B1 H1 σ1 en1) (st : Stp σ en H σ1 en1 H1) (q : QS K W B σ en H D0 (f en1)) : RdS K W f D0 σ1 H1 :=
  ⟨B1, en1, G1, QS.to b1 st q⟩
theorem RdS.qs {f : En → Fl} (m : RdS K W f D0 σ H) : ∃ B en, Good K B H σ en ∧ QS K W B σ en H D0 (f en) := m
theorem seqImp {f g : En → Fl} (m : RdS K W (seqF f g) D0 σ H) : tSeq (RdS K W f) (RdS K W g) D0 σ H := by
  obtain ⟨B, en, G, m⟩ := RdS.qs m
  refine ⟨B, en, G, ?_⟩
  unfold seqF at m
  cases e : f en with
  | nx en1 =>
    rw [e] at m
    exact fun σ' H' g' st => RdS.of (Bx.refl B σ en H) g' st m
  | bk en1 => rw [e] at m; exact m
  | ct en1 => rw [e] at m; exact m
  | rt r en1 => rw [e] at m; exact m
  | exc x en1 => rw [e] at m; exact m
  | bad => rw [e] at m; exact m
theorem drImp {f : M R} (m : RdS K W (drF f) D0 σ H) : tDrop (RdE K W f) D0 σ H := by
  obtain ⟨B, en, G, m⟩ := RdS.qs m
  refine ⟨B, en, G, ?_⟩
  unfold drF at m
  cases e : f en with
  | ok r en1 =>
    rw [e] at m
    exact fun v H' ⟨B', b, g, _, _⟩ st => m σ H' (g.mono b.up) st
  | exc x en1 => rw [e] at m; exact fun c od H' => m c od σ H'
  | bad => rw [e] at m; exact m
theorem rtImp {f : M R} (m : RdS K W (rtF f) D0 σ H) : tRet (RdE K W f) D0 σ H := by
  obtain ⟨B, en, G, m⟩ := RdS.qs m
  refine ⟨B, en, G, ?_⟩
  unfold rtF at m
  cases e : f en with
  | ok r en1 => rw [e] at m; exact fun v H' => m v σ H'
  | exc x en1 => rw [e] at m; exact fun c od H' => m c od σ H'
  | bad => rw [e] at m; exact m
theorem ifSImp {t : M Bool} {f g : En → Fl} (m : RdS K W (ifS t f g) D0 σ H) : tIfS (RdT K W t) (RdS K W f) (RdS K W g) D0 σ H := by
  obtain ⟨B, en, G, m⟩ := RdS.qs m
  refine ⟨B, en, G, ?_⟩
  unfold ifS at m
  cases e : t en with
  | ok b en1 =>
    rw [e] at m
    intro H' ⟨B', b', g'⟩ st
    cases b with
    | true => exact RdS.of b' g' st m
    | false => exact RdS.of b' g' st m
  | exc x en1 => rw [e] at m; exact fun c od H' => m c od σ H'
  | bad => rw [e] at m; exact m
theorem freeAt_lt (h : freeAt en i = true) : i < en.length ∧ ∀ d, en[i]? ≠ some (.o true d) := by
  unfold freeAt at h
  cases e : en[i]? with
  | none => rw [e] at h; cases h
  | some s => exact ⟨get_lt e, fun d z => by
      cases z
      rw [e] at h
      cases h⟩
theorem own_set_v {a : Addr} (hi : i < en.length) (h : Own H (σ.set i (some v)) (en.set i (.v d)) a) : Own H σ en a := by
  obtain ⟨j, b, d', p, e, s, r⟩ := h
  rcases set_get e with ⟨_, q, _⟩ | ⟨ne, q⟩
  · cases q
  · rw [List.getElem?_set_ne ne] at s
    exact ⟨j, b, d', p, q, s, r⟩
theorem Good.set_v (G : Good K B' H σ en) (up : ∀ a, B a → B' a) (hi : i < en.length) (r : Rep K (Un B H σ en) H d v) : Good K B H (σ.set i (some v)) (en.set i (.v d)) := by
  have t : ∀ a o, H a = some o → ¬ Un B' H σ en a → H a = some o ∧ ¬ Un B H (σ.set i (some v)) (en.set i (.v d)) a := fun a o x n => ⟨x, fun z => n (z.imp (up a) (own_set_v hi))⟩
  exact {
    len := by rw [List.length_set, List.length_set]; exact G.len
    all := fun a h => G.all a (up a h)
    rep := fun j d' e => by
      rcases set_get e with ⟨e1, q, hl⟩ | ⟨ne, q⟩
      · cases q
        subst e1
        refine ⟨v, ?_, Rep.to (fun a o x n => ⟨x, fun z => n (z.imp id (own_set_v hi))⟩) d v r⟩
        rw [List.getElem?_set, if_pos rfl, if_pos (by rw [G.len]; exact hl)]
      · obtain ⟨v', s, r'⟩ := G.rep j d' q
        exact ⟨v', by rw [List.getElem?_set_ne ne]; exact s, Rep.to t d' v' r'⟩
    own := fun j b d' e => by
      rcases set_get e with ⟨e1, q, hl⟩ | ⟨ne, q⟩
      · cases q
      · obtain ⟨p, s, n, c⟩ := G.own j b d' q
        exact ⟨p, by rw [List.getElem?_set_ne ne]; exact s, fun a r z => n a r (up a z), Cont.to t (fun _ _ _ x => x) c⟩
    inj := fun j k p p' a b c d1 d2 e1 e2 s1 s2 => by
      rcases set_get e1 with ⟨_, q, _⟩ | ⟨ne1, q1⟩
      · cases q
      · rcases set_get e2 with ⟨_, q, _⟩ | ⟨ne2, q2⟩
        · cases q
        · rw [List.getElem?_set_ne ne1] at s1
          rw [List.getElem?_set_ne ne2] at s2
          exact G.inj j k p p' a b c d1 d2 q1 q2 s1 s2 }
theorem Stp.set_v (hf : freeAt en i = true) : Stp σ en H (σ.set i (some v)) (en.set i (.v d)) H where
  len := List.length_set
  fr := fun _ _ h _ => h
  al := fun _ h => h
  ow := fun a h => .inl (own_set_v (freeAt_lt hf).1 h)
  of := fun a h => .inl (by
    obtain ⟨j, d', p, e, s, r⟩ := h
    rcases set_get e with ⟨_, q, _⟩ | ⟨ne, q⟩
    · cases q
    · rw [List.getElem?_set_ne ne] at s
      exact ⟨j, d', p, q, s, r⟩)
  pin := fun j d' e => by
    have ne : i ≠ j := fun z => by
      subst z
      exact (freeAt_lt hf).2 d' e
    exact ⟨by rw [List.getElem?_set_ne ne], d', by rw [List.getElem?_set_ne ne]; exact e⟩
  pb := fun j d' e => by
    rcases set_get e with ⟨_, q, _⟩ | ⟨_, q⟩
    · cases q
    · exact ⟨d', q⟩
  pr := fun j d d' p a e1 e2 _ r => by
    rcases set_get e2 with ⟨_, q, _⟩ | ⟨_, q⟩
    · cases q
    · rw [e1] at q; cases q; exact .inl r
theorem fr_rep (bx : Bx B B' σ en H) (G : Good K B H σ en) (G' : Good K B' H' σ' en') (h : ArgR K B' σ' en' H' (.fr d) v) (n : frN σ en H H' (.fr d) v) : Rep K (Un B H' σ' en') H' d v := by
  obtain ⟨p, e, bp, c⟩ := h
  subst e
  refine Cont.rep (fun a r z => ?_) (Cont.to (fun a o x n => ⟨x, fun z => n (Un.mono bx.up z)⟩) (fun _ _ _ x => x) c)
  rcases z with z | z
  · rcases n p a rfl r with q | q
    · exact G.all a z q
    · exact G.ownNB q.own z
  · exact G'.ownNB z (bp a r)
theorem sto_rep (bx : Bx B B' σ en H) (G : Good K B H σ en) (G' : Good K B' H' σ' en') : ∀ {r : R} {v : V} {d : D}, ArgR K B' σ' en' H' r v → frN σ en H H' r v → (r = .sh d ∨ r = .fr d) → Rep K (Un B H' σ' en') H' d v
  | .sh d', v, d, h, n, e => by
    rcases e with e | e
    · cases e
      exact Rep.to (fun a o x n => ⟨x, fun z => n (Un.mono bx.up z)⟩) _ _ h
    · cases e
  | .fr d', v, d, h, n, e => by
    rcases e with e | e
    · cases e
    · cases e
      exact fr_rep bx G G' h n
  | .sl i, v, d, h, n, e => by rcases e with e | e <;> cases e
theorem asVImp {f : M R} (m : RdS K W (asV i f) D0 σ H) : tAsg (RdE K W f) (gName i) D0 σ H := by
  obtain ⟨B, en, G, m⟩ := RdS.qs m
  refine ⟨B, en, G, ?_⟩
  unfold asV at m
  cases e : f en with
  | exc x en1 => rw [e] at m; exact fun c od H' => m c od σ H'
  | bad => rw [e] at m; exact m
  | ok r en1 =>
    rw [e] at m
    dsimp only at m
    intro v H' ⟨B', b, g, ra, n⟩ st
    cases hf : freeAt en1 i with
    | false => rw [hf] at m; exact m.elim
    | true =>
      rw [hf] at m
      cases r with
      | sl j => exact m.elim
      | sh d => exact m _ _ (g.set_v b.up (freeAt_lt hf).1 (sto_rep b G g ra n (.inl rfl))) (st.trans (Stp.set_v hf))
      | fr d => exact m _ _ (g.set_v b.up (freeAt_lt hf).1 (sto_rep b G g ra n (.inr rfl))) (st.trans (Stp.set_v hf))
theorem Good.set_o {fb : Bool} (G : Good K B' H σ en) (up : ∀ a, B a → B' a) (hi : i < en.length) (hp : ∀ a, Rch H d p a → B' a) (nb : ∀ a, Rch H d p a → ¬ B a) (c : Cont K (Un B' H σ en) H d p) : Good K B H (σ.set i (some (.ref p))) (en.set i (.o fb d)) := by
  have no : ∀ a, Rch H d p a → ¬ Own H σ en a := fun a r z => G.ownNB z (hp a r)
  have ow : ∀ a, Own H (σ.set i (some (.ref p))) (en.set i (.o fb d)) a → Rch H d p a ∨ Own H σ en a := fun a h => by
    obtain ⟨j, b, d', p1, e, s, r⟩ := h
    rcases set_get e with ⟨e1, q, hl⟩ | ⟨ne, q⟩
    · subst e1
      rw [List.getElem?_set, if_pos rfl] at s
      split at s
      · cases s
        cases q
        exact .inl r
      · cases s
    · rw [List.getElem?_set_ne ne] at s
      exact .inr ⟨j, b, d', p1, q, s, r⟩
  have t : ∀ a o, H a = some o → ¬ Un B' H σ en a → H a = some o ∧ ¬ Un B H (σ.set i (some (.ref p))) (en.set i (.o fb d)) a := fun a o x n => ⟨x, fun z => n (by
    rcases z with z | z
    · exact .inl (up a z)
    · rcases ow a z with z | z
      · exact .inl (hp a z)
      · exact .inr z)⟩
  exact {
    len := by rw [List.length_set, List.length_set]; exact G.len
    all := fun a h => G.all a (up a h)
    rep := fun j d' e => by
      rcases set_get e with ⟨e1, q, hl⟩ | ⟨ne, q⟩
      · cases q
      · obtain ⟨v', s, r'⟩ := G.rep j d' q
        exact ⟨v', by rw [List.getElem?_set_ne ne]; exact s, Rep.to t d' v' r'⟩
    own := fun j b d' e => by
      rcases set_get e with ⟨e1, q, hl⟩ | ⟨ne, q⟩
      · cases q
        subst e1
        refine ⟨p, ?_, nb, Cont.to t (fun _ _ _ x => x) c⟩
        rw [List.getElem?_set, if_pos rfl, if_pos (by rw [G.len]; exact hl)]
      · obtain ⟨p', s, n, c'⟩ := G.own j b d' q
        exact ⟨p', by rw [List.getElem?_set_ne ne]; exact s, fun a r z => n a r (up a z), Cont.to t (fun _ _ _ x => x) c'⟩
    inj := fun j k q q' a b c d1 d2 e1 e2 s1 s2 r1 r2 => by
      rcases set_get e1 with ⟨z1, y1, hl⟩ | ⟨ne1, q1⟩
      · rcases set_get e2 with ⟨z2, _, _⟩ | ⟨ne2, q2⟩
        · rw [← z1, ← z2]
        · subst z1
          rw [List.getElem?_set, if_pos rfl, if_pos (by rw [G.len]; exact hl)] at s1
          rw [List.getElem?_set_ne ne2] at s2
          cases s1
          cases y1
          exact absurd ⟨k, c, d2, q', q2, s2, r2⟩ (no a r1)
      · rcases set_get e2 with ⟨z2, y2, hl⟩ | ⟨ne2, q2⟩
        · subst z2
          rw [List.getElem?_set, if_pos rfl, if_pos (by rw [G.len]; exact hl)] at s2
          rw [List.getElem?_set_ne ne1] at s1
          cases s2
          cases y2
          exact absurd ⟨j, b, d1, q, q1, s1, r1⟩ (no a r2)
        · rw [List.getElem?_set_ne ne1] at s1
          rw [List.getElem?_set_ne ne2] at s2
          exact G.inj j k q q' a b c d1 d2 q1 q2 s1 s2 r1 r2 }
theorem asOImp {f : M R} (m : RdS K W (asO i f) D0 σ H) : tAsg (RdE K W f) (gName i) D0 σ H := by
  obtain ⟨B, en, G, m⟩ := RdS.qs m
  refine ⟨B, en, G, ?_⟩
  unfold asO at m
  cases e : f en with
  | exc x en1 => rw [e] at m; exact fun c od H' => m c od σ H'
  | bad => rw [e] at m; exact m
  | ok r en1 =>
    rw [e] at m
    dsimp only at m
    intro v H' ⟨B', b, g, ra, n⟩ st
    cases hf : freeAt en1 i with
    | false => rw [hf] at m; exact m.elim
    | true =>
      rw [hf] at m
      cases r with
      | sl j => exact m.elim
      | sh d => exact m.elim
      | fr d =>
        obtain ⟨p, e1, bp, c⟩ := ra
        subst e1
        have nn := fun a r => n p a rfl r
        have nb : ∀ a, Rch H' d p a → ¬ B a := fun a r z => by
          rcases nn a r with q | q
          · exact G.all a z q
          · exact G.ownNB q.own z
        refine m _ _ (g.set_o b.up (freeAt_lt hf).1 bp nb c) ?_
        have fin : ∀ {j : Nat} {bb : Bool} {d' : D} {a : Addr}, (en1.set i (.o false d))[j]? = some (.o bb d') → (σ.set i (some (.ref p)))[j]? = some (some (.ref a)) → (a = p ∧ d' = d ∧ bb = false) ∨ (en1[j]? = some (.o bb d') ∧ σ[j]? = some (some (.ref a))) := fun {j bb d' a} e s => by
          rcases set_get e with ⟨z, q, hl⟩ | ⟨ne, q⟩
          · subst z
            rw [List.getElem?_set, if_pos rfl, if_pos (by rw [g.len]; exact hl)] at s
            cases s
            cases q
            exact .inl ⟨rfl, rfl, rfl⟩
          · rw [List.getElem?_set_ne ne] at s
            exact .inr ⟨q, s⟩
        exact {
          len := by rw [List.length_set]; exact st.len
          fr := st.fr
          al := st.al
          ow := fun a h => by
            obtain ⟨j, bb, d', p1, e, s, r⟩ := h
            rcases fin e s with ⟨q, q', _⟩ | ⟨q, s⟩
            · subst q
              subst q'
              rcases nn a r with z | z
              · exact .inr z
              · exact .inl z.own
            · exact st.ow a ⟨j, bb, d', p1, q, s, r⟩
          of := fun a h => by
            obtain ⟨j, d', p1, e, s, r⟩ := h
            rcases fin e s with ⟨q, q', _⟩ | ⟨q, s⟩
            · subst q
              subst q'
              rcases nn a r with z | z
              · exact .inr z
              · exact .inl z
            · exact st.of a ⟨j, d', p1, q, s, r⟩
          pin := fun j d' e => by
            obtain ⟨h1, d2, h2⟩ := st.pin j d' e
            have ne : i ≠ j := fun z => by
              subst z
              exact (freeAt_lt hf).2 d2 h2
            exact ⟨by rw [List.getElem?_set_ne ne], d2, by rw [List.getElem?_set_ne ne]; exact h2⟩
          pb := fun j d' e => by
            rcases set_get e with ⟨_, q, _⟩ | ⟨_, q⟩
            · cases q
            · exact st.pb j d' q
          pr := fun j d1 d2 p a e1 e2 s r => by
            rcases set_get e2 with ⟨_, q, _⟩ | ⟨_, q⟩
            · cases q
            · exact st.pr j d1 d2 p a e1 q s r }
theorem RdG.of {g : D → M Unit} {Q : L2.St → Hp → Prop} (G : Good K B H σ en) (r : Rep K (Un B H σ en) H d v) {en2 : En} (e : g d en = .ok () en2) (q : ∀ σ' H', Good K B H' σ' en2 → Stp σ en H σ' en2 H' → Q σ' H') : RdG K g v σ H Q :=
  ⟨B, en, d, G, r, by rw [e]; exact q⟩
theorem gNmImp {Q : L2.St → Hp → Prop} (m : RdG K (gNm i) v σ H Q) : gName i v σ H Q := by
  obtain ⟨B, en, d, G, r, m⟩ := m
  unfold gNm at m
  cases hf : freeAt en i with
  | false => rw [hf] at m; exact m.elim
  | true =>
    rw [hf] at m
    exact m _ _ (G.set_v (fun _ h => h) (freeAt_lt hf).1 r) (Stp.set_v hf)
def gNames : List Nat → TGs
  | [] => gNil
  | i :: is => gCons (gName i) (gNames is)
theorem gNmsImp {Q : L2.St → Hp → Prop} : ∀ {is : List Nat} {ds : List D} {vs : List V} {en : En} {σ : L2.St} {en2 : En}, Good K B H σ en → RepL K (Un B H σ en) H ds vs → gNms is ds en = .ok () en2 →
    (∀ σ', Good K B H σ' en2 → Stp σ en H σ' en2 H → Q σ' H) → gNames is vs σ H Q
  | [], [], vs, en, σ, en2, G, r, e, q => by
    unfold RepL at r
    cases e
    exact ⟨r, q σ G (Stp.refl σ _ H)⟩
  | [], d :: ds, vs, en, σ, en2, G, r, e, q => by cases e
  | i :: is, [], vs, en, σ, en2, G, r, e, q => by cases e
  | i :: is, d :: ds, vs, en, σ, en2, G, r, e, q => by
    unfold RepL at r
    obtain ⟨v, us, e1, r1, r2⟩ := r
    unfold gNms at e
    cases hf : freeAt en i with
    | false => rw [hf] at e; cases e
    | true =>
      rw [hf] at e
      have st : Stp σ en H (σ.set i (some v)) (en.set i (.v d)) H := Stp.set_v hf
      refine ⟨v, us, e1, ?_⟩
      exact gNmsImp (is := is) (G.set_v (fun _ h => h) (freeAt_lt hf).1 r1) (RepL.to (stepTo st (Bx.refl B σ en H)) _ _ r2) e fun σ' g s => q σ' g (st.trans s)
theorem RepL.len : ∀ {ds : List D} {vs : List V}, RepL K U H ds vs → vs.length = ds.length
  | [], vs, h => by
    unfold RepL at h
    rw [h] <;> rfl
  | d :: ds, vs, h => by
    unfold RepL at h
    obtain ⟨v, us, e, _, r⟩ := h
    rw [e, List.length_cons, List.length_cons, RepL.len r]
theorem gNms_len : ∀ {is : List Nat} {ds : List D} {en en2 : En}, gNms is ds en = .ok () en2 → is.length = ds.length
  | [], [], _, _, _ => rfl
  | [], _ :: _, _, _, e => by cases e
  | _ :: _, [], _, _, e => by cases e
  | i :: is, d :: ds, en, en2, e => by
    unfold gNms at e
    cases hf : freeAt en i with
    | false => rw [hf] at e; cases e
    | true =>
      rw [hf] at e
      rw [List.length_cons, List.length_cons, gNms_len e]
theorem gTpImp {is : List Nat} {Q : L2.St → Hp → Prop} (m : RdG K (gTp is) v σ H Q) : gTup K is.length (gNames is) v σ H Q := by
  obtain ⟨B, en, d, G, r, m⟩ := m
  unfold gTp at m
  cases d with
  | tup ds =>
    dsimp only at m
    unfold Rep at r
    obtain ⟨a, vs, e1, nu, ha, r⟩ := r
    cases e : gNms is ds en with
    | ok u en2 =>
      rw [e] at m
      exact ⟨a, vs, e1, SqT.of ha, by rw [r.len, gNms_len e], gNmsImp G r e fun σ' g s => m σ' H g s⟩
    | exc x en2 => rw [e] at m; exact m.elim
    | bad => rw [e] at m; exact m.elim
  | non => exact m.elim
  | bl _ => exact m.elim
  | int _ => exact m.elim
  | str _ => exact m.elim
  | lst _ => exact m.elim
  | dic _ => exact m.elim
  | obj _ _ => exact m.elim
  | scr _ => exact m.elim
  | exn _ _ => exact m.elim
  | ow _ => exact m.elim
theorem asGImp {g : D → M Unit} {f : M R} (m : RdS K W (asG g f) D0 σ H) : tAsg (RdE K W f) (RdG K g) D0 σ H := by
  obtain ⟨B, en, G, m⟩ := RdS.qs m
  refine ⟨B, en, G, ?_⟩
  unfold asG at m
  cases e : f en with
  | exc x en1 => rw [e] at m; exact fun c od H' => m c od σ H'
  | bad => rw [e] at m; exact m
  | ok r en1 =>
    rw [e] at m
    intro v H' ⟨B', b, g', ra, n⟩ st
    cases r with
    | sl j => exact m.elim
    | fr j => exact m.elim
    | sh d =>
      dsimp only at m
      refine ⟨B', en1, d, g', ra, ?_⟩
      cases e2 : g d en1 with
      | ok u en2 =>
        rw [e2] at m
        exact fun σ' H'' g2 s2 => m σ' H'' (g2.mono b.up) (st.trans s2)
      | exc x en2 => rw [e2] at m; exact m.elim
      | bad => rw [e2] at m; exact m.elim
theorem asPImp {i j : Nat} {fs : M (List R)} (m : RdS K W (asP i j fs) D0 σ H) : tPar i j (RdA K W fs) D0 σ H := by
  obtain ⟨B, en, G, m⟩ := RdS.qs m
  refine ⟨B, en, G, ?_⟩
  unfold asP at m
  cases e : fs en with
  | exc x en1 => rw [e] at m; exact fun c od H' => m c od σ H'
  | bad => rw [e] at m; exact m
  | ok rs en1 =>
    rw [e] at m
    intro vs H' ⟨B', b, g', ra, n⟩ st
    match rs, m, ra, n with
    | [.sh d, .sh d'], m, ⟨v1, us, e1, r1, ⟨v2, us2, e2, r2, e3, _⟩, _⟩, n =>
      dsimp only at m
      subst e1
      subst e2
      have e3' : us2 = [] := e3
      subst e3'
      refine ⟨v1, v2, rfl, ?_⟩
      cases hf : freeAt en1 i with
      | false => rw [hf] at m; exact m.elim
      | true =>
        rw [hf] at m
        dsimp only at m
        cases hj : freeAt en1 j with
        | false => rw [hj] at m; exact m.elim
        | true =>
          rw [hj] at m
          have s1 : Stp σ en1 H' (σ.set i (some v1)) (en1.set i (.v d)) H' := Stp.set_v hf
          have fj : freeAt (en1.set i (.v d)) j = true := by
            unfold freeAt
            by_cases q : i = j
            · subst q
              rw [List.getElem?_set, if_pos rfl, if_pos (freeAt_lt hf).1]
            · rw [List.getElem?_set_ne q]
              exact hj
          have g1 := g'.set_v (B := B') (d := d) (v := v1) (fun _ h => h) (freeAt_lt hf).1 r1
          have g2 := g1.set_v (B := B) (i := j) (d := d') (v := v2) b.up (freeAt_lt fj).1 (Rep.to (fun a o x n => ⟨x, fun z => n (Un.mono b.up z)⟩) _ _ (Rep.step s1 (Bx.refl B' σ en1 H') r2))
          exact m _ _ g2 ((st.trans s1).trans (Stp.set_v fj))
    | [], m, _, _ => exact m.elim
    | [.sh _], m, _, _ => exact m.elim
    | [.fr _], m, _, _ => exact m.elim
    | [.sl _], m, _, _ => exact m.elim
    | .fr _ :: _ :: _, m, _, _ => exact m.elim
    | .sl _ :: _ :: _, m, _, _ => exact m.elim
    | .sh _ :: .fr _ :: _, m, _, _ => exact m.elim
    | .sh _ :: .sl _ :: _, m, _, _ => exact m.elim
    | .sh _ :: .sh _ :: _ :: _, m, _, _ => exact m.elim
end
end PyD

namespace PyD
open PySem PySem.Spec L2
def Kp (U : Addr → Prop) (H H' : Hp) : Prop := ∀ a o, H a = some o → ¬ U a → H' a = some o
structure WalkD (K : PySem.W.Frag) (U : Addr → Prop) (H0 : Hp) (J : It) (ds : List D) : Prop where
  go : ∀ i H1, Kp U H0 H1 → i < ds.length → J.go i H1
  stop : ∀ H1, Kp U H0 H1 → J.stop ds.length H1
  yld : ∀ i H1 x H2 d, Kp U H0 H1 → ds[i]? = some d → J.yld i H1 x H2 → Ext H1 H2 ∧ ∀ U1 : Addr → Prop, (∀ a o, H0 a = some o → ¬ U a → ¬ U1 a) → (∀ a, U1 a → H1 a ≠ none) → Rep K U1 H2 d x
def RdI (K : PySem.W.Frag) (W : WX) (f : M (List D)) : TI := fun σ H Rr => ∃ B en, Good K B H σ en ∧ match f en with
  | .ok ds en' => ∀ J H' B', Bx B B' σ en H → Good K B' H' σ en' → Stp σ en H σ en' H' → WalkD K (Un B' H' σ en') H' J ds → Rr J H'
  | .exc x en' => ∀ c od H', ExR K (Un B H' σ en') H' x c od → Good K B H' σ en' → Stp σ en H σ en' H' → W c od σ H'
  | .bad => False
section
variable {K : PySem.W.Frag} {W : WX} {B B' B1 : Addr → Prop} {U : Addr → Prop} {H H' H1 : Hp} {σ σ' σ1 : L2.St} {en en' en1 : En} {d : D} {v : V} {i : Nat} {p : Addr} {D0 : Ends}
theorem Stp.kp (s : Stp σ en H σ' en' H') : Kp (Un B H σ en) H H' := fun a o e n => s.fr a o e fun z => n (.inr z)
theorem whImp {t : M Bool} {f : En → Fl} {n : Nat} (m : RdS K W (whF t f n) D0 σ H) : tWhile (RdT K W t) (RdS K W f) D0 σ H := by
  obtain ⟨B, en, G, m⟩ := RdS.qs m
  refine ⟨fun k σ' H' => ∃ en', Good K B H' σ' en' ∧ Stp σ en H σ' en' H' ∧ QS K W B σ en H D0 (whF t f k en'), ⟨n, en, G, Stp.refl σ en H, m⟩, ?_⟩
  intro k σ1 H1 ⟨en1, G1, st1, m1⟩
  cases k with
  | zero => exact m1.elim
  | succ k =>
    refine RdT.bind G1 ?_
    unfold whF at m1
    cases e : t en1 with
    | bad => rw [e] at m1; exact m1
    | exc x en2 => rw [e] at m1; exact fun c od H2 ex g s => m1 c od σ1 H2 (ex.mono fun a q => q) g (st1.trans s)
    | ok b en2 =>
      rw [e] at m1
      intro H2 B2 b2 G2 st2
      cases b with
      | false =>
        rw [if_neg Bool.false_ne_true]
        exact m1 σ1 H2 (G2.mono b2.up) (st1.trans st2)
      | true =>
        rw [if_pos rfl]
        dsimp only at m1
        refine ⟨fun σ' H' => ∃ m', m' < k + 1 ∧ ∃ en', Good K B H' σ' en' ∧ Stp σ en H σ' en' H' ∧ QS K W B σ en H D0 (whF t f m' en'), fun σ' H' z => z, ?_⟩
        refine RdS.of (Bx.refl B σ en H) (G2.mono b2.up) (st1.trans st2) ?_
        cases e2 : f en2 with
        | nx en3 => rw [e2] at m1; exact fun σ' H' g s => ⟨k, Nat.lt_succ_self k, en3, g, s, m1⟩
        | ct en3 => rw [e2] at m1; exact fun σ' H' g s => ⟨k, Nat.lt_succ_self k, en3, g, s, m1⟩
        | bk en3 => rw [e2] at m1; exact m1
        | rt r en3 => rw [e2] at m1; exact m1
        | exc x en3 => rw [e2] at m1; exact m1
        | bad => rw [e2] at m1; exact m1
theorem frImp {it : M (List D)} {g : D → M Unit} {f : En → Fl} {tg : TG} (hg : ∀ {v σ H Q}, RdG K g v σ H Q → tg v σ H Q) (m : RdS K W (frF it g f) D0 σ H) : tFor (RdI K W it) tg (RdS K W f) D0 σ H := by
  obtain ⟨B, en, G, m⟩ := RdS.qs m
  refine ⟨B, en, G, ?_⟩
  unfold frF at m
  cases e : it en with
  | exc x en1 => rw [e] at m; exact fun c od H' => m c od σ H'
  | bad => rw [e] at m; exact m
  | ok ds en1 =>
    rw [e] at m
    dsimp only at m ⊢
    intro J H1 B1 b1 G1 st1 wk
    refine ⟨fun i k σ' H' => k + i = ds.length ∧ ∃ en', Good K B1 H' σ' en' ∧ Stp σ en1 H1 σ' en' H' ∧ QS K W B σ en H D0 (frL g f (ds.drop i) en'), ⟨ds.length, by omega, en1, G1, Stp.refl σ en1 H1, m⟩, ?_⟩
    intro i k σ2 H2 ⟨ek, en2, G2, st2, m2⟩
    have kp : Kp (Un B1 H1 σ en1) H1 H2 := st2.kp
    by_cases hi : i < ds.length
    · refine .inr ⟨wk.go i H2 kp hi, fun σ' H' => ∃ m', m' < k ∧ m' + (i + 1) = ds.length ∧ ∃ en', Good K B1 H' σ' en' ∧ Stp σ en1 H1 σ' en' H' ∧ QS K W B σ en H D0 (frL g f (ds.drop (i + 1)) en'), fun σ' H' z => z, ?_⟩
      intro x H3 hy
      have ed : ds[i]? = some ds[i] := List.getElem?_eq_getElem hi
      obtain ⟨x3, r3⟩ := wk.yld i H2 x H3 ds[i] kp ed hy
      have G3 : Good K B1 H3 σ2 en2 := G2.ext0 x3
      have st3 : Stp σ2 en2 H2 σ2 en2 H3 := Stp.ext G2 x3
      have rr : Rep K (Un B1 H3 σ2 en2) H3 ds[i] x := Rep.to (fun a o x n => ⟨x, fun z => n (z.imp id (G2.ownIff (H' := H3) (fun a o _ => x3 a o) a).mp)⟩) _ _ (r3 (Un B1 H2 σ2 en2) (fun a o e1 n z => (stepTo st2 (Bx.refl B1 σ en1 H1) a o e1 n).2 z) (fun a => G2.unAt))
      rw [List.drop_eq_getElem_cons hi] at m2
      unfold frL at m2
      cases e2 : g ds[i] en2 with
      | exc y en3 => rw [e2] at m2; exact m2.elim
      | bad => rw [e2] at m2; exact m2.elim
      | ok u en3 =>
        rw [e2] at m2
        dsimp only at m2
        refine hg (RdG.of G3 rr e2 fun σ4 H4 G4 st4 => ?_)
        have stA : Stp σ en1 H1 σ4 en3 H4 := (st2.trans st3).trans st4
        refine ⟨B1, en3, G4, ?_⟩
        have stB : Stp σ en H σ4 en3 H4 := st1.trans stA
        cases e3 : f en3 with
        | nx en5 => rw [e3] at m2; exact fun σ' H' g' s => ⟨k - 1, by omega, by omega, en5, g', stA.trans s, m2⟩
        | ct en5 => rw [e3] at m2; exact fun σ' H' g' s => ⟨k - 1, by omega, by omega, en5, g', stA.trans s, m2⟩
        | bk en5 => rw [e3] at m2; exact fun σ' H' g' s => m2 σ' H' (g'.mono b1.up) (stB.trans s)
        | rt r en5 => rw [e3] at m2; exact QS.to (W := W) (D0 := D0) (f := .rt r en5) b1 stB m2
        | exc y en5 => rw [e3] at m2; exact QS.to (W := W) (D0 := D0) (f := .exc y en5) b1 stB m2
        | bad => rw [e3] at m2; exact m2
    · have e0 : i = ds.length := by omega
      refine .inl ⟨by rw [e0]; exact wk.stop H2 kp, ?_⟩
      rw [List.drop_eq_nil_of_le (by omega)] at m2
      exact m2 σ2 H2 (G2.mono b1.up) (st1.trans st2)
end
section
variable {X : Cx} {W : WX} {pos : Pos} {e c : Expr} {st : Stmt} {rest body : List Stmt} {f g : En → Fl} {fe : M R} {t : M Bool}
theorem s_nil : PSs X [] (RdS X.K W skF) := pss_imp pss_nil fun D σ H ⟨B, en, G, m⟩ => m σ H G (Stp.refl σ en H)
theorem s_cons (h1 : PS X st (RdS X.K W f)) (h2 : PSs X rest (RdS X.K W g)) : PSs X (st :: rest) (RdS X.K W (seqF f g)) := pss_imp (pss_cons h1 h2) fun D σ H m => seqImp m
theorem s_one (h1 : PS X st (RdS X.K W f)) : PSs X [st] (RdS X.K W f) := pss_one h1
theorem s_expr (he : PE X e (RdE X.K W fe)) (hs : swapsWith e none pos.line X.env = pure false := by rfl) : PS X (.Expr e pos) (RdS X.K W (drF fe)) := ps_imp (ps_expr he hs) fun D σ H m => drImp m
theorem s_ret (he : PE X e (RdE X.K W fe)) : PS X (.Return (some e) pos) (RdS X.K W (rtF fe)) := ps_imp (ps_ret he) fun D σ H m => rtImp m
theorem s_if {a b : List Stmt} (hc : PT X c (RdT X.K W t)) (ha : PSs X a (RdS X.K W f)) (hb : PSs X b (RdS X.K W g)) : PS X (.If c a b pos) (RdS X.K W (ifS t f g)) := ps_imp (ps_if hc ha hb) fun D σ H m => ifSImp m
theorem s_asV {i : Nat} {x : Str} {pos' : Pos} (hN : X.N.Nodup) (he : PE X e (RdE X.K W fe)) (hi : X.N[i]? = some x := by rfl) (hx : Loc X.env.scope x := by first | exact Or.inl rfl | exact Or.inr rfl) (hs : swapsWith e (some (.Name x pos')) pos.line X.env = pure false := by rfl) (hf : X.fn x = true ∨ X.env.scope.names.lookup x = some .local := by first | exact .inl rfl | exact .inr rfl | assumption) :
    PS X (.Assign [.Name x pos'] e pos) (RdS X.K W (asV i fe)) := ps_imp (ps_set hN hi hx he hs hf) fun D σ H m => asVImp m
theorem s_asO {i : Nat} {x : Str} {pos' : Pos} (hN : X.N.Nodup) (he : PE X e (RdE X.K W fe)) (hi : X.N[i]? = some x := by rfl) (hx : Loc X.env.scope x := by first | exact Or.inl rfl | exact Or.inr rfl) (hs : swapsWith e (some (.Name x pos')) pos.line X.env = pure false := by rfl) (hf : X.fn x = true ∨ X.env.scope.names.lookup x = some .local := by first | exact .inl rfl | exact .inr rfl | assumption) :
    PS X (.Assign [.Name x pos'] e pos) (RdS X.K W (asO i fe)) := ps_imp (ps_set hN hi hx he hs hf) fun D σ H m => asOImp m
theorem g_nm {i : Nat} {x : Str} (hN : X.N.Nodup) (hi : X.N[i]? = some x := by rfl) (hx : Loc X.env.scope x := by first | exact Or.inl rfl | exact Or.inr rfl) (hf : X.fn x = true ∨ X.env.scope.names.lookup x = some .local := by first | exact .inl rfl | exact .inr rfl | assumption) : PG X (.Name x pos) (RdG X.K (gNm i)) :=
  pg_imp (pg_name hN hi hx hf) fun v σ H Q m => gNmImp m
theorem g_nil : PGs X [] (gNames []) := pgs_nil
theorem g_cons {i : Nat} {is : List Nat} {es : List Expr} {x : Str} (hN : X.N.Nodup) (h2 : PGs X es (gNames is)) (hi : X.N[i]? = some x := by rfl) (hx : Loc X.env.scope x := by first | exact Or.inl rfl | exact Or.inr rfl)
    (hf : X.fn x = true ∨ X.env.scope.names.lookup x = some .local := by first | exact .inl rfl | exact .inr rfl | assumption) (hs : (assignEach (.Name x pos :: es) X.env).map (·.2) = assign (.Name x pos) X.env :: (assignEach es X.env).map (·.2) := by rfl) : PGs X (.Name x pos :: es) (gNames (i :: is)) :=
  pgs_cons (pg_name hN hi hx hf) h2 hs
theorem g_tup {es : List Expr} {k : Nat} {is : List Nat} (hc : X.calm = true) (h : PGs X es (gNames is))
    (hn : (assignEach es X.env).length = is.length := by rfl) (hst : (assignEach es X.env).findIdx? (·.1) = none := by rfl) : PG X (.Tuple es k pos) (RdG X.K (gTp is)) :=
  pg_imp (pg_tup hc h hn hst) fun v σ H Q m => gTpImp m
theorem s_asG {tg : Expr} {gg : D → M Unit} (he : PE X e (RdE X.K W fe)) (hg : PG X tg (RdG X.K gg)) (hs : swapsWithSole [tg] e pos.line X.env = pure false := by rfl) (hw : swappedStores [tg] e X.env = pure none := by rfl)
    (h1 : (assignEach [tg] X.env).map (·.2) = [assign tg X.env] := by rfl) : PS X (.Assign [tg] e pos) (RdS X.K W (asG gg fe)) := ps_imp (ps_asg he hg hs hw h1) fun D σ H m => asGImp m
theorem s_par {i j : Nat} {x y : Str} {a b : Expr} {fs : M (List R)} {px py pt : Pos} {kt k2 pt2} (hc : X.calm = true) (hN : X.N.Nodup) (ha : PA X [a, b] (RdA X.K W fs)) (hi : X.N[i]? = some x := by rfl) (hj : X.N[j]? = some y := by rfl) (hij : i ≠ j := by decide)
    (hx : X.env.scope.names.lookup x = some .local := by rfl) (hy : X.env.scope.names.lookup y = some .local := by rfl)
    (hw : swappedStores [.Tuple [.Name x px, .Name y py] kt pt] (.Tuple [a, b] k2 pt2) X.env = pure (some [x, y]) := by rfl)
    (hs : swapsWithSole [.Tuple [.Name x px, .Name y py] kt pt] (.Tuple [a, b] k2 pt2) pos.line X.env = pure false := by rfl) :
    PS X (.Assign [.Tuple [.Name x px, .Name y py] kt pt] (.Tuple [a, b] k2 pt2) pos) (RdS X.K W (asP i j fs)) := ps_imp (ps_par hc hN hi hj hij hx hy ha hw hs) fun D σ H m => asPImp m
theorem s_while {n : Nat} (hp : PassesOwn (model X.prog X.w) X.A X.env X.xe) (hc : PT X c (RdT X.K W t)) (hb : PSs X body (RdS X.K W f)) : PS X (.While c body [] pos) (RdS X.K W (whF t f n)) := ps_imp (ps_while hp hc hb) fun D σ H m => whImp m
theorem s_for {tg iter : Expr} {it : M (List D)} {gg : D → M Unit} (hp : PassesOwn (model X.prog X.w) X.A X.env X.xe) (hc : X.calm = true) (hi : PI X tg iter (RdI X.K W it)) (hg : PG X tg (RdG X.K gg)) (hb : PSs X body (RdS X.K W f))
    (hs : ∀ x, foldedSetIterable iter X.env x = pure x := by intro _; rfl) : PS X (.For tg iter body [] pos) (RdS X.K W (frF it gg f)) := ps_imp (ps_for hp hc hi hg hb hs) fun D σ H m => frImp (fun m => m) m
end
end PyD

namespace PyD
open PySem PySem.Spec L2
def slIn (b : Bool) (d : D) : Sl := match b with
  | true => .o true d
  | false => .v d
def mkE : List Bool → List D → En
  | b :: io, d :: ds => slIn b d :: mkE io ds
  | _, _ => []
def pick (b : Bool) (d : D) (s : Sl) : D := match b, s with
  | true, .o _ d' => d'
  | _, _ => d
def outsOf : List Bool → List D → En → List D
  | b :: io, d :: ds, s :: en => pick b d s :: outsOf io ds en
  | _, _, _ => []
def runF (io : List Bool) (k : Nat) (f : En → Fl) (ds : List D) : Out := match f (mkE io ds ++ List.replicate k .e) with
  | .nx en => .ret false .non (outsOf io ds en)
  | .rt (.sh d) en => .ret false d (outsOf io ds en)
  | .rt (.fr d) en => .ret true d (outsOf io ds en)
  | .exc x en => .exc x (outsOf io ds en)
  | _ => .bad
def spD (K : PySem.W.Frag) (io : List Bool) (φ : List D → Out) : Sp := fun vs H Q E => ∃ B ds, ds.length = io.length ∧ vs.length = io.length ∧ Good K B H (vs.map some) (mkE io ds) ∧ match φ ds with
  | .ret b d outs => ∀ v H', (∃ B', Bx B B' (vs.map some) (mkE io ds) H ∧ Good K B' H' (vs.map some) (mkE io outs) ∧ (b = false → Rep K (Un B' H' (vs.map some) (mkE io outs)) H' d v) ∧
      (b = true → ∃ p, v = .ref p ∧ (∀ a, Rch H' d p a → H a = none ∧ B' a) ∧ Cont K (Un B' H' (vs.map some) (mkE io outs)) H' d p)) → Stp (vs.map some) (mkE io ds) H (vs.map some) (mkE io outs) H' → Q v H'
  | .exc x outs => ∀ c od H', ExR K (Un B H' (vs.map some) (mkE io outs)) H' x c od → Good K B H' (vs.map some) (mkE io outs) → Stp (vs.map some) (mkE io ds) H (vs.map some) (mkE io outs) H' → E c od H'
  | .bad => False
mutual
def flatD : D → Bool
  | .tup ds => flatL ds
  | .lst _ => false
  | .dic _ => false
  | .obj _ _ => false
  | .scr _ => false
  | .exn _ _ => false
  | .ow _ => false
  | _ => true
def flatL : List D → Bool
  | [] => true
  | d :: ds => flatD d && flatL ds
end
def flatC : D → Bool
  | .lst ds => flatL ds
  | .dic kvs => flatL (kvs.map (·.2))
  | .obj _ fs => flatL (fs.map (·.2))
  | .ow _ => false
  | _ => true
def resFlat (b : Bool) (d : D) : Bool := match b with
  | true => flatC d
  | false => flatD d
def excFlat (x : Ex) : Bool := match x.fld with
  | some (_, d) => flatD d
  | none => true
def slotsOf : List R → List Nat
  | [] => []
  | .sl i :: rs => i :: slotsOf rs
  | _ :: rs => slotsOf rs
def lentOk : List Bool → List R → Bool
  | true :: io, .sl _ :: rs => lentOk io rs
  | true :: _, _ => false
  | false :: io, _ :: rs => lentOk io rs
  | [], [] => true
  | _, _ => false
def borrows : List Bool → List R → Bool
  | false :: _, .sl _ :: _ => true
  | _ :: io, _ :: rs => borrows io rs
  | _, _ => false
def nodupB : List Nat → Bool
  | [] => true
  | i :: is => !(is.elem i) && nodupB is
def putBack : List Bool → List R → List D → En → En
  | true :: io, .sl j :: rs, d :: outs, en => putBack io rs outs (match en[j]? with
    | some (.o f _) => en.set j (.o f d)
    | _ => en)
  | _ :: io, _ :: rs, _ :: outs, en => putBack io rs outs en
  | _, _, _, en => en
def callF (io : List Bool) (φ : List D → Out) (fs : M (List R)) : M R := fun en => match fs en with
  | .ok rs en1 => (match rsls en1 rs with
    | some ds => (match lentOk io rs && nodupB (slotsOf rs) with
      | true => (match φ ds with
        | .ret b d outs => (match !(borrows io rs) || (!(io.elem true) && resFlat b d) with
          | true => .ok (mkR b d) (putBack io rs outs en1)
          | false => .bad)
        | .exc x outs => (match !(borrows io rs) || (!(io.elem true) && excFlat x) with
          | true => .exc x (putBack io rs outs en1)
          | false => .bad)
        | .bad => .bad)
      | false => .bad)
    | none => .bad)
  | .exc x en1 => .exc x en1
  | .bad => .bad
section
variable {K : PySem.W.Frag} {W : WX} {B B' B1 : Addr → Prop} {U U' : Addr → Prop} {H H' H1 : Hp} {σ σ' σ1 : L2.St} {en en' en1 : En} {d : D} {v : V} {i : Nat} {p : Addr} {io : List Bool} {ds : List D}
theorem mkE_len : ∀ {io : List Bool} {ds : List D}, ds.length = io.length → (mkE io ds).length = io.length
  | [], _, _ => rfl
  | b :: io, [], h => by cases h
  | b :: io, d :: ds, h => by
    show (mkE io ds).length + 1 = io.length + 1
    rw [mkE_len (Nat.succ.inj h)]
theorem mkE_get : ∀ {io : List Bool} {ds : List D} {i : Nat} {s : Sl}, (mkE io ds)[i]? = some s → ∃ b d, io[i]? = some b ∧ ds[i]? = some d ∧ s = slIn b d
  | [], _, i, s, h => by cases h
  | b :: io, [], i, s, h => by cases h
  | b :: io, d :: ds, 0, s, h => ⟨b, d, rfl, rfl, (Option.some.inj h).symm⟩
  | b :: io, d :: ds, i + 1, s, h => mkE_get (io := io) (ds := ds) (i := i) h
theorem mkE_of : ∀ {io : List Bool} {ds : List D} {i : Nat} {b : Bool} {d : D}, io[i]? = some b → ds[i]? = some d → (mkE io ds)[i]? = some (slIn b d)
  | [], _, i, b, d, h, _ => by cases h
  | b :: io, [], i, _, d, h, h2 => by cases h2
  | b :: io, d :: ds, 0, _, _, h, h2 => by
    cases h
    cases h2
    rfl
  | b :: io, d :: ds, i + 1, _, _, h, h2 => mkE_of (io := io) (ds := ds) (i := i) h h2
theorem outs_len : ∀ {io : List Bool} {ds : List D} {en : En}, ds.length = io.length → io.length ≤ en.length → (outsOf io ds en).length = io.length
  | [], ds, en, _, _ => by
    cases ds <;> rfl
  | b :: io, [], en, h, _ => by cases h
  | b :: io, d :: ds, [], _, h => by cases h
  | b :: io, d :: ds, s :: en, h, h2 => by
    show (outsOf io ds en).length + 1 = io.length + 1
    rw [outs_len (Nat.succ.inj h) (Nat.le_of_succ_le_succ h2)]
theorem outs_get : ∀ {io : List Bool} {ds : List D} {en : En} {i : Nat} {b : Bool} {d : D} {s : Sl}, io[i]? = some b → ds[i]? = some d → en[i]? = some s → (outsOf io ds en)[i]? = some (pick b d s)
  | [], _, _, i, b, d, s, h, _, _ => by cases h
  | b :: io, [], _, i, _, d, s, _, h, _ => by cases h
  | b :: io, d :: ds, [], i, _, _, s, _, _, h => by cases h
  | b :: io, d :: ds, s :: en, 0, _, _, _, h1, h2, h3 => by
    cases h1
    cases h2
    cases h3
    rfl
  | b :: io, d :: ds, s :: en, i + 1, _, _, _, h1, h2, h3 => outs_get (io := io) (ds := ds) (en := en) (i := i) h1 h2 h3
theorem app_get {α : Type} {l : List α} {k i : Nat} {x y : α} (h : (l ++ List.replicate k x)[i]? = some y) : l[i]? = some y ∨ y = x := by
  by_cases q : i < l.length
  · rw [List.getElem?_append_left q] at h
    exact .inl h
  · rw [List.getElem?_append_right (by omega), List.getElem?_replicate] at h
    split at h
    · exact .inr (Option.some.inj h).symm
    · cases h
theorem get_app {α : Type} {l m : List α} {i : Nat} {y : α} (h : l[i]? = some y) : (l ++ m)[i]? = some y := by
  rw [List.getElem?_append_left (get_lt h)]
  exact h
theorem own_app {k k' : Nat} {a : Addr} (hl : σ.length = en.length) (h : Own H (σ ++ List.replicate k none) (en ++ List.replicate k' .e) a) : Own H σ en a := by
  obtain ⟨i, b, d, p, e, s, r⟩ := h
  rcases app_get e with e | e
  · rw [List.getElem?_append_left (by rw [hl]; exact get_lt e)] at s
    exact ⟨i, b, d, p, e, s, r⟩
  · cases e
theorem Good.app (G : Good K B H σ en) (k : Nat) : Good K B H (σ ++ List.replicate k none) (en ++ List.replicate k .e) where
  len := by rw [List.length_append, List.length_append, List.length_replicate, List.length_replicate, G.len]
  all := G.all
  rep := fun i d e => by
    rcases app_get e with e | e
    · obtain ⟨v, s, r⟩ := G.rep i d e
      exact ⟨v, get_app s, Rep.to (fun a o x n => ⟨x, fun z => n (z.imp id (own_app G.len))⟩) d v r⟩
    · cases e
  own := fun i b d e => by
    rcases app_get e with e | e
    · obtain ⟨p, s, n, c⟩ := G.own i b d e
      exact ⟨p, get_app s, n, Cont.to (fun a o x n => ⟨x, fun z => n (z.imp id (own_app G.len))⟩) (fun _ _ _ x => x) c⟩
    · cases e
  inj := fun i j p q a b c d d' e1 e2 s1 s2 => by
    rcases app_get e1 with e1 | e1
    · rcases app_get e2 with e2 | e2
      · rw [List.getElem?_append_left (by rw [G.len]; exact get_lt e1)] at s1
        rw [List.getElem?_append_left (by rw [G.len]; exact get_lt e2)] at s2
        exact G.inj i j p q a b c d d' e1 e2 s1 s2
      · cases e2
    · cases e1
theorem slIn_o {b c : Bool} {d d' : D} (h : slIn b d = .o c d') : b = true ∧ c = true ∧ d' = d := by
  cases b with
  | true => cases h; exact ⟨rfl, rfl, rfl⟩
  | false => cases h
theorem slIn_v {b : Bool} {d d' : D} (h : slIn b d = .v d') : b = false ∧ d' = d := by
  cases b with
  | true => cases h
  | false => cases h; exact ⟨rfl, rfl⟩
theorem back_to {vs : List V} {k : Nat} (hd : ds.length = io.length) (hv : vs.length = io.length) (G : Good K B H (vs.map some) (mkE io ds)) (G' : Good K B' H' σ' en') (bx : Bx B B' (vs.map some ++ List.replicate k none) (mkE io ds ++ List.replicate k .e) H)
    (st : Stp (vs.map some ++ List.replicate k none) (mkE io ds ++ List.replicate k .e) H σ' en' H') :
    Bx B B' (vs.map some) (mkE io ds) H ∧ Good K B' H' (vs.map some) (mkE io (outsOf io ds en')) ∧ Stp (vs.map some) (mkE io ds) H (vs.map some) (mkE io (outsOf io ds en')) H' ∧ ∀ a, Un B' H' (vs.map some) (mkE io (outsOf io ds en')) a → Un B' H' σ' en' a := by
  have hle : io.length ≤ en'.length := by
    rw [st.len, List.length_append, mkE_len hd]
    omega
  have ol := outs_len (en := en') hd hle
  have at_ : ∀ {i : Nat} {s : Sl}, (mkE io (outsOf io ds en'))[i]? = some s → ∃ b d s', io[i]? = some b ∧ ds[i]? = some d ∧ en'[i]? = some s' ∧ s = slIn b (pick b d s') := fun {i s} h => by
    obtain ⟨b, d, h1, h2, h3⟩ := mkE_get h
    have hi := get_lt h1
    obtain ⟨s', e'⟩ : ∃ s', en'[i]? = some s' := ⟨_, List.getElem?_eq_getElem (by omega)⟩
    have hdi : i < ds.length := by omega
    obtain ⟨d0, e0⟩ : ∃ d0, ds[i]? = some d0 := ⟨_, List.getElem?_eq_getElem hdi⟩
    have := outs_get h1 e0 e'
    rw [h2] at this
    cases this
    exact ⟨b, d0, s', h1, e0, e', h3⟩
  -- a lent one
  have lent : ∀ {i : Nat} {d : D}, io[i]? = some true → ds[i]? = some d → σ'[i]? = (vs.map some)[i]? ∧ ∃ d', en'[i]? = some (.o true d') := fun {i d} h1 h2 => by
    obtain ⟨q1, d', q2⟩ := st.pin i d (get_app (mkE_of h1 h2))
    refine ⟨?_, d', q2⟩
    rw [q1, List.getElem?_append_left]
    rw [List.length_map, hv]
    exact get_lt h1
  have lentO : ∀ {i : Nat} {b : Bool} {d : D}, (mkE io (outsOf io ds en'))[i]? = some (.o b d) → en'[i]? = some (.o true d) ∧ σ'[i]? = (vs.map some)[i]? := fun {i b d} e => by
    obtain ⟨b', d0, s', h1, h2, h3, h4⟩ := at_ e
    obtain ⟨z1, z2, z3⟩ := slIn_o h4.symm
    subst z1
    obtain ⟨q1, d', q2⟩ := lent h1 h2
    have ed : d = d' := by
      rw [z3]
      rw [h3] at q2
      cases q2
      rfl
    subst ed
    exact ⟨q2, q1⟩
  have ow : ∀ a, Own H' (vs.map some) (mkE io (outsOf io ds en')) a → Own H' σ' en' a := fun a h => by
    obtain ⟨i, b, d, p, e, s, r⟩ := h
    obtain ⟨q2, q1⟩ := lentO e
    exact ⟨i, true, d, p, q2, by rw [q1]; exact s, r⟩
  have un : ∀ a, Un B' H' (vs.map some) (mkE io (outsOf io ds en')) a → Un B' H' σ' en' a := fun a h => h.imp id (ow a)
  have oapp : ∀ {a}, Own H (vs.map some ++ List.replicate k none) (mkE io ds ++ List.replicate k .e) a → Own H (vs.map some) (mkE io ds) a := fun {a} h => own_app G.len h
  have oapp' : ∀ {a}, Own H (vs.map some) (mkE io ds) a → Own H (vs.map some ++ List.replicate k none) (mkE io ds ++ List.replicate k .e) a := fun {a} ⟨i, b, d, p, e, s, r⟩ => ⟨i, b, d, p, get_app e, get_app s, r⟩
  refine ⟨⟨bx.up, fun a h => ?_⟩, ?_, ?_, un⟩
  · rcases bx.new a h with q | q | q
    · exact .inl q
    · exact .inr (.inl q)
    · exact .inr (.inr (oapp q))
  · have t : ∀ a o, H a = some o → ¬ Un B H (vs.map some) (mkE io ds) a → H' a = some o ∧ ¬ Un B' H' (vs.map some) (mkE io (outsOf io ds en')) a := fun a o h n => by
      obtain ⟨q1, q2⟩ := stepTo st bx a o h fun z => n (z.imp id oapp)
      exact ⟨q1, fun z => q2 (un a z)⟩
    exact {
      len := by rw [List.length_map, hv, mkE_len ol]
      all := G'.all
      rep := fun i d e => by
        obtain ⟨b', d0, s', h1, h2, h3, h4⟩ := at_ e
        obtain ⟨z1, z2⟩ := slIn_v h4.symm
        subst z1
        have e0 : (mkE io ds)[i]? = some (.v d) := by
          rw [mkE_of h1 h2, z2]
          rfl
        obtain ⟨v, s, r⟩ := G.rep i d e0
        exact ⟨v, s, Rep.to t d v r⟩
      own := fun i b d e => by
        obtain ⟨b', d0, s', h1, h2, h3, h4⟩ := at_ e
        obtain ⟨z1, z2, z3⟩ := slIn_o h4.symm
        subst z1
        obtain ⟨q1, d', q2⟩ := lent h1 h2
        obtain ⟨p, s, n, c⟩ := G'.own i true d' q2
        have ed : d = d' := by
          rw [z3]
          rw [h3] at q2
          cases q2
          rfl
        subst ed
        exact ⟨p, by rw [← q1]; exact s, n, Cont.to (fun a o x n => ⟨x, fun z => n (un a z)⟩) (fun _ _ _ x => x) c⟩
      inj := fun i j p q a b c d d' e1 e2 s1 s2 => by
        obtain ⟨x1, y1⟩ := lentO e1
        obtain ⟨x2, y2⟩ := lentO e2
        exact G'.inj i j p q a true true d d' x1 x2 (by rw [y1]; exact s1) (by rw [y2]; exact s2) }
  · exact {
      len := by rw [mkE_len ol, mkE_len hd]
      fr := fun a o h n => st.fr a o h fun z => n (oapp z)
      al := st.al
      ow := fun a h => (st.ow a (ow a h)).imp oapp id
      of := fun a h => by
        obtain ⟨i, d, p, e, s, r⟩ := h
        obtain ⟨b', d0, s', h1, h2, h3, h4⟩ := at_ e
        obtain ⟨_, z2, _⟩ := slIn_o h4.symm
        cases z2
      pin := fun i d e => by
        refine ⟨rfl, ?_⟩
        obtain ⟨b, d0, h1, h2, h3⟩ := mkE_get e
        obtain ⟨z1, _, z3⟩ := slIn_o h3.symm
        subst z1
        obtain ⟨q1, d', q2⟩ := lent h1 h2
        exact ⟨_, mkE_of h1 (outs_get h1 h2 q2)⟩
      pb := fun i d e => by
        obtain ⟨b, d0, s', h1, h2, h3, h4⟩ := at_ e
        obtain ⟨z1, _, _⟩ := slIn_o h4.symm
        subst z1
        exact ⟨_, mkE_of h1 h2⟩
      pr := fun i d d' p a e1 e2 s r => by
        obtain ⟨x2, y2⟩ := lentO e2
        rcases st.pr i d d' p a (get_app e1) x2 (get_app s) r with q | q | q
        · exact .inl q
        · exact .inr (.inl q)
        · obtain ⟨i', d1, p1, f1, f2, _⟩ := q
          rcases app_get f1 with f1 | f1
          · obtain ⟨b2, d2, _, _, h4⟩ := mkE_get f1
            obtain ⟨_, z2, _⟩ := slIn_o h4.symm
            cases z2
          · cases f1 }
theorem ok_def {P : Program} {w : World} {mg : Str → Option Value} {base : Heap} {x qual : Str} {st : Stmt} {f : Addr} {fd : FuncData} {N ps : List Str} {lev k : Nat} {io : List Bool} {b : En → Fl} (F : Fun K x qual st f fd) (S : FnScope N ps (defScope st)) (hps : io.length = ps.length) (hN : N.length = ps.length + k)
    (hb : ∀ (cdv : Value) (A : Around) (outer : List Env) (s : Shared) (H : Hp) (E : XK), Room lev (A.deeper (PyProof.Rows.envOfC qual (defScope st) s.heap.objs.size f cdv)) → PSs (cxOf (L2.CX P w) P w K mg base N qual (defScope st) f cdv A outer s H E) (defBody st) (RdS K (fun cls d _ H => E cls d H) b)) :
    FnOk P w K mg base (L2.CX P w) (lev + 1) f fd ps (spD K io (runF io k b)) := by
  refine F.okX S (fun vs H Q E ⟨B, ds, h1, h2, _⟩ => h2.trans hps) fun cdv A outer s H vs Q E hr h => ⟨_, hb cdv A outer s H E hr, ?_⟩
  obtain ⟨B, ds, h1, h2, G, m⟩ := h
  have hst : L2.start N vs = vs.map some ++ List.replicate k none := by
    unfold L2.start
    rw [hN, h2, hps, Nat.add_sub_cancel_left]
  rw [hst]
  refine ⟨B, _, G.app k, ?_⟩
  unfold runF at m
  cases e : b (mkE io ds ++ List.replicate k .e) with
  | nx en' =>
    rw [e] at m
    intro σ' H' g s
    obtain ⟨b1, g1, s1, un⟩ := back_to h1 h2 G g (Bx.refl B _ _ H) s
    exact m .non H' ⟨B, b1, g1, fun _ => (by unfold Rep; rfl), fun z => (by cases z)⟩ s1
  | bk en' => rw [e] at m; exact m.elim
  | ct en' => rw [e] at m; exact m.elim
  | rt r en' =>
    rw [e] at m
    intro v σ' H' ⟨B', bx, g, ra, n⟩ s
    obtain ⟨b1, g1, s1, un⟩ := back_to h1 h2 G g bx s
    cases r with
    | sh d => exact m v H' ⟨B', b1, g1, fun _ => Rep.to (fun a o x n => ⟨x, fun z => n (un a z)⟩) _ _ ra, fun z => (by cases z)⟩ s1
    | fr d =>
      obtain ⟨p, e1, bp, c⟩ := ra
      refine m v H' ⟨B', b1, g1, fun z => (by cases z), fun _ => ⟨p, e1, fun a r => ⟨?_, bp a r⟩, Cont.to (fun a o x n => ⟨x, fun z => n (un a z)⟩) (fun _ _ _ x => x) c⟩⟩ s1
      rcases n p a e1 r with q | q
      · exact q
      · obtain ⟨i, d', p2, e2, s2, _⟩ := q
        rcases app_get e2 with e2 | e2
        · obtain ⟨b2, d2, _, _, h4⟩ := mkE_get e2
          obtain ⟨_, z2, _⟩ := slIn_o h4.symm
          cases z2
        · cases e2
    | sl i => exact m.elim
  | exc x en' =>
    rw [e] at m
    intro c od σ' H' ex g s
    obtain ⟨b1, g1, s1, un⟩ := back_to h1 h2 G g (Bx.refl B _ _ H) s
    exact m c od H' (ex.mono un) g1 s1
  | bad => rw [e] at m; exact m.elim
end
end PyD

namespace PyD
open PySem PySem.Spec L2
section
variable {K : PySem.W.Frag} {W : WX} {B B' B1 : Addr → Prop} {U U' : Addr → Prop} {H H' H1 : Hp} {σ σ' σ1 : L2.St} {en en' en1 : En} {d : D} {v : V} {i : Nat} {p : Addr} {io : List Bool} {ds : List D}
mutual
theorem Rep.flat (h : ∀ a vs, H a = some (.tup vs) → ¬ U a → ¬ U' a) : ∀ {d : D} {v : V}, flatD d = true → Rep K U H d v → Rep K U' H d v
  | .non, v, _, r => by unfold Rep at r ⊢; exact r
  | .bl _, v, _, r => by unfold Rep at r ⊢; exact r
  | .int _, v, _, r => by unfold Rep at r ⊢; exact r
  | .str _, v, _, r => by unfold Rep at r ⊢; exact r
  | .tup ds, v, f, r => by
    unfold Rep at r ⊢
    obtain ⟨a, vs, e, n, ha, q⟩ := r
    exact ⟨a, vs, e, h a vs ha n, ha, RepL.flat h (by unfold flatD at f; exact f) q⟩
  | .lst _, _, f, _ => by unfold flatD at f; cases f
  | .dic _, _, f, _ => by unfold flatD at f; cases f
  | .obj _ _, _, f, _ => by unfold flatD at f; cases f
  | .scr _, _, f, _ => by unfold flatD at f; cases f
  | .exn _ _, _, f, _ => by unfold flatD at f; cases f
  | .ow _, _, f, _ => by unfold flatD at f; cases f
theorem RepL.flat (h : ∀ a vs, H a = some (.tup vs) → ¬ U a → ¬ U' a) : ∀ {ds : List D} {vs : List V}, flatL ds = true → RepL K U H ds vs → RepL K U' H ds vs
  | [], vs, _, r => by unfold RepL at r ⊢; exact r
  | d :: ds, vs, f, r => by
    unfold RepL at r ⊢
    unfold flatL at f
    obtain ⟨f1, f2⟩ := Bool.and_eq_true_iff.mp f
    obtain ⟨v, us, e, q1, q2⟩ := r
    exact ⟨v, us, e, Rep.flat h f1 q1, RepL.flat h f2 q2⟩
end
theorem RepK.flat (h : ∀ a vs, H a = some (.tup vs) → ¬ U a → ¬ U' a) : ∀ {ds : List (Key × D)} {vs : List (Key × V)}, flatL (ds.map (·.2)) = true → RepK K U H ds vs → RepK K U' H ds vs
  | [], vs, _, r => by unfold RepK at r ⊢; exact r
  | (k, d) :: ds, vs, f, r => by
    unfold RepK at r ⊢
    rw [List.map_cons] at f
    unfold flatL at f
    obtain ⟨f1, f2⟩ := Bool.and_eq_true_iff.mp f
    obtain ⟨v, us, e, q1, q2⟩ := r
    exact ⟨v, us, e, Rep.flat h f1 q1, RepK.flat h f2 q2⟩
theorem RepF.flat (h : ∀ a vs, H a = some (.tup vs) → ¬ U a → ¬ U' a) : ∀ {ds : List (Str × D)} {vs : List (Str × V)}, flatL (ds.map (·.2)) = true → RepF K U H ds vs → RepF K U' H ds vs
  | [], vs, _, r => by unfold RepF at r ⊢; exact r
  | (k, d) :: ds, vs, f, r => by
    unfold RepF at r ⊢
    rw [List.map_cons] at f
    unfold flatL at f
    obtain ⟨f1, f2⟩ := Bool.and_eq_true_iff.mp f
    obtain ⟨v, us, e, q1, q2⟩ := r
    exact ⟨v, us, e, Rep.flat h f1 q1, RepF.flat h f2 q2⟩
theorem Cont.flat (h : ∀ a vs, H a = some (.tup vs) → ¬ U a → ¬ U' a) : ∀ {d : D}, flatC d = true → Cont K U H d p → Cont K U' H d p
  | .lst ds, f, ⟨vs, a, r⟩ => ⟨vs, a, RepL.flat h f r⟩
  | .dic ds, f, ⟨vs, a, r⟩ => ⟨vs, a, RepK.flat h f r⟩
  | .obj n ds, f, ⟨C, dx, vs, a, c, r⟩ => ⟨C, dx, vs, a, c, RepF.flat h f r⟩
  | .ow _, f, _ => by cases f
theorem argRs_len : ∀ {rs : List R} {vs : List V}, ArgRs K B σ en H rs vs → vs.length = rs.length
  | [], vs, h => by
    have h' : vs = [] := h
    rw [h'] <;> rfl
  | r :: rs, vs, ⟨v, us, e, _, h, _⟩ => by rw [e, List.length_cons, List.length_cons, argRs_len h]
theorem argRs_get : ∀ {rs : List R} {vs : List V} {i : Nat} {r : R}, ArgRs K B σ en H rs vs → rs[i]? = some r → ∃ v, vs[i]? = some v ∧ ArgR K B σ en H r v
  | [], vs, i, r, h, e => by cases e
  | r :: rs, vs, 0, _, ⟨v, us, e, h1, h2, _⟩, e1 => by
    cases e1
    exact ⟨v, by rw [e] <;> rfl, h1⟩
  | r :: rs, vs, i + 1, _, ⟨v, us, e, h1, h2, _⟩, e1 => by
    obtain ⟨v', q, r'⟩ := argRs_get (i := i) h2 e1
    exact ⟨v', by rw [e]; exact q, r'⟩
theorem frNs_get : ∀ {rs : List R} {vs : List V} {i : Nat} {r : R} {v : V}, frNs σ en H H' rs vs → rs[i]? = some r → vs[i]? = some v → frN σ en H H' r v
  | [], vs, i, r, v, h, e, _ => by cases e
  | r :: rs, [], i, _, v, h, _, e => by cases e
  | r :: rs, v :: vs, 0, _, _, h, e, e1 => by
    cases e
    cases e1
    exact h.1
  | r :: rs, v :: vs, i + 1, _, _, h, e, e1 => frNs_get (i := i) h.2 e e1
theorem rsls_len : ∀ {rs : List R} {ds : List D}, rsls en rs = some ds → ds.length = rs.length
  | [], ds, e => by cases e; rfl
  | r :: rs, ds, e => by
    unfold rsls at e
    cases q : rsl en r with
    | none => rw [q] at e; cases e
    | some d =>
      rw [q] at e
      dsimp only at e
      cases q2 : rsls en rs with
      | none => rw [q2] at e; cases e
      | some ds' =>
        rw [q2] at e
        cases e
        rw [List.length_cons, List.length_cons, rsls_len q2]
theorem rsls_get : ∀ {rs : List R} {ds : List D} {i : Nat} {d : D}, rsls en rs = some ds → ds[i]? = some d → ∃ r, rs[i]? = some r ∧ rsl en r = some d
  | [], ds, i, d, e, h => by cases e; cases h
  | r :: rs, ds, i, d, e, h => by
    unfold rsls at e
    cases q : rsl en r with
    | none => rw [q] at e; cases e
    | some d' =>
      rw [q] at e
      dsimp only at e
      cases q2 : rsls en rs with
      | none => rw [q2] at e; cases e
      | some ds' =>
        rw [q2] at e
        cases e
        cases i with
        | zero => cases h; exact ⟨r, rfl, q⟩
        | succ i => exact rsls_get (i := i) q2 h
theorem lentOk_len : ∀ {io : List Bool} {rs : List R}, lentOk io rs = true → rs.length = io.length
  | [], [], _ => rfl
  | [], _ :: _, h => by cases h
  | true :: io, [], h => by cases h
  | false :: io, [], h => by cases h
  | true :: io, .sl j :: rs, h => by rw [List.length_cons, List.length_cons, lentOk_len (io := io) h]
  | true :: io, .sh _ :: rs, h => by cases h
  | true :: io, .fr _ :: rs, h => by cases h
  | false :: io, r :: rs, h => by
    rw [List.length_cons, List.length_cons, lentOk_len (io := io) (rs := rs) (by cases r <;> exact h)]
theorem lentOk_get : ∀ {io : List Bool} {rs : List R} {i : Nat}, lentOk io rs = true → io[i]? = some true → ∃ j, rs[i]? = some (.sl j)
  | [], [], i, _, h => by cases h
  | [], _ :: _, i, h, _ => by cases h
  | true :: io, [], i, h, _ => by cases h
  | false :: io, [], i, h, _ => by cases h
  | true :: io, .sl j :: rs, 0, h, _ => ⟨j, rfl⟩
  | true :: io, .sl j :: rs, i + 1, h, e => lentOk_get (io := io) (i := i) h e
  | true :: io, .sh _ :: rs, i, h, _ => by cases h
  | true :: io, .fr _ :: rs, i, h, _ => by cases h
  | false :: io, r :: rs, 0, h, e => by cases e
  | false :: io, r :: rs, i + 1, h, e => lentOk_get (io := io) (rs := rs) (i := i) (by cases r <;> exact h) e
theorem slots_mem : ∀ {rs : List R} {i j : Nat}, rs[i]? = some (.sl j) → j ∈ slotsOf rs
  | [], i, j, h => by cases h
  | .sl k :: rs, 0, j, h => by
    cases h
    exact List.mem_cons_self
  | .sl k :: rs, i + 1, j, h => List.mem_cons_of_mem _ (slots_mem (rs := rs) (i := i) h)
  | .sh _ :: rs, 0, j, h => by cases h
  | .fr _ :: rs, 0, j, h => by cases h
  | .sh _ :: rs, i + 1, j, h => slots_mem (rs := rs) (i := i) h
  | .fr _ :: rs, i + 1, j, h => slots_mem (rs := rs) (i := i) h
theorem nodup_cons {i : Nat} {is : List Nat} (h : nodupB (i :: is) = true) : i ∉ is ∧ nodupB is = true := by
  unfold nodupB at h
  obtain ⟨h1, h2⟩ := Bool.and_eq_true_iff.mp h
  refine ⟨fun z => ?_, h2⟩
  rw [Bool.not_eq_true'] at h1
  have q : is.elem i = true := List.elem_eq_true_of_mem z
  rw [h1] at q
  cases q
theorem slots_inj : ∀ {rs : List R} {i k j : Nat}, nodupB (slotsOf rs) = true → rs[i]? = some (.sl j) → rs[k]? = some (.sl j) → i = k
  | [], i, k, j, _, h, _ => by cases h
  | .sl m :: rs, 0, 0, j, n, h, g => rfl
  | .sl m :: rs, 0, k + 1, j, n, h, g => by
    cases h
    exact absurd (slots_mem (rs := rs) (i := k) g) (nodup_cons n).1
  | .sl m :: rs, i + 1, 0, j, n, h, g => by
    cases g
    exact absurd (slots_mem (rs := rs) (i := i) h) (nodup_cons n).1
  | .sl m :: rs, i + 1, k + 1, j, n, h, g => by rw [slots_inj (rs := rs) (i := i) (k := k) (nodup_cons n).2 h g]
  | .sh _ :: rs, 0, k, j, n, h, g => by cases h
  | .fr _ :: rs, 0, k, j, n, h, g => by cases h
  | .sh _ :: rs, i + 1, 0, j, n, h, g => by cases g
  | .fr _ :: rs, i + 1, 0, j, n, h, g => by cases g
  | .sh _ :: rs, i + 1, k + 1, j, n, h, g => by rw [slots_inj (rs := rs) (i := i) (k := k) n h g]
  | .fr _ :: rs, i + 1, k + 1, j, n, h, g => by rw [slots_inj (rs := rs) (i := i) (k := k) n h g]
theorem borrows_no : ∀ {io : List Bool} {rs : List R} {i j : Nat}, borrows io rs = false → io[i]? = some false → rs[i]? = some (.sl j) → False
  | [], rs, i, j, _, h, _ => by cases h
  | b :: io, [], i, j, _, _, h => by cases h
  | false :: io, .sl m :: rs, i, j, n, _, _ => by cases n
  | true :: io, r :: rs, 0, j, n, h, _ => by cases h
  | true :: io, r :: rs, i + 1, j, n, h, g => borrows_no (io := io) (rs := rs) (i := i) (by cases r <;> exact n) h g
  | false :: io, .sh _ :: rs, 0, j, n, _, h => by cases h
  | false :: io, .fr _ :: rs, 0, j, n, _, h => by cases h
  | false :: io, .sh _ :: rs, i + 1, j, n, h, g => borrows_no (io := io) (rs := rs) (i := i) n h g
  | false :: io, .fr _ :: rs, i + 1, j, n, h, g => borrows_no (io := io) (rs := rs) (i := i) n h g
theorem putBack_len : ∀ {io : List Bool} {rs : List R} {outs : List D} {en : En}, (putBack io rs outs en).length = en.length
  | [], rs, outs, en => by cases rs <;> cases outs <;> rfl
  | true :: io, [], outs, en => by cases outs <;> rfl
  | false :: io, [], outs, en => by cases outs <;> rfl
  | true :: io, .sh _ :: rs, [], en => rfl
  | true :: io, .fr _ :: rs, [], en => rfl
  | true :: io, .sl _ :: rs, [], en => rfl
  | false :: io, r :: rs, [], en => by cases r <;> rfl
  | true :: io, .sl j :: rs, d :: outs, en => by
    show (putBack io rs outs _).length = _
    rw [putBack_len]
    split
    · exact List.length_set
    · rfl
  | true :: io, .sh _ :: rs, d :: outs, en => putBack_len (io := io)
  | true :: io, .fr _ :: rs, d :: outs, en => putBack_len (io := io)
  | false :: io, r :: rs, d :: outs, en => by cases r <;> exact putBack_len (io := io)
def SlSame (s s' : Sl) : Prop := s' = s ∨ ∃ f d d', s = .o f d ∧ s' = .o f d'
theorem SlSame.trans {s t u : Sl} (a : SlSame s t) (b : SlSame t u) : SlSame s u := by
  rcases a with rfl | ⟨f, d, d', rfl, rfl⟩
  · exact b
  · rcases b with rfl | ⟨g, x, x', e, rfl⟩
    · exact .inr ⟨f, d, d', rfl, rfl⟩
    · cases e
      exact .inr ⟨f, d, x', rfl, rfl⟩
theorem set_same {j : Nat} {d : D} {s : Sl} (e : en[i]? = some s) : ∃ s', (match en[j]? with
    | some (.o f _) => en.set j (.o f d)
    | _ => en)[i]? = some s' ∧ SlSame s s' := by
  split
  · rename_i f x q
    by_cases z : j = i
    · subst z
      rw [e] at q
      cases q
      exact ⟨.o f d, by rw [List.getElem?_set, if_pos rfl, if_pos (get_lt e)], .inr ⟨f, x, d, rfl, rfl⟩⟩
    · exact ⟨s, by rw [List.getElem?_set_ne z]; exact e, .inl rfl⟩
  · exact ⟨s, e, .inl rfl⟩
theorem putBack_get : ∀ {io : List Bool} {rs : List R} {outs : List D} {en : En} {i : Nat} {s : Sl}, en[i]? = some s → ∃ s', (putBack io rs outs en)[i]? = some s' ∧ SlSame s s'
  | [], rs, outs, en, i, s, e => ⟨s, by cases rs <;> cases outs <;> exact e, .inl rfl⟩
  | true :: io, [], outs, en, i, s, e => ⟨s, by cases outs <;> exact e, .inl rfl⟩
  | false :: io, [], outs, en, i, s, e => ⟨s, by cases outs <;> exact e, .inl rfl⟩
  | true :: io, .sh _ :: rs, [], en, i, s, e => ⟨s, e, .inl rfl⟩
  | true :: io, .fr _ :: rs, [], en, i, s, e => ⟨s, e, .inl rfl⟩
  | true :: io, .sl _ :: rs, [], en, i, s, e => ⟨s, e, .inl rfl⟩
  | false :: io, r :: rs, [], en, i, s, e => ⟨s, by cases r <;> exact e, .inl rfl⟩
  | true :: io, .sl j :: rs, d :: outs, en, i, s, e => by
    obtain ⟨s1, e1, q1⟩ := set_same (j := j) (d := d) e
    obtain ⟨s2, e2, q2⟩ := putBack_get (io := io) (rs := rs) (outs := outs) e1
    exact ⟨s2, e2, q1.trans q2⟩
  | true :: io, .sh _ :: rs, d :: outs, en, i, s, e => putBack_get (io := io) e
  | true :: io, .fr _ :: rs, d :: outs, en, i, s, e => putBack_get (io := io) e
  | false :: io, r :: rs, d :: outs, en, i, s, e => by cases r <;> exact putBack_get (io := io) e
theorem putBack_other : ∀ {io : List Bool} {rs : List R} {outs : List D} {en : En} {k : Nat}, (∀ i : Nat, io[i]? = some true → rs[i]? ≠ some (R.sl k)) → (putBack io rs outs en)[k]? = en[k]?
  | [], rs, outs, en, k, h => by cases rs <;> cases outs <;> rfl
  | true :: io, [], outs, en, k, h => by cases outs <;> rfl
  | false :: io, [], outs, en, k, h => by cases outs <;> rfl
  | true :: io, .sh _ :: rs, [], en, k, h => rfl
  | true :: io, .fr _ :: rs, [], en, k, h => rfl
  | true :: io, .sl _ :: rs, [], en, k, h => rfl
  | false :: io, r :: rs, [], en, k, h => by cases r <;> rfl
  | true :: io, .sl j :: rs, d :: outs, en, k, h => by
    show (putBack io rs outs _)[k]? = _
    rw [putBack_other (io := io) (fun i => h (i + 1))]
    split
    · rw [List.getElem?_set_ne]
      intro z
      subst z
      exact h 0 rfl rfl
    · rfl
  | true :: io, .sh _ :: rs, d :: outs, en, k, h => putBack_other (io := io) (fun i => h (i + 1))
  | true :: io, .fr _ :: rs, d :: outs, en, k, h => putBack_other (io := io) (fun i => h (i + 1))
  | false :: io, r :: rs, d :: outs, en, k, h => by cases r <;> exact putBack_other (io := io) (fun i => h (i + 1))
theorem putBack_lent : ∀ {io : List Bool} {rs : List R} {outs : List D} {en : En} {i k : Nat} {f : Bool} {d0 d : D}, nodupB (slotsOf rs) = true → io[i]? = some true → rs[i]? = some (.sl k) → outs[i]? = some d → en[k]? = some (.o f d0) →
    (putBack io rs outs en)[k]? = some (.o f d)
  | [], rs, outs, en, i, k, f, d0, d, n, h, _, _, _ => by cases h
  | b :: io, [], outs, en, i, k, f, d0, d, n, _, h, _, _ => by cases h
  | b :: io, r :: rs, [], en, i, k, f, d0, d, n, _, _, h, _ => by cases h
  | true :: io, .sl j :: rs, d' :: outs, en, 0, k, f, d0, d, n, h1, h2, h3, h4 => by
    cases h2
    cases h3
    show (putBack io rs outs _)[j]? = _
    rw [putBack_other (io := io) (fun i _ z => (nodup_cons n).1 (slots_mem z)), h4]
    show (en.set j (.o f d'))[j]? = _
    rw [List.getElem?_set, if_pos rfl, if_pos (get_lt h4)]
  | true :: io, .sl j :: rs, d' :: outs, en, i + 1, k, f, d0, d, n, h1, h2, h3, h4 => by
    have ne : j ≠ k := fun z => by
      subst z
      exact (nodup_cons n).1 (slots_mem (rs := rs) (i := i) h2)
    refine putBack_lent (io := io) (rs := rs) (outs := outs) (i := i) (d0 := d0) (nodup_cons n).2 h1 h2 h3 ?_
    split
    · rw [List.getElem?_set_ne ne]
      exact h4
    · exact h4
  | true :: io, .sh _ :: rs, d' :: outs, en, 0, k, f, d0, d, n, h1, h2, h3, h4 => by cases h2
  | true :: io, .fr _ :: rs, d' :: outs, en, 0, k, f, d0, d, n, h1, h2, h3, h4 => by cases h2
  | true :: io, .sh _ :: rs, d' :: outs, en, i + 1, k, f, d0, d, n, h1, h2, h3, h4 => putBack_lent (io := io) (rs := rs) (outs := outs) (i := i) (d0 := d0) n h1 h2 h3 h4
  | true :: io, .fr _ :: rs, d' :: outs, en, i + 1, k, f, d0, d, n, h1, h2, h3, h4 => putBack_lent (io := io) (rs := rs) (outs := outs) (i := i) (d0 := d0) n h1 h2 h3 h4
  | false :: io, r :: rs, d' :: outs, en, 0, k, f, d0, d, n, h1, h2, h3, h4 => by cases h1
  | false :: io, r :: rs, d' :: outs, en, i + 1, k, f, d0, d, n, h1, h2, h3, h4 => by
    have n' : nodupB (slotsOf rs) = true := by
      cases r with
      | sl m => exact (nodup_cons n).2
      | sh _ => exact n
      | fr _ => exact n
    cases r <;> exact putBack_lent (io := io) (rs := rs) (outs := outs) (i := i) (d0 := d0) n' h1 h2 h3 h4
end
end PyD

namespace PyD
open PySem PySem.Spec L2
section
variable {K : PySem.W.Frag} {W : WX} {B B' B1 : Addr → Prop} {U U' : Addr → Prop} {H H' H1 : Hp} {σ σ' σ1 : L2.St} {en en' en1 : En} {d : D} {v : V} {i : Nat} {p : Addr} {io : List Bool} {ds : List D} {φ : List D → Out} {fs : M (List R)} {Q : VK}
theorem good_outs {vs : List V} {outs : List D} (hv : vs.length = io.length) (G : Good K B H (vs.map some) (mkE io outs)) : io.length ≤ outs.length := by
  have h := G.len
  rw [List.length_map, hv] at h
  have : ∀ (io : List Bool) (ds : List D), (mkE io ds).length = min io.length ds.length := fun io => by
    induction io with
    | nil => intro ds; simp [mkE]
    | cons b io ih =>
      intro ds
      cases ds with
      | nil => simp [mkE]
      | cons d ds => simp [mkE, ih]
  rw [this] at h
  omega
def isRoot (r : R) : Bool := match r with
  | .sh _ => false
  | _ => true
def Ro (H : Hp) (rs : List R) (ds : List D) (vs : List V) (a : Addr) : Prop := ∃ (i : Nat) (r : R) (d : D) (p : Addr), rs[i]? = some r ∧ isRoot r = true ∧ ds[i]? = some d ∧ vs[i]? = some (V.ref p) ∧ Rch H d p a
theorem callCore {rs : List R} {vs : List V} {E : XK} {Q : VK} (G1 : Good K B1 H1 σ en1) (ra : ArgRs K B1 σ en1 H1 rs vs) (e2 : rsls en1 rs = some ds) (e3 : (lentOk io rs && nodupB (slotsOf rs)) = true)
    (m : match φ ds with
      | .ret b d outs => (!(borrows io rs) || (!(io.elem true) && resFlat b d)) = true ∧ ∀ v H2 B3, (∀ a, B1 a → ¬ Ro H1 rs ds vs a → B3 a) → (∀ a, B3 a → (B1 a ∧ ¬ Ro H1 rs ds vs a) ∨ H1 a = none) → Good K B3 H2 σ (putBack io rs outs en1) → Stp σ en1 H1 σ (putBack io rs outs en1) H2 →
          ArgR K B3 σ (putBack io rs outs en1) H2 (mkR b d) v → (∀ a, RcR H2 (mkR b d) v a → H1 a = none) → Q v H2
      | .exc x outs => (!(borrows io rs) || (!(io.elem true) && excFlat x)) = true ∧ ∀ c od H2 B3, (∀ a, B1 a → ¬ Ro H1 rs ds vs a → B3 a) → (∀ a, B3 a → (B1 a ∧ ¬ Ro H1 rs ds vs a) ∨ H1 a = none) → ExR K (Un B3 H2 σ (putBack io rs outs en1)) H2 x c od → Good K B3 H2 σ (putBack io rs outs en1) → Stp σ en1 H1 σ (putBack io rs outs en1) H2 → E c od H2
      | .bad => False) : spD K io φ vs H1 Q E := by
  obtain ⟨lk, nd⟩ := Bool.and_eq_true_iff.mp e3
  have hrl : rs.length = io.length := lentOk_len lk
  have hdl : ds.length = io.length := (rsls_len e2).trans hrl
  have hvl : vs.length = io.length := (argRs_len ra).trans hrl
  -- places
  have at_ : ∀ {i : Nat} {b : Bool} {d : D}, io[i]? = some b → ds[i]? = some d → ∃ (r : R) (v : V), rs[i]? = some r ∧ vs[i]? = some v ∧ ArgR K B1 σ en1 H1 r v ∧ rsl en1 r = some d := fun {i b d} h1 h2 => by
    obtain ⟨r, q1, q2⟩ := rsls_get e2 h2
    obtain ⟨v, q3, q4⟩ := argRs_get ra q1
    exact ⟨r, v, q1, q3, q4, q2⟩
  have slAt : ∀ {j : Nat} {d : D}, rsl en1 (.sl j) = some d → ∃ (f : Bool) (p : Addr), en1[j]? = some (Sl.o f d) ∧ σ[j]? = some (some (.ref p)) ∧ (∀ a, Rch H1 d p a → ¬ B1 a) ∧ Cont K (Un B1 H1 σ en1) H1 d p := fun {j d} h => by
    unfold rsl at h
    dsimp only at h
    cases q : en1[j]? with
    | none => rw [q] at h; cases h
    | some s =>
      rw [q] at h
      cases s with
      | e => cases h
      | v x => cases h
      | o f x =>
        cases h
        obtain ⟨p, s1, n1, c1⟩ := G1.own j f d q
        exact ⟨f, p, rfl, s1, n1, c1⟩
  -- a lent root
  have lentAt : ∀ {i : Nat} {d : D}, io[i]? = some true → ds[i]? = some d → ∃ (j : Nat) (f : Bool) (p : Addr), rs[i]? = some (R.sl j) ∧ en1[j]? = some (Sl.o f d) ∧ σ[j]? = some (some (V.ref p)) ∧ vs[i]? = some (V.ref p) ∧ (∀ a, Rch H1 d p a → ¬ B1 a) ∧ Cont K (Un B1 H1 σ en1) H1 d p := fun {i d} h1 h2 => by
    obtain ⟨r, v, q1, q2, q3, q4⟩ := at_ h1 h2
    obtain ⟨j, q5⟩ := lentOk_get lk h1
    rw [q1] at q5
    cases q5
    obtain ⟨f, p, g1, g2, g3, g4⟩ := slAt q4
    have q3' : σ[j]? = some (some v) := q3
    rw [g2] at q3'
    cases q3'
    exact ⟨j, f, p, q1, g1, g2, q2, g3, g4⟩
  have ownC : ∀ {a : Addr}, Own H1 (vs.map some) (mkE io ds) a → ∃ (i j : Nat) (f : Bool) (d : D) (p : Addr), io[i]? = some true ∧ ds[i]? = some d ∧ rs[i]? = some (R.sl j) ∧ en1[j]? = some (Sl.o f d) ∧ σ[j]? = some (some (V.ref p)) ∧ vs[i]? = some (V.ref p) ∧ Rch H1 d p a := fun {a} h => by
    obtain ⟨i, b, d, p0, q1, q2, rr⟩ := h
    obtain ⟨b', d', g1, g2, g3⟩ := mkE_get q1
    obtain ⟨z1, _, z2⟩ := slIn_o g3.symm
    subst z1
    subst z2
    obtain ⟨j, f, p, t1, t2, t3, t4, _, _⟩ := lentAt g1 g2
    rw [List.getElem?_map, t4] at q2
    cases q2
    exact ⟨i, j, f, _, p0, g1, g2, t1, t2, t3, t4, rr⟩
  let Bc : Addr → Prop := fun a => Un B1 H1 σ en1 a ∧ ¬ Ro H1 rs ds vs a
  have unC : ∀ {a : Addr}, Un Bc H1 (vs.map some) (mkE io ds) a → Un B1 H1 σ en1 a := fun {a} h => by
    rcases h with h | h
    · exact h.1
    · obtain ⟨i, j, f, d, p, h1, h2, h3, h4, h5, h6, h7⟩ := ownC h
      exact .inr ⟨j, f, d, p, h4, h5, h7⟩
  have tC : ∀ a o, H1 a = some o → ¬ Un B1 H1 σ en1 a → H1 a = some o ∧ ¬ Un Bc H1 (vs.map some) (mkE io ds) a := fun a o x n => ⟨x, fun z => n (unC z)⟩
  have GC : Good K Bc H1 (vs.map some) (mkE io ds) := {
    len := by rw [List.length_map, hvl, mkE_len hdl]
    all := fun a h => G1.unAt h.1
    rep := fun i d e => by
      obtain ⟨b, d', h1, h2, h3⟩ := mkE_get e
      obtain ⟨z1, z2⟩ := slIn_v h3.symm
      subst z1
      subst z2
      obtain ⟨r, v, q1, q2, q3, q4⟩ := at_ h1 h2
      refine ⟨v, by rw [List.getElem?_map, q2] <;> rfl, ?_⟩
      cases r with
      | sh x =>
        cases q4
        exact Rep.to tC _ _ q3
      | fr x =>
        cases q4
        obtain ⟨p, e4, bp, c⟩ := q3
        subst e4
        refine Cont.rep (fun a r z => ?_) (Cont.to tC (fun _ _ _ x => x) c)
        rcases z with z | z
        · exact z.2 ⟨i, _, _, p, q1, rfl, h2, q2, r⟩
        · obtain ⟨i', j, f, d2, p2, g1, g2, g3, g4, g5, g6, g7⟩ := ownC z
          exact G1.ownNB ⟨j, f, d2, p2, g4, g5, g7⟩ (bp a r)
      | sl j =>
        obtain ⟨f, p, g1, g2, g3, g4⟩ := slAt q4
        have q3' : σ[j]? = some (some v) := q3
        rw [g2] at q3'
        cases q3'
        refine Cont.rep (fun a r z => ?_) (Cont.to tC (fun _ _ _ x => x) g4)
        rcases z with z | z
        · exact z.2 ⟨i, _, _, p, q1, rfl, h2, q2, r⟩
        · obtain ⟨i', j', f', d2, p2, t1, t2, t3, t4, t5, t6, t7⟩ := ownC z
          have ej : j = j' := G1.inj j j' p p2 a f f' _ _ g1 t4 g2 t5 r t7
          subst ej
          have ei := slots_inj nd q1 t3
          subst ei
          rw [h1] at t1
          cases t1
    own := fun i b d e => by
      obtain ⟨b', d', h1, h2, h3⟩ := mkE_get e
      obtain ⟨z1, _, z2⟩ := slIn_o h3.symm
      subst z1
      subst z2
      obtain ⟨j, f, p, t1, t2, t3, t4, t5, t6⟩ := lentAt h1 h2
      exact ⟨p, by rw [List.getElem?_map, t4] <;> rfl, fun a r z => z.2 ⟨i, _, _, p, t1, rfl, h2, t4, r⟩, Cont.to tC (fun _ _ _ x => x) t6⟩
    inj := fun i k p q a b c d d' e1 e2 s1 s2 r1 r2 => by
      obtain ⟨b1, d1, h1, h2, h3⟩ := mkE_get e1
      obtain ⟨z1, _, z2⟩ := slIn_o h3.symm
      subst z1
      obtain ⟨b2, d2, g1, g2, g3⟩ := mkE_get e2
      obtain ⟨y1, _, y2⟩ := slIn_o g3.symm
      subst y1
      subst z2
      subst y2
      obtain ⟨j, f, p1, t1, t2, t3, t4, t5, t6⟩ := lentAt h1 h2
      obtain ⟨j', f', p2, u1, u2, u3, u4, u5, u6⟩ := lentAt g1 g2
      rw [List.getElem?_map, t4] at s1
      cases s1
      rw [List.getElem?_map, u4] at s2
      cases s2
      have ej := G1.inj j j' _ _ a f f' _ _ t2 u2 t3 u3 r1 r2
      subst ej
      exact slots_inj nd t1 u1 }
  refine ⟨Bc, ds, hdl, hvl, GC, ?_⟩
  -- the caller's slots behind the call
  have core : ∀ (outs : List D) (B2 : Addr → Prop) (H2 : Hp) (nw : Addr → Prop), (∀ a, nw a → B2 a ∧ H1 a = none) → (borrows io rs = true → io.elem true = false) → Bx Bc B2 (vs.map some) (mkE io ds) H1 → Good K B2 H2 (vs.map some) (mkE io outs) → Stp (vs.map some) (mkE io ds) H1 (vs.map some) (mkE io outs) H2 →
      Good K (fun a => (B1 a ∧ ¬ Ro H1 rs ds vs a) ∨ nw a) H2 σ (putBack io rs outs en1) ∧ Stp σ en1 H1 σ (putBack io rs outs en1) H2 ∧
      (∀ a o, H2 a = some o → ¬ Un B2 H2 (vs.map some) (mkE io outs) a → Un (fun a => (B1 a ∧ ¬ Ro H1 rs ds vs a) ∨ nw a) H2 σ (putBack io rs outs en1) a → borrows io rs = true ∧ (∀ xs, o ≠ .tup xs) ∧ ∀ xs, o ≠ .xd xs) := by
    intro outs B2 H2 nw hnw hbo bx2 G2 st2
    have hol : io.length ≤ outs.length := good_outs hvl G2
    have back : ∀ {k : Nat} {s : Sl}, (putBack io rs outs en1)[k]? = some s → ∃ s0, en1[k]? = some s0 ∧ SlSame s0 s := fun {k s} q1 => by
      have hk : k < en1.length := by
        have := get_lt q1
        rw [putBack_len] at this
        exact this
      obtain ⟨s', g1, g2⟩ := putBack_get (io := io) (rs := rs) (outs := outs) (List.getElem?_eq_getElem hk)
      rw [q1] at g1
      cases g1
      exact ⟨_, List.getElem?_eq_getElem hk, g2⟩
    have backO : ∀ {k : Nat} {f : Bool} {d : D}, (putBack io rs outs en1)[k]? = some (.o f d) → ∃ d0, en1[k]? = some (Sl.o f d0) := fun {k f d} q1 => by
      obtain ⟨s0, h1, h2⟩ := back q1
      rcases h2 with h2 | ⟨f', d0, d1, h2, h3⟩
      · exact ⟨d, by rw [h1, h2]⟩
      · cases h3
        exact ⟨d0, by rw [h1, h2]⟩
    -- the roots that may be changed
    have keep : ∀ a o, H1 a = some o → ¬ Own H1 (vs.map some) (mkE io ds) a → H2 a = some o := st2.fr
    have keepS : ∀ {k : Nat} {f : Bool} {d : D} {p : Addr}, (¬ ∃ i : Nat, io[i]? = some true ∧ rs[i]? = some (R.sl k)) → en1[k]? = some (.o f d) → σ[k]? = some (some (.ref p)) → ∀ a o, Rch H1 d p a → H1 a = some o → H2 a = some o := fun {k f d p} nl e s a o r x => keep a o x fun z => by
      obtain ⟨i', j, f', d2, p2, g1, g2, g3, g4, g5, g6, g7⟩ := ownC z
      have ej := G1.inj k j p p2 a f f' _ _ e g4 s g5 r g7
      subst ej
      exact nl ⟨i', g1, g3⟩
    -- a slot's thing behind the call
    have slot2 : ∀ {k : Nat} {f : Bool} {d : D} {p a : Addr}, (putBack io rs outs en1)[k]? = some (.o f d) → σ[k]? = some (some (.ref p)) → Rch H2 d p a →
        (∃ (i : Nat) (dd : D), io[i]? = some true ∧ rs[i]? = some (R.sl k) ∧ outs[i]? = some d ∧ vs[i]? = some (V.ref p) ∧ ds[i]? = some dd ∧ en1[k]? = some (.o f dd)) ∨
        ((¬ ∃ i : Nat, io[i]? = some true ∧ rs[i]? = some (R.sl k)) ∧ en1[k]? = some (.o f d) ∧ Rch H1 d p a) := fun {k f d p a} e s r => by
      by_cases hl : ∃ i : Nat, io[i]? = some true ∧ rs[i]? = some (R.sl k)
      · obtain ⟨i, l1, l2⟩ := hl
        have hil : i < io.length := get_lt l1
        obtain ⟨d', hd'⟩ : ∃ d', outs[i]? = some d' := ⟨_, List.getElem?_eq_getElem (by omega)⟩
        obtain ⟨dd, hdd⟩ : ∃ d, ds[i]? = some d := ⟨_, List.getElem?_eq_getElem (by rw [hdl]; exact hil)⟩
        obtain ⟨j, f', p', t1, t2, t3, t4, t5, t6⟩ := lentAt l1 hdd
        rw [l2] at t1
        cases t1
        rw [s] at t3
        cases t3
        have ep := putBack_lent nd l1 l2 hd' t2
        rw [e] at ep
        cases ep
        exact .inl ⟨i, dd, l1, l2, hd', t4, hdd, t2⟩
      · have eo := putBack_other (io := io) (rs := rs) (outs := outs) (en := en1) (k := k) (fun i l1 l2 => hl ⟨i, l1, l2⟩)
        rw [eo] at e
        obtain ⟨p', s', _, c⟩ := G1.own k f d e
        rw [s] at s'
        cases s'
        exact .inr ⟨hl, e, (c.rch (keepS hl e s) a).mp r⟩
    have ownP : ∀ {a : Addr}, Own H2 σ (putBack io rs outs en1) a → (Own H2 (vs.map some) (mkE io outs) a ∧ (Own H1 σ en1 a ∨ H1 a = none)) ∨ (∃ (k : Nat) (f : Bool) (d : D) (p : Addr), (¬ ∃ i : Nat, io[i]? = some true ∧ rs[i]? = some (R.sl k)) ∧ en1[k]? = some (.o f d) ∧ σ[k]? = some (some (.ref p)) ∧ Rch H1 d p a) := fun {a} h => by
      obtain ⟨k, f, d, p, q1, q2, r⟩ := h
      rcases slot2 q1 q2 r with ⟨i, dd, l1, l2, l3, l4, l5, l6⟩ | ⟨nl, e, r'⟩
      · have oc : Own H2 (vs.map some) (mkE io outs) a := ⟨i, true, d, p, mkE_of l1 l3, by rw [List.getElem?_map, l4] <;> rfl, r⟩
        refine .inl ⟨oc, ?_⟩
        rcases st2.ow a oc with z | z
        · obtain ⟨i', j, f', d2, p2, g1, g2, g3, g4, g5, g6, g7⟩ := ownC z
          exact .inl ⟨j, f', d2, p2, g4, g5, g7⟩
        · exact .inr z
      · exact .inr ⟨k, f, d, p, nl, e, q2, r'⟩
    have ownP1 : ∀ {a : Addr}, Own H2 σ (putBack io rs outs en1) a → Own H1 σ en1 a ∨ H1 a = none := fun {a} h => by
      rcases ownP h with ⟨_, z⟩ | ⟨k, f, d, p, _, e, s, r⟩
      · exact z
      · exact .inl ⟨k, f, d, p, e, s, r⟩
    have t12 : ∀ a o, H1 a = some o → ¬ Un B1 H1 σ en1 a → H2 a = some o ∧ ¬ Un (fun a => (B1 a ∧ ¬ Ro H1 rs ds vs a) ∨ nw a) H2 σ (putBack io rs outs en1) a := fun a o x n => by
      refine ⟨keep a o x fun z => n (unC (.inr z)), fun z => ?_⟩
      rcases z with (z | z) | z
      · exact n (.inl z.1)
      · exact absurd (hnw a z).2 (by rw [x]; simp)
      · rcases ownP1 z with z | z
        · exact n (.inr z)
        · rw [x] at z; cases z
    have out1 : ∀ a o, H2 a = some o → ¬ Un B2 H2 (vs.map some) (mkE io outs) a → Un (fun a => (B1 a ∧ ¬ Ro H1 rs ds vs a) ∨ nw a) H2 σ (putBack io rs outs en1) a → borrows io rs = true ∧ (∀ xs, o ≠ .tup xs) ∧ ∀ xs, o ≠ .xd xs := by
      intro a o ho n z
      rcases z with (z | z) | z
      · exact absurd (.inl (bx2.up a ⟨.inl z.1, z.2⟩)) n
      · exact absurd (.inl (hnw a z).1) n
      · rcases ownP z with ⟨z, _⟩ | ⟨k, f, d, p, nl, e, s, rr⟩
        · exact absurd (.inr z) n
        by_cases hm : Ro H1 rs ds vs a
        · -- one of the arguments
          obtain ⟨i, r, dm, pm, q1, ir, hdm, hi, rm⟩ := hm
          have hil : i < io.length := by rw [← hvl]; exact get_lt hi
          obtain ⟨b, hb⟩ : ∃ b, io[i]? = some b := ⟨_, List.getElem?_eq_getElem hil⟩
          obtain ⟨r', v, q1', q2, q3, q4⟩ := at_ hb hdm
          rw [q1] at q1'
          cases q1'
          rw [hi] at q2
          cases q2
          cases r with
          | sh x => cases ir
          | fr x =>
            exfalso
            cases q4
            obtain ⟨p', e5, bp, _⟩ := q3
            cases e5
            exact G1.ownNB ⟨k, f, d, p, e, s, rr⟩ (bp a rm)
          | sl j =>
            obtain ⟨f', p', g1, g2, g3, g4⟩ := slAt q4
            have q3' : σ[j]? = some (some (.ref pm)) := q3
            rw [g2] at q3'
            cases q3'
            have ej := G1.inj k j p _ a f f' _ _ e g1 s g2 rr rm
            subst ej
            cases b with
            | true => exact (nl ⟨i, hb, q1⟩).elim
            | false =>
              cases hbr : borrows io rs with
              | false => exact (borrows_no hbr hb q1).elim
              | true =>
                obtain ⟨o1, ho1, kd⟩ := g4.atK rm
                have ho2 := keepS nl g1 g2 a o1 rm ho1
                have eo : o = o1 := Option.some.inj (ho.symm.trans ho2)
                subst eo
                exact ⟨rfl, kd⟩
        · exact absurd (.inl (bx2.up a ⟨.inr ⟨k, f, d, p, e, s, rr⟩, hm⟩)) n
    have notB' : ∀ {k : Nat} {f : Bool} {d : D} {p a : Addr}, (putBack io rs outs en1)[k]? = some (.o f d) → σ[k]? = some (some (.ref p)) → Rch H2 d p a → ¬ ((B1 a ∧ ¬ Ro H1 rs ds vs a) ∨ nw a) := fun {k f d p a} h1 h2 r z => by
      rcases slot2 h1 h2 r with ⟨i, dd, l1, l2, l3, l4, l5, l6⟩ | ⟨nl, e, r'⟩
      · have oc : Own H2 (vs.map some) (mkE io outs) a := ⟨i, true, d, p, mkE_of l1 l3, by rw [List.getElem?_map, l4] <;> rfl, r⟩
        rcases z with z | z
        · exact G2.ownNB oc (bx2.up a ⟨.inl z.1, z.2⟩)
        · exact G2.ownNB oc (hnw a z).1
      · obtain ⟨p', s2, n2, c2⟩ := G1.own k f d e
        rw [h2] at s2
        cases s2
        rcases z with z | z
        · exact n2 a r' z.1
        · obtain ⟨o, ho⟩ := c2.atR r'
          have := (hnw a z).2
          rw [ho] at this
          cases this
    refine ⟨?_, ?_, out1⟩
    · exact {
        len := by rw [putBack_len]; exact G1.len
        all := fun a h => by
          rcases h with h | h
          · exact st2.al a (G1.all a h.1)
          · exact G2.all a (hnw a h).1
        rep := fun k d e => by
          obtain ⟨s0, h1, h2⟩ := back e
          rcases h2 with h2 | ⟨f', d0, d1, h2, h3⟩
          · subst h2
            obtain ⟨v, s, r⟩ := G1.rep k d h1
            exact ⟨v, s, Rep.to t12 d v r⟩
          · cases h3
        own := fun k f d e => by
          obtain ⟨d0, h1⟩ := backO e
          obtain ⟨p, s1, n1, c1⟩ := G1.own k f d0 h1
          refine ⟨p, s1, fun a r => notB' e s1 r, ?_⟩
          rcases slot2 e s1 Rch.self with ⟨i, dd, l1, l2, l3, l4, l5, l6⟩ | ⟨nl, e', r'⟩
          · obtain ⟨p2, s2, n2, c2⟩ := G2.own i true d (mkE_of l1 l3)
            rw [List.getElem?_map, l4] at s2
            cases s2
            refine Cont.to (fun a o x n => ⟨x, fun z => ?_⟩) (fun _ _ _ x => x) c2
            have hz := (out1 a o x n z).1
            have := hbo hz
            have hm2 : io.elem true = true := List.elem_eq_true_of_mem (List.mem_of_getElem? l1)
            rw [this] at hm2
            cases hm2
          · rw [h1] at e'
            cases e'
            exact Cont.to t12 (keepS nl h1 s1) c1
        inj := fun k l p q a b c d d' e1 e2 s1 s2 r1 r2 => by
          have lentNot : ∀ {k l : Nat} {f c : Bool} {d d' : D} {p q : Addr} {i : Nat}, io[i]? = some true → outs[i]? = some d → vs[i]? = some (V.ref p) → Rch H2 d p a → (¬ ∃ i : Nat, io[i]? = some true ∧ rs[i]? = some (R.sl l)) → en1[l]? = some (.o c d') → σ[l]? = some (some (.ref q)) → Rch H1 d' q a → False := fun {k l f c d d' p q i} l1 l3 l4 r1 nl e s r => by
            have oc : Own H2 (vs.map some) (mkE io outs) a := ⟨i, true, d, p, mkE_of l1 l3, by rw [List.getElem?_map, l4] <;> rfl, r1⟩
            rcases st2.ow a oc with z | z
            · obtain ⟨i', j, f', d2, p2, g1, g2, g3, g4, g5, g6, g7⟩ := ownC z
              have ej := G1.inj l j q p2 a c f' _ _ e g4 s g5 r g7
              subst ej
              exact nl ⟨i', g1, g3⟩
            · obtain ⟨p', s2, n2, c2⟩ := G1.own l c d' e
              rw [s] at s2
              cases s2
              obtain ⟨o, ho⟩ := c2.atR r
              rw [ho] at z
              cases z
          rcases slot2 e1 s1 r1 with ⟨i, dd, l1, l2, l3, l4, l5, l6⟩ | ⟨nl, e1', r1'⟩
          · rcases slot2 e2 s2 r2 with ⟨i', dd', m1, m2, m3, m4, m5, m6⟩ | ⟨nl', e2', r2'⟩
            · have ei := G2.inj i i' p q a true true d d' (mkE_of l1 l3) (mkE_of m1 m3) (by rw [List.getElem?_map, l4] <;> rfl) (by rw [List.getElem?_map, m4] <;> rfl) r1 r2
              subst ei
              rw [l2] at m2
              cases m2
              rfl
            · exact (lentNot (k := k) (f := b) l1 l3 l4 r1 nl' e2' s2 r2').elim
          · rcases slot2 e2 s2 r2 with ⟨i', dd', m1, m2, m3, m4, m5, m6⟩ | ⟨nl', e2', r2'⟩
            · exact (lentNot (k := l) (f := c) m1 m3 m4 r2 nl e1' s1 r1').elim
            · exact G1.inj k l p q a b c d d' e1' e2' s1 s2 r1' r2' }
    · have prL : ∀ {k i : Nat} {f : Bool} {d dd : D} {p a : Addr}, io[i]? = some true → outs[i]? = some d → vs[i]? = some (V.ref p) → ds[i]? = some dd → Rch H2 d p a → Rch H1 dd p a ∨ H1 a = none := fun {k i f d dd p a} l1 l3 l4 l5 r => by
        rcases st2.pr i dd d p a (mkE_of l1 l5) (mkE_of l1 l3) (by rw [List.getElem?_map, l4] <;> rfl) r with z | z | z
        · exact .inl z
        · exact .inr z
        · obtain ⟨i2, d2, p2, f1, _, _⟩ := z
          obtain ⟨b2, d3, _, _, h4⟩ := mkE_get f1
          obtain ⟨_, z2, _⟩ := slIn_o h4.symm
          cases z2
      exact {
        len := putBack_len
        fr := fun a o h n => keep a o h fun z => n (by
          obtain ⟨i', j, f', d2, p2, g1, g2, g3, g4, g5, g6, g7⟩ := ownC z
          exact ⟨j, f', d2, p2, g4, g5, g7⟩)
        al := st2.al
        ow := fun a h => ownP1 h
        of := fun a h => by
          obtain ⟨k, d, p, e, s, r⟩ := h
          rcases slot2 e s r with ⟨i, dd, l1, l2, l3, l4, l5, l6⟩ | ⟨nl, e', r'⟩
          · rcases prL (k := k) (f := false) l1 l3 l4 l5 r with z | z
            · exact .inl ⟨k, dd, p, l6, s, z⟩
            · exact .inr z
          · exact .inl ⟨k, d, p, e', s, r'⟩
        pin := fun k d e => by
          obtain ⟨s', g1, g2⟩ := putBack_get (io := io) (rs := rs) (outs := outs) e
          refine ⟨rfl, ?_⟩
          rcases g2 with g2 | ⟨f', d0, d1, g2, g3⟩
          · exact ⟨d, by rw [g1, g2]⟩
          · cases g2
            exact ⟨d1, by rw [g1, g3]⟩
        pb := fun k d e => backO e
        pr := fun k d d' p a e1 e2 s r => by
          rcases slot2 e2 s r with ⟨i, dd, l1, l2, l3, l4, l5, l6⟩ | ⟨nl, e', r'⟩
          · rw [e1] at l6
            cases l6
            rcases prL (k := k) (f := false) l1 l3 l4 l5 r with z | z
            · exact .inl z
            · exact .inr (.inl z)
          · rw [e1] at e'
            cases e'
            exact .inl r' }
  cases e4 : φ ds with
  | bad => rw [e4] at m; exact m.elim
  | exc x outs =>
    rw [e4] at m
    obtain ⟨e5, m⟩ := m
    intro c od H2 hx G2 st2
    have hbo : borrows io rs = true → io.elem true = false ∧ excFlat x = true := fun h => by
      rw [h] at e5
      simpa using e5
    obtain ⟨q2, q3, q4⟩ := core outs Bc H2 (fun _ => False) (fun a h => h.elim) (fun h => (hbo h).1) (Bx.refl Bc _ _ H1) G2 st2
    refine m c od H2 _ (fun a h n => .inl ⟨h, n⟩) (fun a h => h.elim .inl fun z => z.elim) ?_ q2 q3
    obtain ⟨h1, h2⟩ := hx
    refine ⟨h1, ?_⟩
    cases ef : x.fld with
    | none => rw [ef] at h2; exact h2
    | some fd =>
      obtain ⟨fn, fd⟩ := fd
      rw [ef] at h2
      obtain ⟨a, v, r1, nu, r2, r3⟩ := h2
      refine ⟨a, v, r1, fun z => (q4 a _ r2 nu z).2.2 _ rfl, r2, ?_⟩
      cases hbr : borrows io rs with
      | false => exact Rep.to (fun a o x n => ⟨x, fun z => by
          have := (q4 a o x n z).1
          rw [hbr] at this
          cases this⟩) _ _ r3
      | true =>
        have hf := (hbo hbr).2
        unfold excFlat at hf
        rw [ef] at hf
        exact Rep.flat (fun a xs x n z => (q4 a _ x n z).2.1 xs rfl) hf r3
  | ret b d outs =>
    rw [e4] at m
    obtain ⟨e5, m⟩ := m
    intro v H2 ⟨B2, bx2, G2, hs, hf⟩ st2
    have hbo : borrows io rs = true → io.elem true = false ∧ resFlat b d = true := fun h => by
      rw [h] at e5
      simpa using e5
    cases b with
    | false =>
      obtain ⟨q2, q3, q4⟩ := core outs B2 H2 (fun _ => False) (fun a h => h.elim) (fun h => (hbo h).1) bx2 G2 st2
      refine m v H2 _ (fun a h n => .inl ⟨h, n⟩) (fun a h => h.elim .inl fun z => z.elim) q2 q3 ?_ (fun a z => z.elim)
      show Rep K _ H2 d v
      cases hbr : borrows io rs with
      | false => exact Rep.to (fun a o x n => ⟨x, fun z => by
          have := (q4 a o x n z).1
          rw [hbr] at this
          cases this⟩) _ _ (hs rfl)
      | true => exact Rep.flat (fun a xs x n z => (q4 a _ x n z).2.1 xs rfl) (hbo hbr).2 (hs rfl)
    | true =>
      obtain ⟨p, ev, nb, c⟩ := hf rfl
      obtain ⟨q2, q3, q4⟩ := core outs B2 H2 (fun a => Rch H2 d p a) (fun a h => ⟨(nb a h).2, (nb a h).1⟩) (fun h => (hbo h).1) bx2 G2 st2
      refine m v H2 _ (fun a h n => .inl ⟨h, n⟩) (fun a h => h.elim .inl fun z => .inr (nb a z).1) q2 q3 ⟨p, ev, fun a r => .inr r, ?_⟩ (fun a z => ?_)
      · cases hbr : borrows io rs with
        | false => exact Cont.to (fun a o x n => ⟨x, fun z => by
            have := (q4 a o x n z).1
            rw [hbr] at this
            cases this⟩) (fun _ _ _ x => x) c
        | true => exact Cont.flat (fun a xs x n z => (q4 a _ x n z).2.1 xs rfl) (hbo hbr).2 c
      · obtain ⟨p', e', r⟩ := z
        rw [ev] at e'
        cases e'
        exact (nb a r).1
theorem rootNB {rs : List R} {vs : List V} (G : Good K B H σ en) (b1 : Bx B B1 σ en H) (G1 : Good K B1 H1 σ en1) (ra : ArgRs K B1 σ en1 H1 rs vs) (fn : frNs σ en H H1 rs vs) (e2 : rsls en1 rs = some ds) {a : Addr} (h : Ro H1 rs ds vs a) : ¬ B a := fun hB => by
  obtain ⟨i, r, dm, pm, q1, ir, hdm, hi, rm⟩ := h
  obtain ⟨r', q1', q4⟩ := rsls_get e2 hdm
  rw [q1] at q1'
  cases q1'
  obtain ⟨v, q2, q3⟩ := argRs_get ra q1
  rw [hi] at q2
  cases q2
  cases r with
  | sh x => cases ir
  | fr x =>
    cases q4
    rcases frNs_get fn q1 hi pm a rfl rm with z | z
    · exact G.all a hB z
    · exact G.ownNB z.own hB
  | sl j =>
    unfold rsl at q4
    dsimp only at q4
    cases q : en1[j]? with
    | none => rw [q] at q4; cases q4
    | some s =>
      rw [q] at q4
      cases s with
      | e => cases q4
      | v x => cases q4
      | o f x =>
        cases q4
        obtain ⟨p, s1, n1, c1⟩ := G1.own j f dm q
        have q3' : σ[j]? = some (some (.ref pm)) := q3
        rw [s1] at q3'
        cases q3'
        exact n1 a rm (b1.up _ hB)
theorem callImp (m : RdE K W (callF io φ fs) σ H Q) : RdA K W fs σ H fun vs H1 => spD K io φ vs H1 Q (WE W σ) := by
  obtain ⟨B, en, G, m⟩ := m
  refine ⟨B, en, G, ?_⟩
  unfold callF at m
  cases e1 : fs en with
  | bad => rw [e1] at m; exact m
  | exc x en1 => rw [e1] at m; exact m
  | ok rs en1 =>
    rw [e1] at m
    dsimp only at m ⊢
    intro vs H1 ⟨B1, b1, G1, ra, fn⟩ st1
    cases e2 : rsls en1 rs with
    | none => rw [e2] at m; exact m.elim
    | some ds =>
      rw [e2] at m
      dsimp only at m
      cases e3 : lentOk io rs && nodupB (slotsOf rs) with
      | false => rw [e3] at m; exact m.elim
      | true =>
        rw [e3] at m
        dsimp only at m
        have bxB : ∀ {B3 : Addr → Prop}, (∀ a, B1 a → ¬ Ro H1 rs ds vs a → B3 a) → (∀ a, B3 a → (B1 a ∧ ¬ Ro H1 rs ds vs a) ∨ H1 a = none) → Bx B B3 σ en H := fun {B3} h1 h2 =>
          ⟨fun a h => h1 a (b1.up a h) fun z => rootNB G b1 G1 ra fn e2 z h, fun a h => by
            rcases h2 a h with z | z
            · exact b1.new a z.1
            · exact .inr (.inl (Classical.byContradiction fun y => st1.al a y z))⟩
        refine callCore G1 ra e2 e3 ?_
        cases e4 : φ ds with
        | bad => rw [e4] at m; exact m.elim
        | exc x outs =>
          rw [e4] at m
          dsimp only at m ⊢
          cases e5 : !(borrows io rs) || (!(io.elem true) && excFlat x) with
          | false => rw [e5] at m; exact m.elim
          | true =>
            rw [e5] at m
            refine ⟨rfl, fun c od H2 B3 h1 h2 ex g st => ?_⟩
            have bx := bxB h1 h2
            exact m c od H2 (ex.mono fun a z => Un.mono bx.up z) (g.mono bx.up) (st1.trans st)
        | ret b d outs =>
          rw [e4] at m
          dsimp only at m ⊢
          cases e5 : !(borrows io rs) || (!(io.elem true) && resFlat b d) with
          | false => rw [e5] at m; exact m.elim
          | true =>
            rw [e5] at m
            refine ⟨rfl, fun v H2 B3 h1 h2 g st ar fr => m v H2 ⟨B3, bxB h1 h2, g, ar, ?_⟩ (st1.trans st)⟩
            cases b with
            | false => trivial
            | true => exact fun p a e r => .inl (Classical.byContradiction fun z => st1.al a z (fr a ⟨p, e, r⟩))
theorem e_call {X : Cx} {k : Nat} {f : Addr} {fd : FuncData} {ps : List Str} {x : Str} {p pos : Pos} {e : Expr} {es : List Expr} (F : FnOk X.prog X.w X.K X.mg X.base (L2.CX X.prog X.w) k f fd ps (spD X.K io φ)) (hr : Room k X.A) (hg : Gl X x) (hm : X.mg x = some (.ref f)) (hk : PySem.W.keepIn X.K (.ref f) = true) (hb : Binds X.K fd ps []) (tk : Takes X W)
    (ha : PA X (e :: es) (RdA X.K W fs)) (hdb : (x == ("__debug__" : Str)) = false := by decide) (he : starEach (e :: es) X.env = (false, eval e X.env) :: starEach es X.env := by rfl) (hpl : (backTo pos (starEach es X.env)).any (·.1) = false := by rfl) :
    PE X (.Call (.Name x p) (e :: es) [] pos) (RdE X.K W (callF io φ fs)) :=
  pe_imp (pe_callS (E := WE W) F hr hg hm hk hb (fun σ => passAt tk σ) ha hdb he hpl) fun σ H Q m => callImp m
end
end PyD

namespace PyD
open PySem PySem.Spec L2
def stoD : R → Option D
  | .sh d => some d
  | .fr d => some d
  | .sl _ => none
def stos : List R → Option (List D)
  | [] => some []
  | r :: rs => match stoD r with
    | some d => (match stos rs with
      | some ds => some (d :: ds)
      | none => none)
    | none => none
def tupF (fs : M (List R)) : M R := fun en => match fs en with
  | .ok rs en1 => (match stos rs with
    | some ds => (match decide (ds.length ≤ 1000) with
      | true => .ok (.sh (.tup ds)) en1
      | false => .bad)
    | none => .bad)
  | .exc x en1 => .exc x en1
  | .bad => .bad
def lstF (fs : M (List R)) : M R := fun en => match fs en with
  | .ok rs en1 => (match stos rs with
    | some ds => (match decide (ds.length ≤ 1000) with
      | true => .ok (.fr (.lst ds)) en1
      | false => .bad)
    | none => .bad)
  | .exc x en1 => .exc x en1
  | .bad => .bad
def dicF : M R := fun en => .ok (.fr (.dic [])) en
def mutF (st : Bool) (i : Nat) (isT : D → Bool) (g : D → List D → Option (D × D)) (fs : M (List R)) : M R := fun en => match en[i]? with
  | some (.o _ dd) => (match isT dd with
    | true => (match fs en with
      | .ok rs en1 => (match (match st with | true => stos rs | false => rsls en1 rs) with
        | some ds => (match en1[i]? with
          | some (.o b d0) => (match g d0 ds with
            | some (d1, d) => .ok (.sh d) (en1.set i (.o b d1))
            | none => .bad)
          | _ => .bad)
        | none => .bad)
      | .exc x en1 => .exc x en1
      | .bad => .bad)
    | false => .bad)
  | _ => .bad
def stF (i : Nat) (fi fv : M R) (u : D → D → D → Option D) : En → Fl := fun en => match fv en with
  | .ok r en1 => (match stoD r with
    | some d => (match en1[i]? with
      | some (.o _ _) => (match fi en1 with
        | .ok ri en2 => (match rsl en2 ri with
          | some di => (match en2[i]? with
            | some (.o b d0) => (match u d0 di d with
              | some d1 => .nx (en2.set i (.o b d1))
              | none => .bad)
            | _ => .bad)
          | none => .bad)
        | .exc x en2 => .exc x en2
        | .bad => .bad)
      | _ => .bad)
    | none => .bad)
  | .exc x en1 => .exc x en1
  | .bad => .bad
section
variable {K : PySem.W.Frag} {W : WX} {B B' B1 : Addr → Prop} {U U' : Addr → Prop} {H H' H1 : Hp} {σ σ' σ1 : L2.St} {en en' en1 : En} {d : D} {v : V} {i : Nat} {p : Addr} {ds : List D} {fs : M (List R)} {Q : VK} {D0 : Ends}
theorem stoD_of {r : R} {d : D} (h : stoD r = some d) : r = .sh d ∨ r = .fr d := by
  cases r with
  | sh x => cases h; exact .inl rfl
  | fr x => cases h; exact .inr rfl
  | sl x => cases h
theorem stos_rep (bx : Bx B B' σ en H) (G : Good K B H σ en) (G' : Good K B' H' σ en') : ∀ {rs : List R} {vs : List V} {ds : List D}, ArgRs K B' σ en' H' rs vs → frNs σ en H H' rs vs → stos rs = some ds → RepL K (Un B H' σ en') H' ds vs
  | [], vs, ds, h, _, e => by
    cases e
    unfold RepL
    exact h
  | r :: rs, vs, ds, ⟨v, us, e1, h1, h2, _⟩, fn, e => by
    subst e1
    unfold stos at e
    cases q : stoD r with
    | none => rw [q] at e; cases e
    | some d =>
      rw [q] at e
      dsimp only at e
      cases q2 : stos rs with
      | none => rw [q2] at e; cases e
      | some ds' =>
        rw [q2] at e
        cases e
        unfold RepL
        exact ⟨v, us, rfl, sto_rep bx G G' h1 fn.1 (stoD_of q), stos_rep bx G G' h2 fn.2 q2⟩
theorem ext_new {o : HO} (h : H p = none) : Ext H (upd H p o) := fun a x e => by
  rw [upd_ne (ne_of_none e h)]
  exact e
theorem small_of {n : Nat} (h : n ≤ 1000) : n ≤ sizeLine := Nat.le_trans h (by decide)
theorem tupImp (m : RdE K W (tupF fs) σ H Q) : tTup (RdA K W fs) σ H Q := by
  obtain ⟨B, en, G, m⟩ := m
  refine ⟨B, en, G, ?_⟩
  unfold tupF at m
  cases e : fs en with
  | bad => rw [e] at m; exact m
  | exc x en1 => rw [e] at m; exact m
  | ok rs en1 =>
    rw [e] at m
    dsimp only at m ⊢
    intro vs H1 ⟨B1, b1, G1, ra, fn⟩ st1
    cases e2 : stos rs with
    | none => rw [e2] at m; exact m.elim
    | some ds =>
      rw [e2] at m
      dsimp only at m
      have rl := stos_rep b1 G G1 ra fn e2
      cases e3 : decide (ds.length ≤ 1000) with
      | false => rw [e3] at m; exact m.elim
      | true =>
        rw [e3] at m
        refine ⟨small_of (by rw [rl.len]; exact of_decide_eq_true e3), fun p hp => ?_⟩
        have x : Ext H1 (upd H1 p (.tup vs)) := ext_new hp
        have G2 := G1.mono b1.up
        have oi := G2.ownIff (H' := upd H1 p (.tup vs)) (fun a o _ => x a o)
        refine m _ _ ⟨B, Bx.refl B σ en H, G2.ext0 x, ?_, trivial⟩ (st1.trans (Stp.ext G2 x))
        unfold ArgR Rep
        exact ⟨p, vs, rfl, fun z => G2.unAt (z.imp id (oi p).mp) hp, upd_same, RepL.to (fun a o q n => ⟨x a o q, fun z => n (z.imp id (oi a).mp)⟩) _ _ rl⟩
theorem newOwn (hp : H p = none) {o : HO} (G : Good K B H σ en) : Good K (fun a => B a ∨ a = p) (upd H p o) σ en :=
  G.ext (ext_new hp) fun a h => by
    rcases h with h | h
    · exact .inl h
    · rw [h, upd_same]
      exact .inr ⟨hp, by simp⟩
theorem bxNew (hp : H p = none) : Bx B (fun a => B a ∨ a = p) σ en H := ⟨fun a h => .inl h, fun a h => by
  rcases h with h | h
  · exact .inl h
  · rw [h]; exact .inr (.inl hp)⟩
theorem newTo (G : Good K B H σ en) (hp : H p = none) {o : HO} : ∀ a x, H a = some x → ¬ Un B H σ en a → upd H p o a = some x ∧ ¬ Un (fun a => B a ∨ a = p) (upd H p o) σ en a := fun a x q n => ⟨ext_new hp a x q, fun z => by
  rcases un_or z with z | z
  · exact n (z.imp id (G.ownIff (H' := upd H p o) (fun a o _ => ext_new hp a o) a).mp)
  · rw [z, hp] at q; cases q⟩
theorem lstImp (m : RdE K W (lstF fs) σ H Q) : tLst (RdA K W fs) σ H Q := by
  obtain ⟨B, en, G, m⟩ := m
  refine ⟨B, en, G, ?_⟩
  unfold lstF at m
  cases e : fs en with
  | bad => rw [e] at m; exact m
  | exc x en1 => rw [e] at m; exact m
  | ok rs en1 =>
    rw [e] at m
    dsimp only at m ⊢
    intro vs H1 ⟨B1, b1, G1, ra, fn⟩ st1
    cases e2 : stos rs with
    | none => rw [e2] at m; exact m.elim
    | some ds =>
      rw [e2] at m
      dsimp only at m
      have rl := stos_rep b1 G G1 ra fn e2
      cases e3 : decide (ds.length ≤ 1000) with
      | false => rw [e3] at m; exact m.elim
      | true =>
        rw [e3] at m
        refine ⟨small_of (by rw [rl.len]; exact of_decide_eq_true e3), fun p hp => ?_⟩
        have x : Ext H1 (upd H1 p (.lst vs)) := ext_new hp
        have G2 := G1.mono b1.up
        have hp0 : H p = none := Classical.byContradiction fun z => st1.al p z hp
        refine m _ _ ⟨_, bxNew hp0, newOwn hp G2, ⟨p, rfl, fun a r => .inr (Rch.flat (d := .lst ds) rfl r), vs, upd_same, RepL.to (newTo G2 hp) _ _ rl⟩, ?_⟩ (st1.trans (Stp.ext G2 x))
        intro q a eq r
        cases eq
        rw [Rch.flat (d := .lst ds) rfl r]
        exact .inl hp0
theorem own_set_o {b : Bool} {d0 d1 : D} (e : en[i]? = some (.o b d0)) (s : σ[i]? = some (some (.ref p))) (G : Good K B H σ en) (k : ∀ a o, ¬ Rch H d0 p a → H a = some o → H' a = some o) {a : Addr} (h : Own H' σ (en.set i (.o b d1)) a) : Rch H' d1 p a ∨ (Own H σ en a ∧ ¬ Rch H d0 p a) := by
  obtain ⟨j, c, d', p', e1, s1, r⟩ := h
  rcases set_get e1 with ⟨q, z, _⟩ | ⟨ne, q⟩
  · subst q
    cases z
    rw [s] at s1
    cases s1
    exact .inl r
  · obtain ⟨p2, s2, n2, c2⟩ := G.own j c d' q
    rw [s1] at s2
    cases s2
    have nr : ∀ a, Rch H d' p' a → ¬ Rch H d0 p a := fun a r1 r2 => ne (G.inj i j p p' a b c d0 d' e q s s1 r2 r1)
    have r' := (c2.rch (fun a o r x => k a o (nr a r) x) a).mp r
    exact .inr ⟨⟨j, c, d', p', q, s1, r'⟩, nr a r'⟩
theorem Good.mutN {b : Bool} {d0 d1 : D} (G : Good K B' H σ en) (up : ∀ a, B a → B' a) (e : en[i]? = some (.o b d0)) (s : σ[i]? = some (some (.ref p))) (k : ∀ a o, ¬ Rch H d0 p a → H a = some o → H' a = some o) (al : ∀ a, H a ≠ none → H' a ≠ none)
    (r' : ∀ a, Rch H' d1 p a → (Rch H d0 p a ∨ B' a) ∧ ¬ B a) (c : Cont K (Un B' H σ en) H' d1 p) : Good K B H' σ (en.set i (.o b d1)) := by
  have own1 : ∀ {a : Addr}, Own H' σ (en.set i (.o b d1)) a → Un B' H σ en a := fun {a} h => by
    rcases own_set_o e s G k h with h | h
    · rcases (r' a h).1 with z | z
      · exact .inr ⟨i, b, d0, p, e, s, z⟩
      · exact .inl z
    · exact .inr h.1
  have t : ∀ a o, H a = some o → ¬ Un B' H σ en a → H' a = some o ∧ ¬ Un B H' σ (en.set i (.o b d1)) a := fun a o x n => ⟨k a o (fun z => n (.inr ⟨i, b, d0, p, e, s, z⟩)) x, fun z => n (by
    rcases z with z | z
    · exact .inl (up a z)
    · exact own1 z)⟩
  have t' : ∀ a o, H' a = some o → ¬ Un B' H σ en a → H' a = some o ∧ ¬ Un B H' σ (en.set i (.o b d1)) a := fun a o x n => ⟨x, fun z => n (by
    rcases z with z | z
    · exact .inl (up a z)
    · exact own1 z)⟩
  exact {
    len := by rw [List.length_set]; exact G.len
    all := fun a h => al a (G.all a (up a h))
    rep := fun j d e1 => by
      rcases set_get e1 with ⟨_, z, _⟩ | ⟨_, q⟩
      · cases z
      · obtain ⟨v, s1, r⟩ := G.rep j d q
        exact ⟨v, s1, Rep.to t d v r⟩
    own := fun j c' d e1 => by
      rcases set_get e1 with ⟨q, z, _⟩ | ⟨ne, q⟩
      · subst q
        cases z
        exact ⟨p, s, fun a r => (r' a r).2, Cont.to t' (fun _ _ _ x => x) c⟩
      · obtain ⟨p', s1, n1, c1⟩ := G.own j c' d q
        have kk : ∀ a o, Rch H d p' a → H a = some o → H' a = some o := fun a o r x => k a o (fun z => ne (G.inj i j p p' a b c' d0 d e q s s1 z r)) x
        exact ⟨p', s1, fun a r z => n1 a ((c1.rch kk a).mp r) (up a z), Cont.to t kk c1⟩
    inj := fun j l q q' a c1 c2 x y e1 e2 s1 s2 r1 r2 => by
      have mix : ∀ {l : Nat} {c2 : Bool} {y : D} {q' : Addr}, i ≠ l → en[l]? = some (.o c2 y) → σ[l]? = some (some (.ref q')) → Rch H' y q' a → Rch H' d1 p a → False := fun {l c2 y q'} ne e2 s2 r2 r1 => by
        obtain ⟨p2, s3, n1, c3⟩ := G.own l c2 y e2
        rw [s2] at s3
        cases s3
        have kk : ∀ a o, Rch H y q' a → H a = some o → H' a = some o := fun a o r x => k a o (fun z => ne (G.inj i l p q' a b c2 d0 y e e2 s s2 z r)) x
        have r3 := (c3.rch kk a).mp r2
        rcases (r' a r1).1 with z | z
        · exact ne (G.inj i l p q' a b c2 d0 y e e2 s s2 z r3)
        · exact n1 a r3 z
      rcases set_get e1 with ⟨q1, z1, _⟩ | ⟨ne1, q1⟩
      · subst q1
        cases z1
        rw [s] at s1
        cases s1
        rcases set_get e2 with ⟨q2, z2, _⟩ | ⟨ne2, q2⟩
        · exact q2
        · exact (mix ne2 q2 s2 r2 r1).elim
      · rcases set_get e2 with ⟨q2, z2, _⟩ | ⟨ne2, q2⟩
        · subst q2
          cases z2
          rw [s] at s2
          cases s2
          exact (mix ne1 q1 s1 r1 r2).elim
        · obtain ⟨p2, s3, n3, c3⟩ := G.own j c1 x q1
          rw [s1] at s3
          cases s3
          obtain ⟨p4, s4, n4, c4⟩ := G.own l c2 y q2
          rw [s2] at s4
          cases s4
          have k1 : ∀ a o, Rch H x q a → H a = some o → H' a = some o := fun a o r z => k a o (fun w => ne1 (G.inj i j p q a b c1 d0 x e q1 s s1 w r)) z
          have k2 : ∀ a o, Rch H y q' a → H a = some o → H' a = some o := fun a o r z => k a o (fun w => ne2 (G.inj i l p q' a b c2 d0 y e q2 s s2 w r)) z
          exact G.inj j l q q' a c1 c2 x y q1 q2 s1 s2 ((c3.rch k1 a).mp r1) ((c4.rch k2 a).mp r2) }
theorem Stp.mutN {b : Bool} {d0 d1 : D} {σ0 : L2.St} {en0 : En} {H0 : Hp} (st : Stp σ0 en0 H0 σ en H) (G : Good K B H σ en) (e : en[i]? = some (.o b d0)) (s : σ[i]? = some (some (.ref p))) (k : ∀ a o, ¬ Rch H d0 p a → H a = some o → H' a = some o) (al : ∀ a, H a ≠ none → H' a ≠ none)
    (nw : ∀ a, Rch H' d1 p a → Rch H d0 p a ∨ H0 a = none ∨ OwnF H0 σ0 en0 a) : Stp σ0 en0 H0 σ (en.set i (.o b d1)) H' where
  len := by rw [List.length_set]; exact st.len
  fr := fun a o h n => by
    have h1 := st.fr a o h n
    refine k a o (fun z => ?_) h1
    rcases st.ow a ⟨i, b, d0, p, e, s, z⟩ with q | q
    · exact n q
    · rw [h] at q; cases q
  al := fun a h => al a (st.al a h)
  ow := fun a h => by
    rcases own_set_o e s G k h with h | h
    · rcases nw a h with z | z | z
      · exact st.ow a ⟨i, b, d0, p, e, s, z⟩
      · exact .inr z
      · exact .inl z.own
    · exact st.ow a h.1
  of := fun a h => by
    obtain ⟨j, d', p', e1, s1, r⟩ := h
    rcases set_get e1 with ⟨q, z, _⟩ | ⟨ne, q⟩
    · subst q
      cases z
      rw [s] at s1
      cases s1
      rcases nw a r with z | z | z
      · exact st.of a ⟨i, d0, p, e, s, z⟩
      · exact .inr z
      · exact .inl z
    · obtain ⟨p2, s2, n2, c2⟩ := G.own j false d' q
      rw [s1] at s2
      cases s2
      have r' := (c2.rch (fun a o r x => k a o (fun w => ne (G.inj i j p p' a b false d0 d' e q s s1 w r)) x) a).mp r
      exact st.of a ⟨j, d', p', q, s1, r'⟩
  pin := fun j d' e1 => by
    obtain ⟨h1, d2, h2⟩ := st.pin j d' e1
    refine ⟨h1, ?_⟩
    by_cases z : i = j
    · subst z
      rw [e] at h2
      cases h2
      exact ⟨d1, by rw [List.getElem?_set, if_pos rfl, if_pos (get_lt e)]⟩
    · exact ⟨d2, by rw [List.getElem?_set_ne z]; exact h2⟩
  pb := fun j d' e1 => by
    rcases set_get e1 with ⟨q, z, _⟩ | ⟨_, q⟩
    · subst q; cases z; exact st.pb i d0 e
    · exact st.pb j d' q
  pr := fun j x y p' a e1 e2 s1 r => by
    obtain ⟨h1, d2, h2⟩ := st.pin j x e1
    rcases set_get e2 with ⟨q, z, _⟩ | ⟨ne, q⟩
    · subst q
      cases z
      rw [h1, s1] at s
      cases s
      rcases nw a r with z | z | z
      · exact st.pr i x d0 p a e1 e (by assumption) z
      · exact .inr (.inl z)
      · exact .inr (.inr z)
    · have s1' : σ[j]? = some (some (.ref p')) := h1.trans s1
      obtain ⟨p2, s2, n2, c2⟩ := G.own j true y q
      rw [s1'] at s2
      cases s2
      have r' := (c2.rch (fun a o r x => k a o (fun w => ne (G.inj i j p p' a b true d0 y e q s s1' w r)) x) a).mp r
      exact st.pr j x y p' a e1 q s1 r'
theorem Good.mut {b : Bool} {d0 d1 : D} (G : Good K B H σ en) (e : en[i]? = some (.o b d0)) (s : σ[i]? = some (some (.ref p))) (f0 : d0.flatO = true) (f1 : d1.flatO = true) (k : ∀ a o, a ≠ p → H a = some o → H' a = some o) (hp : H' p ≠ none) (c : Cont K (Un B H σ en) H' d1 p) :
    Good K B H' σ (en.set i (.o b d1)) ∧ Stp σ en H σ (en.set i (.o b d1)) H' ∧ ∀ a, Un B H' σ (en.set i (.o b d1)) a → Un B H σ en a := by
  have k' : ∀ a o, ¬ Rch H d0 p a → H a = some o → H' a = some o := fun a o n => k a o fun z => n (by rw [z]; exact Rch.self)
  have al : ∀ a, H a ≠ none → H' a ≠ none := fun a h => by
    by_cases z : a = p
    · rw [z]; exact hp
    · cases q : H a with
      | none => exact absurd q h
      | some o => rw [k a o z q]; simp
  have rr : ∀ a, Rch H' d1 p a → Rch H d0 p a := fun a r => by rw [Rch.flat f1 r]; exact Rch.self
  obtain ⟨p', s', n', _⟩ := G.own i b d0 e
  rw [s] at s'
  cases s'
  refine ⟨G.mutN (fun _ h => h) e s k' al (fun a r => ⟨.inl (rr a r), n' a (rr a r)⟩) c, (Stp.refl σ en H).mutN G e s k' al (fun a r => .inl (rr a r)), fun a z => ?_⟩
  rcases z with z | z
  · exact .inl z
  · rcases own_set_o e s G k' z with z | z
    · exact .inr ⟨i, b, d0, p, e, s, rr a z⟩
    · exact .inr z.1
class FlatM (g : D → List D → Option (D × D)) : Prop where
  fl : ∀ d0 ds d1 d, g d0 ds = some (d1, d) → d0.flatO = true ∧ d1.flatO = true
class FlatS (u : D → D → D → Option D) : Prop where
  fl : ∀ d0 di d d1, u d0 di d = some d1 → d0.flatO = true ∧ d1.flatO = true
def PrimM (K : PySem.W.Frag) (st : Bool) (r : V → List V → Hp → VK → Prop) (g : D → List D → Option (D × D)) : Prop :=
  ∀ (U : Addr → Prop) (H : Hp) (d0 : D) (ds : List D) (p : Addr) (vs : List V) (Q : VK) (d1 d : D), (∀ a, U a → H a ≠ none) → U p → Cont K U H d0 p → ARepL K U H ds vs → (st = true → RepL K U H ds vs) → g d0 ds = some (d1, d) →
    (∀ v H', (∀ a o, a ≠ p → H a = some o → H' a = some o) → H' p ≠ none → Cont K U H' d1 p → Rep K U H' d v → Q v H') → r (.ref p) vs H Q
theorem ARepL.mono (h : ∀ a, U' a → U a) : ∀ {ds : List D} {vs : List V}, ARepL K U H ds vs → ARepL K U' H ds vs
  | [], vs, e => e
  | d :: ds, vs, ⟨v, us, e, h1, h2⟩ => by
    have t : ∀ a o, H a = some o → ¬ U a → H a = some o ∧ ¬ U' a := fun a o x n => ⟨x, fun z => n (h a z)⟩
    refine ⟨v, us, e, ?_, ARepL.mono h h2⟩
    cases d with
    | lst _ => obtain ⟨a, xs, e1, s, r⟩ := h1; exact ⟨a, xs, e1, s, RepL.to t _ _ r⟩
    | dic _ => obtain ⟨a, xs, e1, s, r⟩ := h1; exact ⟨a, xs, e1, s, RepK.to t _ _ r⟩
    | obj _ _ => obtain ⟨a, C, dx, xs, e1, s, hc, r⟩ := h1; exact ⟨a, C, dx, xs, e1, s, hc, RepF.to t _ _ r⟩
    | non => exact Rep.to (K := K) t _ v h1
    | bl _ => exact Rep.to (K := K) t _ v h1
    | int _ => exact Rep.to (K := K) t _ v h1
    | str _ => exact Rep.to (K := K) t _ v h1
    | tup _ => exact Rep.to (K := K) t _ v h1
    | scr _ => exact Rep.to (K := K) t _ v h1
    | exn _ _ => exact Rep.to (K := K) t _ v h1
    | ow _ => exact h1
theorem RepL.arep : ∀ {ds : List D} {vs : List V}, RepL K U H ds vs → ARepL K U H ds vs
  | [], vs, e => by
    unfold RepL at e
    exact e
  | d :: ds, vs, h => by
    unfold RepL at h
    obtain ⟨v, us, e, h1, h2⟩ := h
    exact ⟨v, us, e, Rep.arep h1, RepL.arep h2⟩
def isLst : D → Bool
  | .lst _ => true
  | _ => false
def isDic : D → Bool
  | .dic _ => true
  | _ => false
def TyOk (K : PySem.W.Frag) (T : String) (isT : D → Bool) : Prop := ∀ (U : Addr → Prop) (H : Hp) (d : D) (p : Addr), isT d = true → Cont K U H d p → tyV K T (.ref p) H
theorem ty_lst : TyOk K "list" isLst := fun U H d p h c => by
  cases d with
  | lst ds => obtain ⟨vs, a, _⟩ := c; exact .inl ⟨rfl, vs, SqL.of a⟩
  | _ => cases h
theorem mutImp {st : Bool} {T : String} {r : V → List V → Hp → VK → Prop} {isT : D → Bool} {g : D → List D → Option (D × D)} [fg : FlatM g] (hT : TyOk K T isT) (hp : PrimM K st r g) (m : RdE K W (mutF st i isT g fs) σ H Q) :
    tBM K T r (tVar i) (RdA K W fs) σ H Q := by
  obtain ⟨B, en, G, m⟩ := m
  unfold mutF at m
  cases e : en[i]? with
  | none => rw [e] at m; exact m.elim
  | some s =>
    rw [e] at m
    cases s with
    | e => exact m.elim
    | v _ => exact m.elim
    | o b0 dd =>
      dsimp only at m
      cases ei : isT dd with
      | false => rw [ei] at m; exact m.elim
      | true =>
        rw [ei] at m
        dsimp only at m
        obtain ⟨p, s, n, c⟩ := G.own i b0 dd e
        refine ⟨.ref p, s, hT _ _ _ _ ei c, B, en, G, ?_⟩
        cases e1 : fs en with
        | bad => rw [e1] at m; exact m
        | exc x en1 => rw [e1] at m; exact m
        | ok rs en1 =>
          rw [e1] at m
          dsimp only at m ⊢
          intro vs H1 ⟨B1, b1, G1, ra, fn⟩ st1
          cases e2 : (match st with | true => stos rs | false => rsls en1 rs) with
          | none => rw [e2] at m; exact m.elim
          | some ds =>
            rw [e2] at m
            dsimp only at m
            cases e3 : en1[i]? with
            | none => rw [e3] at m; exact m.elim
            | some s3 =>
              rw [e3] at m
              cases s3 with
              | e => exact m.elim
              | v _ => exact m.elim
              | o b d0 =>
                dsimp only at m
                cases e4 : g d0 ds with
                | none => rw [e4] at m; exact m.elim
                | some dd1 =>
                  obtain ⟨d1, d⟩ := dd1
                  rw [e4] at m
                  dsimp only at m
                  have G2 := G1.mono b1.up
                  obtain ⟨p', s', n', c'⟩ := G2.own i b d0 e3
                  rw [s] at s'
                  cases s'
                  have ar : ARepL K (Un B H1 σ en1) H1 ds vs ∧ (st = true → RepL K (Un B H1 σ en1) H1 ds vs) := by
                    cases st with
                    | true =>
                      have rl := stos_rep b1 G G1 ra fn e2
                      exact ⟨rl.arep, fun _ => rl⟩
                    | false => exact ⟨ARepL.mono (fun a z => Un.mono b1.up z) (ArgRs.arep G1 ra e2), fun z => by cases z⟩
                  refine hp (Un B H1 σ en1) H1 d0 ds p vs Q d1 d (fun a => G2.unAt) (.inr ⟨i, b, d0, p, e3, s, Rch.self⟩) c' ar.1 ar.2 e4 fun v H2 k1 k2 k3 k4 => ?_
                  obtain ⟨f0, f1⟩ := fg.fl _ _ _ _ e4
                  obtain ⟨g2, s2, u2⟩ := G2.mut e3 s f0 f1 k1 k2 k3
                  refine m v H2 ⟨B, Bx.refl B σ en H, g2, ?_, trivial⟩ (st1.trans s2)
                  exact Rep.to (fun a o x n => ⟨x, fun z => n (u2 a z)⟩) _ _ k4
def PrimS (K : PySem.W.Frag) (t : TSet) (u : D → D → D → Option D) : Prop :=
  ∀ (U : Addr → Prop) (H : Hp) (d0 di d : D) (p : Addr) (vi v : V) (Q : Hp → Prop) (d1 : D), (∀ a, U a → H a ≠ none) → U p → Cont K U H d0 p → ARep K U H di vi → Rep K U H d v → u d0 di d = some d1 →
    (∀ H', (∀ a o, a ≠ p → H a = some o → H' a = some o) → H' p ≠ none → Cont K U H' d1 p → Q H') → t (.ref p) vi v H Q
theorem stImp {fi fv : M R} {u : D → D → D → Option D} {t : TSet} [fg : FlatS u] (hp : PrimS K t u) (m : RdS K W (stF i fi fv u) D0 σ H) : tAsg (RdE K W fv) (gSub (tVar i) (RdE K W fi) t) D0 σ H := by
  obtain ⟨B, en, G, m⟩ := RdS.qs m
  refine ⟨B, en, G, ?_⟩
  unfold stF at m
  cases e1 : fv en with
  | bad => rw [e1] at m; exact m
  | exc x en1 => rw [e1] at m; exact fun c od H' => m c od σ H'
  | ok r en1 =>
    rw [e1] at m
    dsimp only at m ⊢
    intro v H1 ⟨B1, b1, G1, ra, fn⟩ st1
    cases e2 : stoD r with
    | none => rw [e2] at m; exact m.elim
    | some d =>
      rw [e2] at m
      dsimp only at m
      have rv := sto_rep b1 G G1 ra fn (stoD_of e2)
      have G1' := G1.mono b1.up
      cases e3 : en1[i]? with
      | none => rw [e3] at m; exact m.elim
      | some s3 =>
        rw [e3] at m
        cases s3 with
        | e => exact m.elim
        | v _ => exact m.elim
        | o b0 dd =>
          dsimp only at m
          obtain ⟨p, s, n, c⟩ := G1'.own i b0 dd e3
          refine ⟨.ref p, s, B, en1, G1', ?_⟩
          cases e4 : fi en1 with
          | bad => rw [e4] at m; exact m
          | exc x en2 => rw [e4] at m; exact fun c od H2 ex g st => m c od σ H2 ex g (st1.trans st)
          | ok ri en2 =>
            rw [e4] at m
            dsimp only at m ⊢
            intro vi H2 ⟨B2, b2, G2, ri', fn2⟩ st2
            cases e5 : rsl en2 ri with
            | none => rw [e5] at m; exact m.elim
            | some di =>
              rw [e5] at m
              dsimp only at m
              cases e6 : en2[i]? with
              | none => rw [e6] at m; exact m.elim
              | some s6 =>
                rw [e6] at m
                cases s6 with
                | e => exact m.elim
                | v _ => exact m.elim
                | o b d0 =>
                  dsimp only at m
                  cases e7 : u d0 di d with
                  | none => rw [e7] at m; exact m.elim
                  | some d1 =>
                    rw [e7] at m
                    have G2' := G2.mono b2.up
                    obtain ⟨p', s', n', c'⟩ := G2'.own i b d0 e6
                    rw [s] at s'
                    cases s'
                    have ai : ARep K (Un B H2 σ en2) H2 di vi := by
                      have := ARepL.mono (K := K) (H := H2) (ds := [di]) (vs := [vi]) (fun a z => Un.mono b2.up z) ⟨vi, [], rfl, ArgR.arep G2 ri' e5, rfl⟩
                      obtain ⟨v', us, e8, h8, _⟩ := this
                      cases e8
                      exact h8
                    refine hp (Un B H2 σ en2) H2 d0 di d p vi v _ d1 (fun a => G2'.unAt) (.inr ⟨i, b, d0, p, e6, s, Rch.self⟩) c' ai (Rep.step st2 (Bx.refl B σ en1 H1) rv) e7 fun H3 k1 k2 k3 => ?_
                    obtain ⟨f0, f1⟩ := fg.fl _ _ _ _ e7
                    obtain ⟨g2, s2, _⟩ := G2'.mut e6 s f0 f1 k1 k2 k3
                    exact m σ H3 g2 ((st1.trans st2).trans s2)
end
def slF (g : D → Option Int → Option Int → Option (Bool × D)) (f : M R) (lo hi : Option (M R)) : M R := fun en => match f en with
  | .ok r en1 => (match (match lo with | none => Res.ok none en1 | some fl => (match fl en1 with | .ok (.sh (.int k)) en2 => .ok (some k) en2 | .ok _ _ => .bad | .exc x en2 => .exc x en2 | .bad => .bad)) with
    | .ok l en2 => (match (match hi with | none => Res.ok none en2 | some fh => (match fh en2 with | .ok (.sh (.int k)) en3 => .ok (some k) en3 | .ok _ _ => .bad | .exc x en3 => .exc x en3 | .bad => .bad)) with
      | .ok h en3 => (match rsl en3 r with
        | some d => (match g d l h with
          | some (b, d') => .ok (mkR b d') en3
          | none => .bad)
        | none => .bad)
      | .exc x en3 => .exc x en3
      | .bad => .bad)
    | .exc x en2 => .exc x en2
    | .bad => .bad)
  | .exc x en1 => .exc x en1
  | .bad => .bad
def prtF (f : Option (M R)) : M (Option Int) := fun en => match f with
  | none => .ok none en
  | some fl => (match fl en with
    | .ok (.sh (.int k)) en2 => .ok (some k) en2
    | .ok _ _ => .bad
    | .exc x en2 => .exc x en2
    | .bad => .bad)
def poT (K : PySem.W.Frag) (W : WX) : Option (M R) → TO
  | none => tNoPart
  | some f => tPart (RdE K W f)
def PrimSl (K : PySem.W.Frag) (r : V → Option Int → Option Int → Hp → VK → Prop) (g : D → Option Int → Option Int → Option (Bool × D)) : Prop :=
  ∀ (U : Addr → Prop) (H : Hp) (d : D) (v : V) (lo hi : Option Int) (Q : VK) (b : Bool) (d' : D), (∀ a, U a → H a ≠ none) → ARep K U H d v → g d lo hi = some (b, d') →
    (∀ v H', Ext H H' → (b = false → Rep K U H' d' v) → (b = true → Fresh K U H H' d' v) → Q v H') → r v lo hi H Q
section
variable {K : PySem.W.Frag} {W : WX} {B B' B1 : Addr → Prop} {U U' : Addr → Prop} {H H' H1 : Hp} {σ σ' σ1 : L2.St} {en en' en1 : En} {d : D} {v : V} {i : Nat} {p : Addr} {ds : List D} {fs : M (List R)} {Q : VK} {D0 : Ends}
theorem partOf {f : Option (M R)} {k : Option Int → Hp → Prop} (b1 : Bx B B1 σ en H) (G1 : Good K B1 H1 σ en1) (st1 : Stp σ en H σ en1 H1) (m : match prtF f en1 with
    | .ok o en2 => ∀ H2 B2, Bx B1 B2 σ en1 H1 → Good K B2 H2 σ en2 → Stp σ en1 H1 σ en2 H2 → k o H2
    | .exc x en' => ∀ c od H', ExR K (Un B H' σ en') H' x c od → Good K B H' σ en' → Stp σ en H σ en' H' → W c od σ H'
    | .bad => False) : poT K W f σ H1 k := by
  unfold prtF at m
  cases f with
  | none => exact m H1 B1 (Bx.refl B1 σ en1 H1) G1 (Stp.refl σ en1 H1)
  | some fl =>
    dsimp only at m
    refine ⟨B1, en1, G1, ?_⟩
    cases e : fl en1 with
    | bad => rw [e] at m; exact m
    | exc x en2 => rw [e] at m; exact fun c od H' ex g st => m c od H' (ex.mono fun a z => Un.mono b1.up z) (g.mono b1.up) (st1.trans st)
    | ok r en2 =>
      rw [e] at m
      intro v H2 ⟨B2, b2, G2, ra, _⟩ st2
      match r, m, ra with
      | .sh (.int k), m, ra =>
        unfold ArgR Rep at ra
        exact ⟨k, ra, m H2 B2 b2 G2 st2⟩
      | .sh .non, m, _ => exact m.elim
      | .sh (.bl _), m, _ => exact m.elim
      | .sh (.str _), m, _ => exact m.elim
      | .sh (.tup _), m, _ => exact m.elim
      | .sh (.lst _), m, _ => exact m.elim
      | .sh (.dic _), m, _ => exact m.elim
      | .sh (.obj _ _), m, _ => exact m.elim
      | .sh (.scr _), m, _ => exact m.elim
      | .sh (.exn _ _), m, _ => exact m.elim
      | .sh (.ow _), m, _ => exact m.elim
      | .fr _, m, _ => exact m.elim
      | .sl _, m, _ => exact m.elim
theorem slF_eq {g : D → Option Int → Option Int → Option (Bool × D)} {f : M R} {lo hi : Option (M R)} : slF g f lo hi en = match f en with
    | .ok r en1 => (match prtF lo en1 with
      | .ok l en2 => (match prtF hi en2 with
        | .ok h en3 => (match rsl en3 r with
          | some d => (match g d l h with
            | some (b, d') => .ok (mkR b d') en3
            | none => .bad)
          | none => .bad)
        | .exc x en3 => .exc x en3
        | .bad => .bad)
      | .exc x en2 => .exc x en2
      | .bad => .bad)
    | .exc x en1 => .exc x en1
    | .bad => .bad := rfl
theorem slImp {r : V → Option Int → Option Int → Hp → VK → Prop} {g : D → Option Int → Option Int → Option (Bool × D)} {f : M R} {lo hi : Option (M R)} (hp : PrimSl K r g) (m : RdE K W (slF g f lo hi) σ H Q) : tSl r (RdE K W f) (poT K W lo) (poT K W hi) σ H Q := by
  obtain ⟨B, en, G, m⟩ := m
  refine ⟨B, en, G, ?_⟩
  rw [slF_eq] at m
  cases e1 : f en with
  | bad => rw [e1] at m; exact m
  | exc x en1 => rw [e1] at m; exact m
  | ok r en1 =>
    rw [e1] at m
    dsimp only at m ⊢
    intro v H1 ⟨B1, b1, G1, r1, n1⟩ st1
    refine partOf b1 G1 st1 ?_
    cases e2 : prtF lo en1 with
    | bad => rw [e2] at m; exact m
    | exc x en2 => rw [e2] at m; exact m
    | ok l en2 =>
      rw [e2] at m
      dsimp only at m ⊢
      intro H2 B2 b2 G2 st2
      refine partOf (b1.trans st1 b2) G2 (st1.trans st2) ?_
      cases e3 : prtF hi en2 with
      | bad => rw [e3] at m; exact m
      | exc x en3 => rw [e3] at m; exact m
      | ok h en3 =>
        rw [e3] at m
        dsimp only at m ⊢
        intro H3 B3 b3 G3 st3
        cases e4 : rsl en3 r with
        | none => rw [e4] at m; exact m.elim
        | some d =>
          rw [e4] at m
          dsimp only at m
          cases e5 : g d l h with
          | none => rw [e5] at m; exact m.elim
          | some bd =>
            obtain ⟨b, d'⟩ := bd
            rw [e5] at m
            dsimp only at m
            have ra := ArgR.step G2 st3 rfl b3 (ArgR.step G1 st2 rfl b2 r1)
            refine hp (Un B3 H3 σ en3) H3 d v l h Q b d' (fun a => G3.unAt) (ArgR.arep G3 ra e4) e5 fun v' H4 x4 h1 h2 => ?_
            have st4 := (((st1.trans st2).trans st3).trans (Stp.ext G3 x4))
            have oi := G3.ownIff (H' := H4) (fun a o _ => x4 a o)
            have bb := (b1.trans st1 b2).trans (st1.trans st2) b3
            cases b with
            | false => exact m v' H4 ⟨B3, bb, G3.ext0 x4, Rep.to (fun a o x n => ⟨x, fun z => n (z.imp id (oi a).mp)⟩) _ _ (h1 rfl), trivial⟩ st4
            | true =>
              obtain ⟨p, ep, np, c, fl⟩ := h2 rfl
              obtain ⟨o, ho⟩ := c.at
              have hp0 : H p = none := Classical.byContradiction fun z => ((st1.trans st2).trans st3).al p z np
              refine m v' H4 ⟨fun x => B3 x ∨ x = p, bb.trans ((st1.trans st2).trans st3) (bxNew np), G3.ext x4 (fun a h => ?_), ⟨p, ep, fun a r => .inr (Rch.flat fl r), Cont.to (fun a o x n => ⟨x, fun q => n ((un_or q).imp (fun z => z.imp id (oi a).mp) id)⟩) (fun _ _ _ x => x) c⟩, ?_⟩ st4
              · rcases h with h | h
                · exact .inl h
                · rw [h, ho]; exact .inr ⟨np, by simp⟩
              · intro q a e r
                rw [ep] at e
                cases e
                rw [Rch.flat fl r]
                exact .inl hp0
end
section
variable {X : Cx} {W : WX} {pos p2 : Pos} {e o : Expr} {es : List Expr} {lo hi : Option Expr} {f fi fv : M R} {fl fh : Option (M R)} {fs : M (List R)} {i : Nat} {name : Str} {apos cpos : Pos} {T id : String}
theorem e_tupD {x1} (h : PA X es (RdA X.K W fs)) : PE X (.Tuple es x1 pos) (RdE X.K W (tupF fs)) := pe_imp (pe_tup h) fun σ H Q m => tupImp m
theorem e_lstD (h : PA X es (RdA X.K W fs)) : PE X (.List es pos) (RdE X.K W (lstF fs)) := pe_imp (pe_lst h) fun σ H Q m => lstImp m
theorem o_none : PO X none (poT X.K W none) := po_none
theorem o_some (h : PE X e (RdE X.K W f)) : PO X (some e) (poT X.K W (some f)) := po_some h
theorem e_slice {r : V → Option Int → Option Int → Hp → VK → Prop} {g : D → Option Int → Option Int → Option (Bool × D)} (hr : SlR X r) (hp : PrimSl X.K r g) (he : PE X e (RdE X.K W f)) (hl : PO X lo (poT X.K W fl)) (hu : PO X hi (poT X.K W fh)) :
    PE X (.Subscript e (.Slice lo hi none p2) pos) (RdE X.K W (slF g f fl fh)) := pe_imp (pe_slice hr he hl hu) fun σ H Q m => slImp hp m
theorem e_mut {st : Bool} {r : V → List V → Hp → VK → Prop} {isT : D → Bool} {g : D → List D → Option (D × D)} [FlatM g] (hT : TyOk X.K T isT) (hp : PrimM X.K st r g) (pa : PlainAttrs T) (slot : Slot T name id) (hty : typeOf (.builtin id) = pure (.type "method_descriptor")) (hm : MtR X id r) (ho : PE X o (tVar i)) (ha : PA X (e :: es) (RdA X.K W fs))
    (hbase : attributeBase o name X.env (eval o X.env) = eval o X.env := by rfl)
    (hfew : ((backTo cpos (starEach (e :: es) X.env)).all (fun x => !x.1) && (backToKw cpos (keywordEach [] X.env)).all (fun x => x.1.isSome)
      && decide ((e :: es).length + ([] : List Keyword).length + (if ([] : List Keyword).isEmpty then 0 else 1) < 30)) = true := by rfl)
    (hline : (apos.endLine == cpos.line) = true := by rfl) (hs : starEach (e :: es) X.env = (false, eval e X.env) :: starEach es X.env := by rfl) (hplain : (backTo cpos (starEach es X.env)).any (·.1) = false := by rfl) :
    PE X (.Call (.Attribute o name apos) (e :: es) [] cpos) (RdE X.K W (mutF st i isT g fs)) :=
  pe_imp (pe_bm pa slot hty hm ho ha hbase hfew hline hs hplain) fun σ H Q m => mutImp hT hp m
theorem s_sub {t : TSet} {u : D → D → D → Option D} [FlatS u] {tpos : Pos} {ix : Expr} (hS : PSet X t) (hp : PrimS X.K t u) (he : PE X e (RdE X.K W fv)) (ho : PE X o (tVar i)) (hi : PE X ix (RdE X.K W fi))
    (ha : ∀ v, assign (.Subscript o ix tpos) X.env v = (do
      let ov ← holding [v] (eval o X.env)
      let iv ← holding [v, ov] (eval ix X.env)
      standAt tpos
      holding [v, ov, iv] (setItem ov iv v)
      release [v, ov, iv] []) := by intro _; rfl)
    (hs : swapsWithSole [.Subscript o ix tpos] e pos.line X.env = pure false := by rfl) (hw : swappedStores [.Subscript o ix tpos] e X.env = pure none := by rfl)
    (h1 : (assignEach [.Subscript o ix tpos] X.env).map (·.2) = [assign (.Subscript o ix tpos) X.env] := by rfl) : PS X (.Assign [.Subscript o ix tpos] e pos) (RdS X.K W (stF i fi fv u)) :=
  ps_imp (ps_asg he (pg_sub ho hi hS ha) hs hw h1) fun D σ H m => stImp hp m
end
end PyD

namespace PyD
open PySem PySem.Spec L2
def wipeE : List Nat → En → En
  | [], en => en
  | v :: vs, en => (wipeE vs en).set v .e
def resE : List Nat → En → En → En
  | [], _, en => en
  | v :: vs, en0, en => (resE vs en0 en).set v (match en0[v]? with
    | some (.v d) => .v d
    | _ => .e)
def lcL (g : D → M Unit) (tt : M Bool) (te : M R) (vs : List Nat) : List D → List D → En → Res (List D)
  | [], acc, en => .ok acc en
  | d :: ds, acc, en => match g d en with
    | .ok _ en1 => (match tt en1 with
      | .ok true en2 => (match te en2 with
        | .ok r en3 => (match stoD r with
          | some y => (match decide (acc.length < 1000000) with
            | true => lcL g tt te vs ds (acc ++ [y]) (wipeE vs en3)
            | false => .bad)
          | none => .bad)
        | _ => .bad)
      | .ok false en2 => lcL g tt te vs ds acc (wipeE vs en2)
      | _ => .bad)
    | _ => .bad
def lcF (it : M (List D)) (g : D → M Unit) (tt : M Bool) (te : M R) (vs : List Nat) : M R := fun en => match it en with
  | .ok ds en1 => (match vs.all (freeAt en1) with
    | true => (match lcL g tt te vs ds [] (wipeE vs en1) with
      | .ok acc en2 => .ok (.fr (.lst acc)) (resE vs en1 en2)
      | _ => .bad)
    | false => .bad)
  | .exc x en1 => .exc x en1
  | .bad => .bad
def yesT : M Bool := fun en => .ok true en
abbrev W0 : WX := fun _ _ _ _ => False
section
variable {K : PySem.W.Frag} {W : WX} {B B' B1 : Addr → Prop} {U U' : Addr → Prop} {H H' H1 : Hp} {σ σ' σ1 : L2.St} {en en' en1 : En} {d : D} {v : V} {i : Nat} {p : Addr} {ds : List D} {Q : VK}
theorem wipe_set {σ : L2.St} {i : Nat} {x : Option V} : ∀ {vs : List Nat}, i ∈ vs → wipe (σ.set i x) vs = wipe σ vs
  | [], h => by cases h
  | v :: vs, h => by
    show (wipe (σ.set i x) vs).set v none = (wipe σ vs).set v none
    by_cases hv : i ∈ vs
    · rw [wipe_set hv]
    · have e : i = v := by
        rcases List.mem_cons.mp h with h | h
        · exact h
        · exact absurd h hv
      subst e
      have aux : ∀ (vs : List Nat), i ∉ vs → wipe (σ.set i x) vs = (wipe σ vs).set i x := fun vs => by
        induction vs with
        | nil => intro _; rfl
        | cons w ws ih =>
          intro hn
          have h1 : i ∉ ws := fun z => hn (List.mem_cons_of_mem _ z)
          have h2 : i ≠ w := fun z => hn (by rw [z]; exact List.mem_cons_self)
          show (wipe (σ.set i x) ws).set w none = ((wipe σ ws).set w none).set i x
          rw [ih h1, List.set_comm none x h2.symm]
      rw [aux vs hv, List.set_set]
theorem wipe_idem (σ : L2.St) (vs : List Nat) : wipe (wipe σ vs) vs = wipe σ vs := by
  have w : ∀ (ws : List Nat) (u : Nat), u ∈ ws → (wipe σ ws)[u]? = some none ∨ (wipe σ ws)[u]? = none := fun ws u => by
    induction ws with
    | nil => intro h; cases h
    | cons w ws ih =>
      intro h
      show ((wipe σ ws).set w none)[u]? = _ ∨ ((wipe σ ws).set w none)[u]? = _
      by_cases q : w = u
      · subst q
        rw [List.getElem?_set, if_pos rfl]
        split
        · exact .inl rfl
        · exact .inr rfl
      · rw [List.getElem?_set_ne q]
        rcases List.mem_cons.mp h with h | h
        · exact absurd h.symm q
        · exact ih h
  have aux : ∀ (us : List Nat), (∀ u ∈ us, (wipe σ vs)[u]? = some none ∨ (wipe σ vs)[u]? = none) → wipe (wipe σ vs) us = wipe σ vs := fun us => by
    induction us with
    | nil => intro _; rfl
    | cons u us ih =>
      intro hu
      show (wipe (wipe σ vs) us).set u none = _
      rw [ih fun x h => hu x (List.mem_cons_of_mem _ h)]
      apply List.ext_getElem?
      intro n
      rw [List.getElem?_set]
      by_cases q : u = n
      · subst q
        rw [if_pos rfl]
        rcases hu u List.mem_cons_self with z | z
        · rw [if_pos (get_lt z), z]
        · rw [if_neg (by
            intro hl
            rw [List.getElem?_eq_getElem hl] at z
            cases z), z]
      · rw [if_neg q]
  exact aux vs fun u hu => w vs u hu
theorem wipe_get {σ : L2.St} {j : Nat} {x : V} {vs : List Nat} (h : σ[j]? = some (some x)) (hj : j ∉ vs) : (wipe σ vs)[j]? = some (some x) := by
  rw [wipe_out hj]
  exact h
theorem wipeE_len : ∀ {vs : List Nat} {en : En}, (wipeE vs en).length = en.length
  | [], _ => rfl
  | v :: vs, en => by
    show ((wipeE vs en).set v .e).length = _
    rw [List.length_set, wipeE_len]
theorem wipeE_get : ∀ {vs : List Nat} {en : En} {j : Nat} {s : Sl}, (wipeE vs en)[j]? = some s → s = .e ∨ (j ∉ vs ∧ en[j]? = some s)
  | [], en, j, s, h => .inr ⟨fun z => (by cases z), h⟩
  | v :: vs, en, j, s, h => by
    rcases set_get h with ⟨_, q, _⟩ | ⟨ne, q⟩
    · exact .inl q
    · rcases wipeE_get q with q | ⟨n, q⟩
      · exact .inl q
      · exact .inr ⟨fun z => by
          rcases List.mem_cons.mp z with z | z
          · exact ne z.symm
          · exact n z, q⟩
theorem wipeE_out : ∀ {vs : List Nat} {en : En} {j : Nat}, j ∉ vs → (wipeE vs en)[j]? = en[j]?
  | [], _, _, _ => rfl
  | v :: vs, en, j, h => by
    show ((wipeE vs en).set v .e)[j]? = _
    rw [List.getElem?_set_ne (fun z => h (by rw [z]; exact List.mem_cons_self)), wipeE_out (fun z => h (List.mem_cons_of_mem _ z))]
theorem own_wipe {vs : List Nat} {a : Addr} (h : Own H (wipe σ vs) (wipeE vs en) a) : Own H σ en a := by
  obtain ⟨j, b, d, p, e, s, r⟩ := h
  rcases wipeE_get e with q | ⟨n, q⟩
  · cases q
  · rw [wipe_out n] at s
    exact ⟨j, b, d, p, q, s, r⟩
theorem Good.wipe {vs : List Nat} (G : Good K B H σ en) : Good K B H (L2.wipe σ vs) (wipeE vs en) := by
  have t : ∀ a o, H a = some o → ¬ Un B H σ en a → H a = some o ∧ ¬ Un B H (L2.wipe σ vs) (wipeE vs en) a := fun a o x n => ⟨x, fun z => n (z.imp id own_wipe)⟩
  exact {
    len := by rw [wipe_length, wipeE_len]; exact G.len
    all := G.all
    rep := fun j d e => by
      rcases wipeE_get e with q | ⟨n, q⟩
      · cases q
      · obtain ⟨v, s, r⟩ := G.rep j d q
        exact ⟨v, wipe_get s n, Rep.to t d v r⟩
    own := fun j b d e => by
      rcases wipeE_get e with q | ⟨n, q⟩
      · cases q
      · obtain ⟨p, s, n1, c⟩ := G.own j b d q
        exact ⟨p, wipe_get s n, n1, Cont.to t (fun _ _ _ x => x) c⟩
    inj := fun j k q q' a b c d d' e1 e2 s1 s2 => by
      rcases wipeE_get e1 with z | ⟨n1, q1⟩
      · cases z
      · rcases wipeE_get e2 with z | ⟨n2, q2⟩
        · cases z
        · rw [wipe_out n1] at s1
          rw [wipe_out n2] at s2
          exact G.inj j k q q' a b c d d' q1 q2 s1 s2 }
theorem Stp.wipe {vs : List Nat} (hp : ∀ v ∈ vs, ∀ d, en[v]? ≠ some (.o true d)) : Stp σ en H (L2.wipe σ vs) (wipeE vs en) H where
  len := wipeE_len
  fr := fun _ _ h _ => h
  al := fun _ h => h
  ow := fun a h => .inl (own_wipe h)
  of := fun a h => .inl (by
    obtain ⟨j, d, p, e, s, r⟩ := h
    rcases wipeE_get e with q | ⟨n, q⟩
    · cases q
    · rw [wipe_out n] at s
      exact ⟨j, d, p, q, s, r⟩)
  pin := fun j d e => by
    have nj : j ∉ vs := fun z => hp j z d e
    exact ⟨wipe_out nj, d, by rw [wipeE_out nj]; exact e⟩
  pb := fun j d e => by
    rcases wipeE_get e with q | ⟨_, q⟩
    · cases q
    · exact ⟨d, q⟩
  pr := fun j d d' p a e1 e2 _ r => by
    rcases wipeE_get e2 with q | ⟨_, q⟩
    · cases q
    · rw [e1] at q; cases q; exact .inl r
theorem Stp.updNew {o : HO} (hp : H p = none) (G : Good K B H' σ' en') (no : ¬ Own H' σ' en' p) (s : Stp σ en H σ' en' H') : Stp σ en H σ' en' (upd H' p o) where
  len := s.len
  fr := fun a x h n => by
    rw [upd_ne (ne_of_none h hp)]
    exact s.fr a x h n
  al := fun a h => by
    have hh := s.al a h
    by_cases z : a = p
    · rw [z, upd_same]; simp
    · rw [upd_ne z]; exact hh
  ow := fun a z => s.ow a ((G.ownIff (fun a o r x => by rw [upd_ne (fun z => no (by rw [← z]; exact r))]; exact x) a).mp z)
  of := fun a z => s.of a ((G.ownFIff (fun a o r x => by rw [upd_ne (fun z => no (by rw [← z]; exact r))]; exact x) a).mp z)
  pin := s.pin
  pb := s.pb
  pr := fun i d d' q a e1 e2 s1 r => by
    have s2 := (s.pin i d e1).1.trans s1
    obtain ⟨q', s3, _, c⟩ := G.own i true d' e2
    rw [s2] at s3
    cases s3
    exact s.pr i d d' q a e1 e2 s1 ((c.rch (fun a o r x => by rw [upd_ne (fun z => no (by rw [← z]; exact ⟨i, true, d', q, e2, s2, r⟩))]; exact x) a).mp r)
theorem Good.side (G : Good K B H σ en) (hp : B p) {o : HO} : Good K B (upd H p o) σ en := by
  have kp : ∀ a x, ¬ B a → H a = some x → upd H p o a = some x := fun a x n q => by
    rw [upd_ne (fun z => n (by rw [z]; exact hp))]
    exact q
  have t : ∀ a x, H a = some x → ¬ Un B H σ en a → upd H p o a = some x ∧ ¬ Un B (upd H p o) σ en a := fun a x q n => ⟨kp a x (fun z => n (.inl z)) q, fun z => n (z.imp id (G.ownIff (fun a o r x => kp a o (G.ownNB r) x) a).mp)⟩
  exact {
    len := G.len
    all := fun a h => by
      by_cases z : a = p
      · rw [z, upd_same]; simp
      · rw [upd_ne z]; exact G.all a h
    rep := fun i d e => by
      obtain ⟨v, s, r⟩ := G.rep i d e
      exact ⟨v, s, Rep.to t d v r⟩
    own := fun i b d e => by
      obtain ⟨q, s, n, c⟩ := G.own i b d e
      exact ⟨q, s, fun a r => n a ((c.rch (fun a o r x => kp a o (n a r) x) a).mp r), Cont.to t (fun a x r y => kp a x (n a r) y) c⟩
    inj := fun i j q q' a b c d d' e1 e2 s1 s2 r1 r2 => by
      obtain ⟨p1, t1, n1, c1⟩ := G.own i b d e1
      rw [s1] at t1
      cases t1
      obtain ⟨p2, t2, n2, c2⟩ := G.own j c d' e2
      rw [s2] at t2
      cases t2
      exact G.inj i j q q' a b c d d' e1 e2 s1 s2 ((c1.rch (fun a o r x => kp a o (n1 a r) x) a).mp r1) ((c2.rch (fun a o r x => kp a o (n2 a r) x) a).mp r2) }
theorem resE_len : ∀ {vs : List Nat} {en0 en : En}, (resE vs en0 en).length = en.length
  | [], _, _ => rfl
  | v :: vs, en0, en => by
    show ((resE vs en0 en).set v _).length = _
    rw [List.length_set, resE_len]
theorem resE_get : ∀ {vs : List Nat} {en0 en : En} {j : Nat} {s : Sl}, (resE vs en0 en)[j]? = some s → s = .e ∨ (∃ d, s = .v d ∧ en0[j]? = some s) ∨ (j ∉ vs ∧ en[j]? = some s)
  | [], en0, en, j, s, h => .inr (.inr ⟨fun z => (by cases z), h⟩)
  | v :: vs, en0, en, j, s, h => by
    rcases set_get h with ⟨ev, q, _⟩ | ⟨ne, q⟩
    · subst ev
      split at q
      · rename_i d e
        exact .inr (.inl ⟨d, q, by rw [q]; exact e⟩)
      · exact .inl q
    · rcases resE_get q with q | q | ⟨n, q⟩
      · exact .inl q
      · exact .inr (.inl q)
      · exact .inr (.inr ⟨fun z => by
          rcases List.mem_cons.mp z with z | z
          · exact ne z.symm
          · exact n z, q⟩)
theorem resE_out : ∀ {vs : List Nat} {en0 en : En} {j : Nat}, j ∉ vs → (resE vs en0 en)[j]? = en[j]?
  | [], _, _, _, _ => rfl
  | v :: vs, en0, en, j, h => by
    show ((resE vs en0 en).set v _)[j]? = _
    rw [List.getElem?_set_ne (fun z => h (by rw [z]; exact List.mem_cons_self)), resE_out (fun z => h (List.mem_cons_of_mem _ z))]
theorem own_res {vs : List Nat} {en2 : En} {a : Addr} (h : Own H σ (resE vs en1 en2) a) : Own H (L2.wipe σ vs) en2 a := by
  obtain ⟨j, b, d, p, e, s, r⟩ := h
  rcases resE_get e with q | ⟨d', q, _⟩ | ⟨n, q⟩
  · cases q
  · cases q
  · exact ⟨j, b, d, p, q, by rw [wipe_out n]; exact s, r⟩
theorem Good.behind {vs : List Nat} {en2 : En} {H2 : Hp} (G1 : Good K B1 H1 σ en1) (hp : ∀ v ∈ vs, ∀ d, en1[v]? ≠ some (.o true d)) (G2 : Good K B' H2 (L2.wipe σ vs) en2) (bx : Bx B1 B' σ en1 H1) (st : Stp (L2.wipe σ vs) (wipeE vs en1) H1 (L2.wipe σ vs) en2 H2) :
    Good K B' H2 σ (resE vs en1 en2) ∧ Stp σ en1 H1 σ (resE vs en1 en2) H2 := by
  have ow2 : ∀ a, Own H2 σ (resE vs en1 en2) a → Own H2 (L2.wipe σ vs) en2 a := fun a h => own_res h
  have t2 : ∀ a o, H2 a = some o → ¬ Un B' H2 (L2.wipe σ vs) en2 a → H2 a = some o ∧ ¬ Un B' H2 σ (resE vs en1 en2) a := fun a o x n => ⟨x, fun z => n (z.imp id (ow2 a))⟩
  have s1 : Stp σ en1 H1 (L2.wipe σ vs) en2 H2 := (Stp.wipe hp).trans st
  have t1 : ∀ a o, H1 a = some o → ¬ Un B1 H1 σ en1 a → H2 a = some o ∧ ¬ Un B' H2 σ (resE vs en1 en2) a := fun a o x n => by
    obtain ⟨q1, q2⟩ := stepTo s1 bx a o x n
    exact ⟨q1, fun z => q2 (z.imp id (ow2 a))⟩
  refine ⟨?_, ?_⟩
  · exact {
      len := by rw [resE_len, ← G2.len, wipe_length]
      all := G2.all
      rep := fun j d e => by
        rcases resE_get e with q | ⟨d', q, z⟩ | ⟨n, q⟩
        · cases q
        · obtain ⟨v, s, r⟩ := G1.rep j d z
          exact ⟨v, s, Rep.to t1 d v r⟩
        · obtain ⟨v, s, r⟩ := G2.rep j d q
          rw [wipe_out n] at s
          exact ⟨v, s, Rep.to t2 d v r⟩
      own := fun j b d e => by
        rcases resE_get e with q | ⟨d', q, z⟩ | ⟨n, q⟩
        · cases q
        · cases q
        · obtain ⟨p, s, n1, c⟩ := G2.own j b d q
          rw [wipe_out n] at s
          exact ⟨p, s, n1, Cont.to t2 (fun _ _ _ x => x) c⟩
      inj := fun j k q q' a b c d d' e1 e2 s1 s2 => by
        rcases resE_get e1 with z | ⟨_, z, _⟩ | ⟨n1, q1⟩
        · cases z
        · cases z
        · rcases resE_get e2 with z | ⟨_, z, _⟩ | ⟨n2, q2⟩
          · cases z
          · cases z
          · exact G2.inj j k q q' a b c d d' q1 q2 (by rw [wipe_out n1]; exact s1) (by rw [wipe_out n2]; exact s2) }
  · exact {
      len := by rw [resE_len]; exact s1.len
      fr := s1.fr
      al := s1.al
      ow := fun a h => s1.ow a (ow2 a h)
      of := fun a h => by
        obtain ⟨j, d, p, e, s, r⟩ := h
        rcases resE_get e with q | ⟨d', q, _⟩ | ⟨n, q⟩
        · cases q
        · cases q
        · exact s1.of a ⟨j, d, p, q, by rw [wipe_out n]; exact s, r⟩
      pin := fun j d e => by
        have nj : j ∉ vs := fun z => hp j z d e
        obtain ⟨_, d', q⟩ := s1.pin j d e
        exact ⟨rfl, d', by rw [resE_out nj]; exact q⟩
      pb := fun j d e => by
        rcases resE_get e with q | ⟨_, q, _⟩ | ⟨_, q⟩
        · cases q
        · cases q
        · exact s1.pb j d q
      pr := fun j d d' p a e1 e2 s r => by
        rcases resE_get e2 with q | ⟨_, q, _⟩ | ⟨_, q⟩
        · cases q
        · cases q
        · exact s1.pr j d d' p a e1 q s r }
def TgW (K : PySem.W.Frag) (g : D → M Unit) (tg : TG) (is : List Nat) : Prop :=
  ∀ {B : Addr → Prop} {H : Hp} {σ : L2.St} {en en2 : En} {d : D} {v : V} {vs : List Nat} {Q : L2.St → Hp → Prop}, (∀ i ∈ is, i ∈ vs) → Good K B H σ en → Rep K (Un B H σ en) H d v → g d en = .ok () en2 →
    (∀ σ', Good K B H σ' en2 → Stp σ en H σ' en2 H → wipe σ' vs = wipe σ vs → Q σ' H) → tg v σ H Q
theorem tgNm (i : Nat) : TgW K (gNm i) (gName i) [i] := fun {B H σ en en2 d v vs Q} his G r e q => by
  unfold gNm at e
  cases hf : freeAt en i with
  | false => rw [hf] at e; cases e
  | true =>
    rw [hf] at e
    cases e
    exact q _ (G.set_v (fun _ h => h) (freeAt_lt hf).1 r) (Stp.set_v hf) (wipe_set (his i List.mem_cons_self))
theorem gNmsW {Q : L2.St → Hp → Prop} {ws : List Nat} : ∀ {is : List Nat} {ds : List D} {vs : List V} {en : En} {σ : L2.St} {en2 : En}, (∀ i ∈ is, i ∈ ws) → Good K B H σ en → RepL K (Un B H σ en) H ds vs → gNms is ds en = .ok () en2 →
    (∀ σ', Good K B H σ' en2 → Stp σ en H σ' en2 H → wipe σ' ws = wipe σ ws → Q σ' H) → gNames is vs σ H Q
  | [], [], vs, en, σ, en2, _, G, r, e, q => by
    unfold RepL at r
    cases e
    exact ⟨r, q σ G (Stp.refl σ _ H) rfl⟩
  | [], d :: ds, vs, en, σ, en2, _, G, r, e, q => by cases e
  | i :: is, [], vs, en, σ, en2, _, G, r, e, q => by cases e
  | i :: is, d :: ds, vs, en, σ, en2, his, G, r, e, q => by
    unfold RepL at r
    obtain ⟨v, us, e1, r1, r2⟩ := r
    unfold gNms at e
    cases hf : freeAt en i with
    | false => rw [hf] at e; cases e
    | true =>
      rw [hf] at e
      have st : Stp σ en H (σ.set i (some v)) (en.set i (.v d)) H := Stp.set_v hf
      refine ⟨v, us, e1, ?_⟩
      exact gNmsW (is := is) (fun i h => his i (List.mem_cons_of_mem _ h)) (G.set_v (fun _ h => h) (freeAt_lt hf).1 r1) (RepL.to (stepTo st (Bx.refl B σ en H)) _ _ r2) e fun σ' g s w => q σ' g (st.trans s) (w.trans (wipe_set (his i List.mem_cons_self)))
theorem tgTp (is : List Nat) : TgW K (gTp is) (gTup K is.length (gNames is)) is := fun {B H σ en en2 d v vs Q} his G r e q => by
  unfold gTp at e
  cases d with
  | tup ds =>
    dsimp only at e
    unfold Rep at r
    obtain ⟨a, xs, e1, nu, ha, r⟩ := r
    exact ⟨a, xs, e1, SqT.of ha, by rw [r.len, gNms_len e], gNmsW his G r e q⟩
  | non => cases e
  | bl _ => cases e
  | int _ => cases e
  | str _ => cases e
  | lst _ => cases e
  | dic _ => cases e
  | obj _ _ => cases e
  | scr _ => cases e
  | exn _ _ => cases e
  | ow _ => cases e
theorem RepL.snoc {y : D} {w : V} : ∀ {ds : List D} {vs : List V}, RepL K U H ds vs → Rep K U H y w → RepL K U H (ds ++ [y]) (vs ++ [w])
  | [], vs, h, r => by
    unfold RepL at h
    subst h
    show RepL K U H [y] [w]
    unfold RepL
    exact ⟨w, [], rfl, r, by unfold RepL; rfl⟩
  | d :: ds, vs, h, r => by
    unfold RepL at h
    obtain ⟨v, us, e, h1, h2⟩ := h
    subst e
    show RepL K U H (d :: (ds ++ [y])) (v :: (us ++ [w]))
    unfold RepL
    exact ⟨v, us ++ [w], rfl, h1, RepL.snoc h2 r⟩
theorem lcImp {it : M (List D)} {g : D → M Unit} {tg : TG} {is : List Nat} {tt : M Bool} {te : M R} {vs : List Nat} (hg : TgW K g tg is) (his : ∀ i ∈ is, i ∈ vs) (m : RdE K W (lcF it g tt te vs) σ H Q) :
    tLc (RdI K W it) tg (RdT K W0 tt) (RdE K W0 te) vs σ H Q := by
  obtain ⟨B, en, G, m⟩ := m
  refine ⟨B, en, G, ?_⟩
  unfold lcF at m
  cases e1 : it en with
  | bad => rw [e1] at m; exact m
  | exc x en1 => rw [e1] at m; exact m
  | ok ds en1 =>
    rw [e1] at m
    dsimp only at m ⊢
    intro J H1 B1 b1 G1 st1 wk Dl hD
    cases e2 : vs.all (freeAt en1) with
    | false => rw [e2] at m; exact m.elim
    | true =>
      rw [e2] at m
      dsimp only at m
      have hpin : ∀ v ∈ vs, ∀ d, en1[v]? ≠ some (.o true d) := fun v h => (freeAt_lt (List.all_eq_true.mp e2 v h)).2
      cases e3 : lcL g tt te vs ds [] (wipeE vs en1) with
      | bad => rw [e3] at m; exact m.elim
      | exc x en2 => rw [e3] at m; exact m.elim
      | ok acc0 en9 =>
        rw [e3] at m
        dsimp only at m
        have bD : Bx B1 (fun a => B1 a ∨ a = Dl) σ en1 H1 := bxNew hD
        refine ⟨fun i k H2 => k + i = ds.length ∧ ∃ en2 accD accV, Good K (fun a => B1 a ∨ a = Dl) H2 (L2.wipe σ vs) en2 ∧ Stp (L2.wipe σ vs) (wipeE vs en1) H1 (L2.wipe σ vs) en2 H2 ∧ H2 Dl = some (.lst accV) ∧ RepL K (Un (fun a => B1 a ∨ a = Dl) H2 (L2.wipe σ vs) en2) H2 accD accV ∧
            lcL g tt te vs (ds.drop i) accD en2 = .ok acc0 en9, ⟨ds.length, by omega, wipeE vs en1, [], [], newOwn hD G1.wipe, (Stp.refl _ _ H1).updNew hD G1.wipe (fun z => by obtain ⟨o, ho⟩ := G1.wipe.ownAt z; rw [hD] at ho; cases ho), upd_same, by unfold RepL; rfl, e3⟩, ?_⟩
        intro i k H2 ⟨ek, en2, accD, accV, G2, st2, hD2, ra, el⟩
        have sw : Stp σ en1 H1 (L2.wipe σ vs) en2 H2 := (Stp.wipe hpin).trans st2
        have kp : Kp (Un B1 H1 σ en1) H1 H2 := sw.kp
        by_cases hi : i < ds.length
        · refine .inr ⟨wk.go i H2 kp hi, fun H' => ∃ m', m' < k ∧ m' + (i + 1) = ds.length ∧ ∃ en2 accD accV, Good K (fun a => B1 a ∨ a = Dl) H' (L2.wipe σ vs) en2 ∧ Stp (L2.wipe σ vs) (wipeE vs en1) H1 (L2.wipe σ vs) en2 H' ∧ H' Dl = some (.lst accV) ∧ RepL K (Un (fun a => B1 a ∨ a = Dl) H' (L2.wipe σ vs) en2) H' accD accV ∧
            lcL g tt te vs (ds.drop (i + 1)) accD en2 = .ok acc0 en9, fun H' z => z, ?_⟩
          intro x H3 hy
          have ed : ds[i]? = some ds[i] := List.getElem?_eq_getElem hi
          obtain ⟨x3, r3⟩ := wk.yld i H2 x H3 ds[i] kp ed hy
          have G3 := G2.ext0 x3
          have st3 : Stp (L2.wipe σ vs) en2 H2 (L2.wipe σ vs) en2 H3 := Stp.ext G2 x3
          have rr : Rep K (Un (fun a => B1 a ∨ a = Dl) H3 (L2.wipe σ vs) en2) H3 ds[i] x := Rep.to (fun a o x n => ⟨x, fun z => n (z.imp id (G2.ownIff (H' := H3) (fun a o _ => x3 a o) a).mp)⟩) _ _ (r3 (Un (fun a => B1 a ∨ a = Dl) H2 (L2.wipe σ vs) en2) (fun a o e1 n z => (stepTo sw bD a o e1 n).2 z) (fun a => G2.unAt))
          rw [List.drop_eq_getElem_cons hi] at el
          unfold lcL at el
          cases e4 : g ds[i] en2 with
          | exc y en3 => rw [e4] at el; cases el
          | bad => rw [e4] at el; cases el
          | ok u en3 =>
            rw [e4] at el
            dsimp only at el
            refine hg his G3 rr e4 fun σ4 G4 st4 w4 => ⟨w4.trans rfl |>.trans (wipe_idem σ vs), ?_⟩
            have wst : L2.wipe σ4 vs = L2.wipe σ vs := w4.trans (wipe_idem σ vs)
            have stA : Stp (L2.wipe σ vs) en2 H2 σ4 en3 H3 := st3.trans st4
            have nD : ∀ {σ : L2.St} {en : En} {H : Hp}, Good K (fun a => B1 a ∨ a = Dl) H σ en → ¬ Own H σ en Dl := fun {σ en H} g z => by
              exact g.ownNB z (.inr rfl)
            -- the next turn, from a state within the block
            have next : ∀ {en6 : En} {H6 : Hp} {accV' : List V} {accD' : List D}, Good K (fun a => B1 a ∨ a = Dl) H6 σ4 en6 → Stp (L2.wipe σ vs) en2 H2 σ4 en6 H6 → RepL K (Un (fun a => B1 a ∨ a = Dl) H6 σ4 en6) H6 accD' accV' → lcL g tt te vs (ds.drop (i + 1)) accD' (wipeE vs en6) = .ok acc0 en9 →
                ∃ m', m' < k ∧ m' + (i + 1) = ds.length ∧ ∃ en2 accD accV, Good K (fun a => B1 a ∨ a = Dl) (upd H6 Dl (.lst accV')) (L2.wipe σ vs) en2 ∧ Stp (L2.wipe σ vs) (wipeE vs en1) H1 (L2.wipe σ vs) en2 (upd H6 Dl (.lst accV')) ∧ (upd H6 Dl (.lst accV')) Dl = some (.lst accV) ∧
                  RepL K (Un (fun a => B1 a ∨ a = Dl) (upd H6 Dl (.lst accV')) (L2.wipe σ vs) en2) (upd H6 Dl (.lst accV')) accD accV ∧ lcL g tt te vs (ds.drop (i + 1)) accD en2 = .ok acc0 en9 := by
              intro en6 H6 accV' accD' G6 st6 ra6 el6
              have hp6 : ∀ v ∈ vs, ∀ d, en6[v]? ≠ some (.o true d) := fun v hv d z => by
                obtain ⟨d', z'⟩ := (st2.trans st6).pb v d z
                rcases wipeE_get z' with q | ⟨n, _⟩
                · cases q
                · exact n hv
              have gw := ((G6.side (p := Dl) (o := .lst accV') (.inr rfl)).wipe (vs := vs))
              rw [wst] at gw
              have gw0 := G6.wipe (vs := vs)
              rw [wst] at gw0
              have sw6 : Stp σ4 en6 H6 (L2.wipe σ4 vs) (wipeE vs en6) H6 := Stp.wipe hp6
              rw [wst] at sw6
              refine ⟨k - 1, by omega, by omega, wipeE vs en6, accD', accV', gw, (((st2.trans st6).trans sw6)).updNew hD gw0 (fun z => gw0.ownNB z (.inr rfl)), upd_same, ?_, el6⟩
              refine RepL.to (fun a o x n => ⟨?_, fun z => n ?_⟩) _ _ ra6
              · rw [upd_ne (fun z => n (by rw [z]; exact .inl (.inr rfl)))]
                exact x
              · rcases z with z | z
                · exact .inl z
                · rw [← wst] at z
                  exact .inr ((G6.ownIff (fun a o r x => by rw [upd_ne (fun z => G6.ownNB r (by rw [z]; exact .inr rfl))]; exact x) a).mp (own_wipe z))
            refine RdT.bind (B := fun a => B1 a ∨ a = Dl) G4 ?_
            cases e5 : tt en3 with
            | exc y en5 => rw [e5] at el; cases el
            | bad => rw [e5] at el; cases el
            | ok b en5 =>
              rw [e5] at el
              intro H5 B5 b5 G5 st5
              have G5' := G5.mono b5.up
              cases b with
              | false =>
                rw [if_neg Bool.false_ne_true]
                have hD5 : H5 Dl = some (.lst accV) := (stA.trans st5).fr Dl _ hD2 (nD G2)
                obtain ⟨m', q1, q2, en', aD, aV, q3⟩ := next G5' (stA.trans st5) (RepL.to (stepTo (stA.trans st5) (Bx.refl _ _ en2 H2)) _ _ ra) el
                have eH : upd H5 Dl (.lst accV) = H5 := by
                  funext a
                  unfold upd
                  split
                  · rename_i z; rw [z, hD5]
                  · rfl
                rw [eH] at q3
                exact ⟨m', q1, q2, en', aD, aV, q3⟩
              | true =>
                rw [if_pos rfl]
                dsimp only at el
                refine ⟨fun a => B1 a ∨ a = Dl, en5, G5', ?_⟩
                cases e6 : te en5 with
                | exc y en6 => rw [e6] at el; cases el
                | bad => rw [e6] at el; cases el
                | ok r en6 =>
                  rw [e6] at el
                  dsimp only at el ⊢
                  intro v H6 ⟨B6, b6, G6, r6, n6⟩ st6
                  cases e7 : stoD r with
                  | none => rw [e7] at el; cases el
                  | some y =>
                    rw [e7] at el
                    dsimp only at el
                    cases e8 : decide (accD.length < 1000000) with
                    | false => rw [e8] at el; cases el
                    | true =>
                      rw [e8] at el
                      dsimp only at el
                      have ry := sto_rep b6 G5' G6 r6 n6 (stoD_of e7)
                      have stT := (stA.trans st5).trans st6
                      have hD6 : H6 Dl = some (.lst accV) := stT.fr Dl _ hD2 (nD G2)
                      refine ⟨accV, hD6, by
                        rw [ra.len]
                        exact Nat.lt_of_lt_of_le (of_decide_eq_true e8) (by decide), ?_⟩
                      exact next (G6.mono b6.up) stT (RepL.snoc (RepL.to (stepTo stT (Bx.refl _ _ en2 H2)) _ _ ra) ry) el
        · have e0 : i = ds.length := by omega
          refine .inl ⟨by rw [e0]; exact wk.stop H2 kp, ?_⟩
          rw [List.drop_eq_nil_of_le (by omega)] at el
          unfold lcL at el
          cases el
          obtain ⟨g9, s9⟩ := Good.behind G1 hpin G2 bD st2
          have hD0 : H Dl = none := Classical.byContradiction fun z => st1.al Dl z hD
          refine m (.ref Dl) H2 ⟨_, b1.trans st1 bD, g9, ⟨Dl, rfl, fun a r => .inr (Rch.flat (d := .lst _) rfl r), accV, hD2, RepL.to (fun a o x n => ⟨x, fun z => n (z.imp id own_res)⟩) _ _ ra⟩, ?_⟩ (st1.trans s9)
          intro q a eq r
          cases eq
          rw [Rch.flat (d := .lst _) rfl r]
          exact .inl hD0
end
section
variable {X : Cx} {W : WX} {elt tg iter c : Expr} {ifs : List Expr} {scope : Scope} {own : List (Str × Nat)} {pos spos : Pos} {it : M (List D)} {g : D → M Unit} {gt : TG} {is : List Nat} {tt : M Bool} {te : M R}
theorem pts_0 : PTs X [] (RdT X.K W yesT) := ⟨fun pins s σ H Q I h => pts_nil.run pins s σ H Q I (by
  obtain ⟨B, en, G, m⟩ := h
  exact m H ⟨B, Bx.refl B σ en H, G⟩ (Stp.refl σ en H))⟩
theorem pts_1 (h : PT X c (RdT X.K W tt)) : PTs X [c] (RdT X.K W tt) := pts_one h
theorem e_lc (hg : TgW X.K g gt is) (hc : X.calm = true) (hN : X.N.Nodup) (hi : PI X tg iter (RdI X.K W it)) (ok : BlkOk X.N X.env.scope scope own)
    (hgt : ∀ (s : Shared) (H : Hp) (C : Addr) (cl : List (Str × Addr)) (fp : List Addr), PG (X.blk s H scope (compEnvC scope cl C X.env) fp) tg gt) (ht : ∀ (s : Shared) (H : Hp) (C : Addr) (cl : List (Str × Addr)) (fp : List Addr), PTs (X.blk s H scope (compEnvC scope cl C X.env) fp) ifs (RdT X.K W0 tt))
    (he : ∀ (s : Shared) (H : Hp) (C : Addr) (cl : List (Str × Addr)) (fp : List Addr), PE (X.blk s H scope (compEnvC scope cl C X.env) fp) elt (RdE X.K W0 te)) (his : ∀ i ∈ is, i ∈ own.map (·.2) := by decide) (hs : ∀ x, foldedSetIterable iter X.env x = pure x := by intro _; rfl) :
    PE X (.ListComp elt [⟨tg, iter, ifs, 0⟩] scope pos) (RdE X.K W (lcF it g tt te (own.map (·.2)))) := pe_imp (pe_lc hc hN hi ok hgt ht he hs) fun σ H Q m => lcImp hg his m
variable {i : Nat} {y : Str} {py : Pos}
theorem s_lcV (hg : TgW X.K g gt is) (hc : X.calm = true) (hN : X.N.Nodup) (hsw : swapsWith (.ListComp elt [⟨tg, iter, ifs, 0⟩] scope pos) (some (.Name y py)) spos.line X.env = pure true) (hi : PI X tg iter (RdI X.K W it)) (ok : BlkOk X.N X.env.scope scope own)
    (hgt : ∀ (s : Shared) (H : Hp) (C : Addr) (cl : List (Str × Addr)) (fp : List Addr), PG (X.blk s H scope (compEnvC scope cl C X.env) fp) tg gt) (ht : ∀ (s : Shared) (H : Hp) (C : Addr) (cl : List (Str × Addr)) (fp : List Addr), PTs (X.blk s H scope (compEnvC scope cl C X.env) fp) ifs (RdT X.K W0 tt))
    (he : ∀ (s : Shared) (H : Hp) (C : Addr) (cl : List (Str × Addr)) (fp : List Addr), PE (X.blk s H scope (compEnvC scope cl C X.env) fp) elt (RdE X.K W0 te)) (hy : X.N[i]? = some y := by rfl) (hyl : X.env.scope.names.lookup y = some .local := by rfl) (his : ∀ i ∈ is, i ∈ own.map (·.2) := by decide) (hs : ∀ x, foldedSetIterable iter X.env x = pure x := by intro _; rfl) :
    PS X (.Assign [.Name y py] (.ListComp elt [⟨tg, iter, ifs, 0⟩] scope pos) spos) (RdS X.K W (asV i (lcF it g tt te (own.map (·.2))))) := by
  refine ps_imp (ps_setLc hc hN hy hyl hsw hi ok hgt ht he hs) fun D σ H m => ?_
  exact lcImp hg his (asVImp m : RdE X.K W (lcF it g tt te (own.map (·.2))) σ H fun x H1 => gName i x σ H1 D.nx)
end
end PyD

namespace PyD
open PySem PySem.Spec L2
section
variable {K : PySem.W.Frag} {U : Addr → Prop} {H H' : Hp} {d a b c : D} {ds : List D} {v : V} {vs : List V} {X : Cx}
theorem ar0 (h : ARepL K U H [] vs) : vs = [] := h
theorem ar1 (h : ARepL K U H [a] vs) : ∃ v, vs = [v] ∧ ARep K U H a v := by
  obtain ⟨v, us, e, h1, h2⟩ := h
  rw [ar0 h2] at e
  exact ⟨v, e, h1⟩
theorem ar2 (h : ARepL K U H [a, b] vs) : ∃ v w, vs = [v, w] ∧ ARep K U H a v ∧ ARep K U H b w := by
  obtain ⟨v, us, e, h1, h2⟩ := h
  obtain ⟨w, e2, h3⟩ := ar1 h2
  rw [e2] at e
  exact ⟨v, w, e, h1, h3⟩
theorem arInt {i : Int} (h : ARep K U H (.int i) v) : v = .int i := by unfold ARep Rep at h; exact h
theorem arBl {i : Bool} (h : ARep K U H (.bl i) v) : v = .bl i := by unfold ARep Rep at h; exact h
theorem arStr {i : Str} (h : ARep K U H (.str i) v) : v = .str i := by unfold ARep Rep at h; exact h
theorem arNon (h : ARep K U H .non v) : v = .non := by unfold ARep Rep at h; exact h
theorem arTup (h : ARep K U H (.tup ds) v) : ∃ p vs, v = .ref p ∧ ¬ U p ∧ H p = some (.tup vs) ∧ RepL K U H ds vs := by unfold ARep Rep at h; exact h
theorem arLst (h : ARep K U H (.lst ds) v) : ∃ p vs, v = .ref p ∧ H p = some (.lst vs) ∧ RepL K U H ds vs := h
theorem arDic {kvs : List (Key × D)} (h : ARep K U H (.dic kvs) v) : ∃ p ws, v = .ref p ∧ H p = some (.dK ws) ∧ RepK K U H kvs ws := h
theorem arExn {C : XN} {fs : List (Str × D)} (h : ARep K U H (.exn C fs) v) : ∃ p, v = .ref p := by
  unfold ARep Rep at h
  obtain ⟨a, _, _, _, e, _⟩ := h
  exact ⟨a, e⟩
theorem arScr {ns : List Int} (h : ARep K U H (.scr ns) v) : ∃ p, v = .ref p ∧ SqL K H p (ns.map V.int) := by
  unfold ARep Rep at h
  obtain ⟨p, e, c⟩ := h
  refine ⟨p, e, ?_⟩
  rcases c with ⟨_, o, c⟩ | c
  · exact .inl (.inr ⟨o, c⟩)
  · exact .inr c
theorem repInt {i : Int} : Rep K U H (.int i) (.int i) := by unfold Rep; rfl
theorem repBl {i : Bool} : Rep K U H (.bl i) (.bl i) := by unfold Rep; rfl
theorem repStr {i : Str} : Rep K U H (.str i) (.str i) := by unfold Rep; rfl
theorem repNon : Rep K U H .non .non := by unfold Rep; rfl
theorem Ext.refl (H : Hp) : Ext H H := fun _ _ h => h
theorem repLExt (x : Ext H H') (r : RepL K U H ds vs) : RepL K U H' ds vs := RepL.to (fun a o e n => ⟨x a o e, n⟩) ds vs r
theorem toNew {p : Addr} {o : HO} (hp : H p = none) : ∀ a x, H a = some x → ¬ U a → upd H p o a = some x ∧ ¬ (U a ∨ a = p) := fun a x e n => ⟨ext_new hp a x e, fun z => by
  rcases z with z | z
  · exact n z
  · rw [z, hp] at e; cases e⟩
theorem newLst {p : Addr} (hp : H p = none) (r : RepL K U H ds vs) : Fresh K U H (upd H p (.lst vs)) (.lst ds) (.ref p) :=
  ⟨p, rfl, hp, ⟨vs, upd_same, RepL.to (toNew hp) _ _ r⟩, rfl⟩
theorem newTup {p : Addr} (hU : ∀ a, U a → H a ≠ none) (hp : H p = none) (r : RepL K U H ds vs) : Rep K U (upd H p (.tup vs)) (.tup ds) (.ref p) := by
  unfold Rep
  exact ⟨p, vs, rfl, fun z => hU p z hp, upd_same, repLExt (ext_new hp) r⟩
theorem RepL.app {es : List D} : ∀ {ds : List D} {vs us : List V}, RepL K U H ds vs → RepL K U H es us → RepL K U H (ds ++ es) (vs ++ us)
  | [], vs, us, h, r => by
    unfold RepL at h
    subst h
    exact r
  | d :: ds, vs, us, h, r => by
    unfold RepL at h
    obtain ⟨v, ws, e, h1, h2⟩ := h
    subst e
    show RepL K U H (d :: (ds ++ es)) (v :: (ws ++ us))
    unfold RepL
    exact ⟨v, ws ++ us, rfl, h1, RepL.app h2 r⟩
theorem RepL.get : ∀ {ds : List D} {vs : List V} {i : Nat} {d : D}, RepL K U H ds vs → ds[i]? = some d → ∃ v, vs[i]? = some v ∧ Rep K U H d v
  | [], _, i, d, _, e => by cases e
  | d :: ds, vs, 0, _, h, e => by
    unfold RepL at h
    obtain ⟨v, ws, e1, h1, h2⟩ := h
    subst e1
    cases e
    exact ⟨v, rfl, h1⟩
  | d :: ds, vs, i + 1, _, h, e => by
    unfold RepL at h
    obtain ⟨v, ws, e1, h1, h2⟩ := h
    subst e1
    exact RepL.get (i := i) h2 e
theorem RepL.drop : ∀ {ds : List D} {vs : List V} (n : Nat), RepL K U H ds vs → RepL K U H (ds.drop n) (vs.drop n)
  | ds, vs, 0, h => h
  | [], vs, n + 1, h => by
    unfold RepL at h
    subst h
    show RepL K U H [] []
    unfold RepL
    rfl
  | d :: ds, vs, n + 1, h => by
    unfold RepL at h
    obtain ⟨v, ws, e1, h1, h2⟩ := h
    subst e1
    exact RepL.drop n h2
theorem RepL.take : ∀ {ds : List D} {vs : List V} (n : Nat), RepL K U H ds vs → RepL K U H (ds.take n) (vs.take n)
  | ds, vs, 0, h => by
    show RepL K U H [] []
    unfold RepL
    rfl
  | [], vs, n + 1, h => by
    unfold RepL at h
    subst h
    show RepL K U H [] []
    unfold RepL
    rfl
  | d :: ds, vs, n + 1, h => by
    unfold RepL at h
    obtain ⟨v, ws, e1, h1, h2⟩ := h
    subst e1
    show RepL K U H (d :: ds.take n) (v :: ws.take n)
    unfold RepL
    exact ⟨v, ws.take n, rfl, h1, RepL.take n h2⟩
theorem RepL.nil : RepL K U H [] [] := by unfold RepL; rfl
theorem RepL.cons {w : V} (h : Rep K U H d w) (r : RepL K U H ds vs) : RepL K U H (d :: ds) (w :: vs) := by
  unfold RepL
  exact ⟨w, vs, rfl, h, r⟩
theorem RepL.inv (h : RepL K U H (d :: ds) vs) : ∃ v us, vs = v :: us ∧ Rep K U H d v ∧ RepL K U H ds us := by unfold RepL at h; exact h
theorem RepL.nil_inv (h : RepL K U H [] vs) : vs = [] := by unfold RepL at h; exact h
theorem RepL.set {d : D} {w : V} : ∀ {ds : List D} {vs : List V} (i : Nat), RepL K U H ds vs → Rep K U H d w → RepL K U H (ds.set i d) (vs.set i w)
  | [], vs, i, h, _ => by rw [h.nil_inv]; exact RepL.nil
  | e :: ds, vs, 0, h, r => by
    obtain ⟨v, us, rfl, h1, h2⟩ := h.inv
    exact RepL.cons r h2
  | e :: ds, vs, i + 1, h, r => by
    obtain ⟨v, us, rfl, h1, h2⟩ := h.inv
    exact RepL.cons h1 (RepL.set i h2 r)
theorem RepL.eraseIdx : ∀ {ds : List D} {vs : List V} (i : Nat), RepL K U H ds vs → RepL K U H (ds.eraseIdx i) (vs.eraseIdx i)
  | [], vs, i, h => by rw [h.nil_inv]; exact RepL.nil
  | e :: ds, vs, 0, h => by
    obtain ⟨v, us, rfl, h1, h2⟩ := h.inv
    exact h2
  | e :: ds, vs, i + 1, h => by
    obtain ⟨v, us, rfl, h1, h2⟩ := h.inv
    exact RepL.cons h1 (RepL.eraseIdx i h2)
theorem RepL.rep {ds : List D} {vs : List V} (h : RepL K U H ds vs) : ∀ k : Nat, RepL K U H (List.replicate k ds).flatten (List.replicate k vs).flatten
  | 0 => RepL.nil
  | k + 1 => by
    rw [List.replicate_succ, List.replicate_succ, List.flatten_cons, List.flatten_cons]
    exact RepL.app h (RepL.rep h k)
theorem RepL.ints : ∀ {ns : List Int} {vs : List V}, RepL K U H (ns.map D.int) vs → vs = ns.map V.int
  | [], vs, h => h.nil_inv
  | n :: ns, vs, h => by
    obtain ⟨v, us, rfl, h1, h2⟩ := RepL.inv h
    unfold Rep at h1
    rw [h1, RepL.ints h2]
    rfl
theorem RepL.strs : ∀ {ns : List Str} {vs : List V}, RepL K U H (ns.map D.str) vs → vs = ns.map V.str
  | [], vs, h => h.nil_inv
  | n :: ns, vs, h => by
    obtain ⟨v, us, rfl, h1, h2⟩ := RepL.inv h
    unfold Rep at h1
    rw [h1, RepL.strs h2]
    rfl
theorem RepL.ofInts : ∀ (ns : List Int), RepL K U H (ns.map D.int) (ns.map V.int)
  | [] => RepL.nil
  | n :: ns => RepL.cons repInt (RepL.ofInts ns)
end
def asInts : List D → Option (List Int)
  | [] => some []
  | .int i :: ds => (asInts ds).map (i :: ·)
  | _ => none
def asStrs : List D → Option (List Str)
  | [] => some []
  | .str i :: ds => (asStrs ds).map (i :: ·)
  | _ => none
def asBls : List D → Option (List Bool)
  | [] => some []
  | .bl i :: ds => (asBls ds).map (i :: ·)
  | _ => none
theorem asInts_of : ∀ {ds : List D} {ns : List Int}, asInts ds = some ns → ds = ns.map D.int
  | [], ns, h => by cases h; rfl
  | .int i :: ds, ns, h => by
    unfold asInts at h
    cases q : asInts ds with
    | none => rw [q] at h; cases h
    | some l => rw [q] at h; cases h; rw [asInts_of q]; rfl
  | .non :: _, _, h => by cases h
  | .bl _ :: _, _, h => by cases h
  | .str _ :: _, _, h => by cases h
  | .tup _ :: _, _, h => by cases h
  | .lst _ :: _, _, h => by cases h
  | .dic _ :: _, _, h => by cases h
  | .obj _ _ :: _, _, h => by cases h
  | .scr _ :: _, _, h => by cases h
  | .exn _ _ :: _, _, h => by cases h
theorem asStrs_of : ∀ {ds : List D} {ns : List Str}, asStrs ds = some ns → ds = ns.map D.str
  | [], ns, h => by cases h; rfl
  | .str i :: ds, ns, h => by
    unfold asStrs at h
    cases q : asStrs ds with
    | none => rw [q] at h; cases h
    | some l => rw [q] at h; cases h; rw [asStrs_of q]; rfl
  | .non :: _, _, h => by cases h
  | .bl _ :: _, _, h => by cases h
  | .int _ :: _, _, h => by cases h
  | .tup _ :: _, _, h => by cases h
  | .lst _ :: _, _, h => by cases h
  | .dic _ :: _, _, h => by cases h
  | .obj _ _ :: _, _, h => by cases h
  | .scr _ :: _, _, h => by cases h
  | .exn _ _ :: _, _, h => by cases h
@[simp] theorem asInts_map : ∀ (ns : List Int), asInts (ns.map D.int) = some ns
  | [] => rfl
  | n :: ns => by
    show (asInts (ns.map D.int)).map (n :: ·) = _
    rw [asInts_map ns]
    rfl
@[simp] theorem asStrs_map : ∀ (ns : List Str), asStrs (ns.map D.str) = some ns
  | [] => rfl
  | n :: ns => by
    show (asStrs (ns.map D.str)).map (n :: ·) = _
    rw [asStrs_map ns]
    rfl
@[simp] theorem asBls_map : ∀ (ns : List Bool), asBls (ns.map D.bl) = some ns
  | [] => rfl
  | n :: ns => by
    show (asBls (ns.map D.bl)).map (n :: ·) = _
    rw [asBls_map ns]
    rfl
def addD : List D → Option (Bool × D)
  | [.int a, .int b] => some (false, .int (a + b))
  | [.int a, .bl b] => some (false, .int (a + PyProof.Rows.b2i b))
  | [.str a, .str b] => if a.length + b.length ≤ sizeLine then some (false, .str (a ++ b)) else none
  | [.lst a, .lst b] => if a.length + b.length ≤ sizeLine then some (true, .lst (a ++ b)) else none
  | [.tup a, .tup b] => if a.length + b.length ≤ sizeLine then some (false, .tup (a ++ b)) else none
  | _ => none
def rAddU (K : PySem.W.Frag) : R2 := fun x y H Q => (rI0 (fun i j => .int (i + j)) x y H Q) ∨ (∃ i k, x = .int i ∧ y = .bl k ∧ Q (.int (i + PyProof.Rows.b2i k)) H) ∨ (∃ i j, x = .str i ∧ y = .str j ∧ i.length + j.length ≤ sizeLine ∧ Q (.str (i ++ j)) H) ∨ rCat x y H Q ∨ rCatA K x y H Q
theorem op_addU {X : Cx} : OpR X (binaryOp .Add) (rAddU X.K) := OpR.or op_add (OpR.or op_add_ib (OpR.or op_add_str (OpR.or op_cat op_catA)))
theorem prim_add {K : PySem.W.Frag} : Prim K (r2 (rAddU K)) addD := by
  intro U H ds vs Q b d hU ar e post
  unfold addD at e
  split at e
  · obtain ⟨v, w, rfl, h1, h2⟩ := ar2 ar
    cases e
    rw [arInt h1, arInt h2]
    exact ⟨_, _, rfl, .inl ⟨_, _, rfl, rfl, post _ H (Ext.refl H) (fun _ => repInt) (fun z => by cases z)⟩⟩
  · obtain ⟨v, w, rfl, h1, h2⟩ := ar2 ar
    cases e
    rw [arInt h1, arBl h2]
    exact ⟨_, _, rfl, .inr (.inl ⟨_, _, rfl, rfl, post _ H (Ext.refl H) (fun _ => repInt) (fun z => by cases z)⟩)⟩
  · obtain ⟨v, w, rfl, h1, h2⟩ := ar2 ar
    split at e
    · rename_i q
      cases e
      rw [arStr h1, arStr h2]
      exact ⟨_, _, rfl, .inr (.inr (.inl ⟨_, _, rfl, rfl, q, post _ H (Ext.refl H) (fun _ => repStr) (fun z => by cases z)⟩))⟩
    · cases e
  · obtain ⟨v, w, rfl, h1, h2⟩ := ar2 ar
    split at e
    · rename_i q
      cases e
      obtain ⟨p1, xs, rfl, q1, r1⟩ := arLst h1
      obtain ⟨p2, ys, rfl, q2, r2⟩ := arLst h2
      refine ⟨_, _, rfl, .inr (.inr (.inr (.inl ⟨p1, p2, xs, ys, rfl, rfl, q1, q2, by rw [r1.len, r2.len]; exact q, fun p hp => ?_⟩)))⟩
      exact post _ _ (ext_new hp) (fun z => by cases z) (fun _ => newLst hp (RepL.app r1 r2))
    · cases e
  · obtain ⟨v, w, rfl, h1, h2⟩ := ar2 ar
    split at e
    · rename_i q
      cases e
      obtain ⟨p1, xs, rfl, n1, q1, r1⟩ := arTup h1
      obtain ⟨p2, ys, rfl, n2, q2, r2⟩ := arTup h2
      refine ⟨_, _, rfl, .inr (.inr (.inr (.inr ⟨p1, p2, xs, ys, rfl, rfl, SqT.of q1, SqT.of q2, by rw [r1.len, r2.len]; exact q, fun z => ?_, fun z1 z2 => ?_, fun z1 z2 p hp => ?_⟩)))⟩
      · have e0 := r1.len
        rw [z] at e0
        have e1 := List.eq_nil_of_length_eq_zero e0.symm
        subst e1
        exact post _ H (Ext.refl H) (fun _ => h2) (fun z => by cases z)
      · have e0 := r2.len
        rw [z2] at e0
        have e1 := List.eq_nil_of_length_eq_zero e0.symm
        subst e1
        rw [List.append_nil] at post
        exact post _ H (Ext.refl H) (fun _ => h1) (fun z => by cases z)
      · exact post _ _ (ext_new hp) (fun _ => newTup hU hp (RepL.app r1 r2)) (fun z => by cases z)
    · cases e
  · cases e
def int2 (f : Int → Int → Option D) : List D → Option (Bool × D)
  | [.int a, .int b] => (f a b).map fun d => (false, d)
  | _ => none
def subD : List D → Option (Bool × D) := int2 fun a b => some (.int (a - b))
def modD : List D → Option (Bool × D) := int2 fun a b => if 0 < b then some (.int (a % b)) else none
def fdvD : List D → Option (Bool × D) := int2 fun a b => if 0 < b ∧ b.natAbs.log2 ≤ 8000 then some (.int (a / b)) else none
def powD : List D → Option (Bool × D) := int2 fun a b => if 0 ≤ b ∧ b ≤ 1000 ∧ a.natAbs < 2 ^ 64 then some (.int (a ^ b.toNat)) else none
theorem prim_int2 {K : PySem.W.Frag} {C : Int → Int → Prop} {f : Int → Int → Option D} {g : Int → Int → V} (h : ∀ a b d, f a b = some d → C a b ∧ ∀ U H, Rep K U H d (g a b)) : Prim K (r2 (rI C g)) (int2 f) := by
  intro U H ds vs Q b d hU ar e post
  unfold int2 at e
  split at e
  · rename_i x y
    obtain ⟨v, w, rfl, h1, h2⟩ := ar2 ar
    cases q : f x y with
    | none => rw [q] at e; cases e
    | some d' =>
      rw [q] at e
      cases e
      obtain ⟨c, r⟩ := h x y _ q
      rw [arInt h1, arInt h2]
      exact ⟨_, _, rfl, _, _, rfl, rfl, c, post _ H (Ext.refl H) (fun _ => r U H) (fun z => by cases z)⟩
  · cases e
theorem op_subU {X : Cx} : OpR X (binaryOp .Sub) (rI (fun _ _ => True) fun i j => .int (i - j)) := fun pins s σ H x y v u Q I rx ry ⟨i, j, h1, h2, _, q⟩ => op_sub pins s σ H x y v u Q I rx ry ⟨i, j, h1, h2, q⟩
theorem prim_sub {K : PySem.W.Frag} : Prim K (r2 (rI (fun _ _ => True) fun i j => .int (i - j))) subD := prim_int2 fun a b d e => by
  cases e
  exact ⟨trivial, fun _ _ => repInt⟩
theorem prim_mod {K : PySem.W.Frag} : Prim K (r2 (rI (fun _ j => 0 < j) fun i j => .int (i % j))) modD := prim_int2 fun a b d e => by
  split at e
  · rename_i q
    cases e
    exact ⟨q, fun _ _ => repInt⟩
  · cases e
theorem prim_fdv {K : PySem.W.Frag} : Prim K (r2 (rI CDivW fun i j => .int (i / j))) fdvD := prim_int2 fun a b d e => by
  split at e
  · rename_i q
    cases e
    exact ⟨⟨q.1, Nat.lt_of_le_of_lt q.2 (by decide)⟩, fun _ _ => repInt⟩
  · cases e
def mulOk (a b : Int) : Prop := (-(2 ^ 64) < a ∧ a < 2 ^ 64) ∨ (-(2 ^ 64) < b ∧ b < 2 ^ 64)
instance (a b : Int) : Decidable (mulOk a b) := by unfold mulOk; infer_instance
def mulD : List D → Option (Bool × D)
  | [.int a, .int b] => if mulOk a b then some (false, .int (a * b)) else none
  | [.lst a, .int k] => if -(2 ^ 63) ≤ k ∧ k < 2 ^ 63 ∧ a.length * k.toNat ≤ sizeLine then some (true, .lst (List.replicate k.toNat a).flatten) else none
  | [.tup a, .int k] => if a.length ≤ 1000 ∧ 0 < a.length ∧ 2 ≤ k ∧ k ≤ 1000 then some (false, .tup (List.replicate k.toNat a).flatten) else none
  | [.str a, .int k] => if a.length ≤ 1000 ∧ -1000 ≤ k ∧ k ≤ 1000 then some (false, .str ⟨(List.replicate k.toNat a.cps.toList).flatten.toArray⟩) else none
  | _ => none
theorem foldl_cps (l : List Nat) : ∀ (k : Nat) (acc : List Nat), List.foldl (fun x1 x2 => x1 ++ x2) acc.toArray (List.replicate k l.toArray) = (acc ++ (List.replicate k l).flatten).toArray
  | 0, acc => by simp
  | k + 1, acc => by
    rw [List.replicate_succ, List.foldl_cons]
    have : acc.toArray ++ l.toArray = (acc ++ l).toArray := by simp
    rw [this, foldl_cps l k, List.replicate_succ, List.flatten_cons, List.append_assoc]
def rRepS : R2 := fun x y H Q => ∃ a k, x = .str a ∧ y = .int k ∧ a.length ≤ 1000 ∧ -1000 ≤ k ∧ k ≤ 1000 ∧ Q (.str ⟨(List.replicate k.toNat a.cps.toList).flatten.toArray⟩) H
theorem rep_len (l : List Nat) : ∀ k : Nat, (List.replicate k l).flatten.length = k * l.length
  | 0 => by simp
  | k + 1 => by
    rw [List.replicate_succ, List.flatten_cons, List.length_append, rep_len l k, Nat.succ_mul, Nat.add_comm]
theorem op_repS {X : Cx} : OpR X (binaryOp .Mult) rRepS := by
  intro pins s σ H x y v u Q I rx ry h
  obtain ⟨a, k, rfl, rfl, h1, h2, h3, q⟩ := h
  obtain ⟨t, rfl⟩ := rx
  obtain ⟨t2, rfl⟩ := ry
  have szl : sizeLine = 16777216 := rfl
  have hal : a.length = a.cps.toList.length := by
    unfold Str.length
    rw [Array.length_toList]
  have prod : a.length * k.toNat ≤ 1000 * 1000 := Nat.mul_le_mul h1 (by omega)
  refine PySem.P.mul_str (by rw [decide_eq_false (by omega), decide_eq_false (by omega)] <;> rfl) (fun g1 _ g2 => ?_) (fun g1 _ => ?_) ?_
  · have : (1000 : Int) ≤ (2 ^ 63 - 1) / k := by
      rw [Int.le_ediv_iff_mul_le (by omega)]
      have : 1000 * k ≤ 1000 * 1000 := by omega
      omega
    omega
  · unfold Builtin.Str.tooLong
    exact decide_eq_false (by omega)
  · have fin : ∀ z : Str, z = ⟨(List.replicate k.toNat a.cps.toList).flatten.toArray⟩ → ∀ (tk t' : Nat), EP X pins σ Q (.str z tk) { s with toks := t' } := fun z ez tk t' => by
      rw [ez]
      exact ⟨.str _, H, I.tok t', ⟨tk, rfl⟩, q⟩
    split
    · rename_i g
      have k0 : k.toNat = 0 := by omega
      refine ⟨by decide, fin _ ?_ _ _⟩
      rw [k0]
      rfl
    · rename_i g
      split
      · rename_i g2
        have e : a = ⟨(List.replicate k.toNat a.cps.toList).flatten.toArray⟩ := by
          rcases Bool.or_eq_true_iff.mp g2 with g3 | g3
          · have k1 : k = 1 := eq_of_beq g3
            subst k1
            show a = ⟨(List.replicate 1 a.cps.toList).flatten.toArray⟩
            simp
          · have l0 : a.length = 0 := eq_of_beq g3
            have c0 : a.cps.toList = [] := List.eq_nil_of_length_eq_zero (by rw [← hal]; exact l0)
            rw [c0]
            have : (List.replicate k.toNat ([] : List Nat)).flatten = [] := List.eq_nil_of_length_eq_zero (by rw [rep_len]; simp)
            rw [this]
            cases a with
            | mk c =>
              have : c = #[] := by
                have := c0
                cases c
                simp_all
              rw [this]
        exact fin a e t s.toks
      · have eq0 := foldl_cps a.cps.toList k.toNat []
        have e2 : (List.replicate k.toNat a.cps).foldl (fun x1 x2 => x1 ++ x2) #[] = (List.replicate k.toNat a.cps.toList).flatten.toArray := by
          have : a.cps.toList.toArray = a.cps := by simp
          rw [this] at eq0
          simpa using eq0
        refine ⟨?_, fin _ ?_ _ _⟩
        · show ((List.replicate k.toNat a.cps).foldl (fun x1 x2 => x1 ++ x2) #[]).size ≤ sizeLine
          rw [e2, List.size_toArray, rep_len, ← hal, Nat.mul_comm]
          omega
        · exact congrArg Str.mk e2
def rMulU (K : PySem.W.Frag) : R2 := fun x y H Q => rI CMul (fun i j => .int (i * j)) x y H Q ∨ rRep x y H Q ∨ rRepT K x y H Q ∨ rRepS x y H Q
theorem op_mulU {X : Cx} : OpR X (binaryOp .Mult) (rMulU X.K) := OpR.or op_mul (OpR.or op_rep (OpR.or op_repT op_repS))
theorem prim_mul {K : PySem.W.Frag} : Prim K (r2 (rMulU K)) mulD := by
  intro U H ds vs Q b d hU ar e post
  unfold mulD at e
  split at e
  · obtain ⟨v, w, rfl, h1, h2⟩ := ar2 ar
    split at e
    · rename_i q
      cases e
      rw [arInt h1, arInt h2]
      exact ⟨_, _, rfl, .inl ⟨_, _, rfl, rfl, q, post _ H (Ext.refl H) (fun _ => repInt) (fun z => by cases z)⟩⟩
    · cases e
  · obtain ⟨v, w, rfl, h1, h2⟩ := ar2 ar
    split at e
    · rename_i q
      cases e
      obtain ⟨p1, xs, rfl, q1, r1⟩ := arLst h1
      rw [arInt h2]
      refine ⟨_, _, rfl, .inr (.inl ⟨p1, _, xs, rfl, rfl, q1, q.1, q.2.1, by rw [r1.len]; exact q.2.2, fun p hp => ?_⟩)⟩
      exact post _ _ (ext_new hp) (fun z => by cases z) (fun _ => newLst hp (RepL.rep r1 _))
    · cases e
  · obtain ⟨v, w, rfl, h1, h2⟩ := ar2 ar
    split at e
    · rename_i q
      cases e
      obtain ⟨p1, xs, rfl, n1, q1, r1⟩ := arTup h1
      rw [arInt h2]
      refine ⟨_, _, rfl, .inr (.inr (.inl ⟨p1, _, xs, rfl, rfl, SqT.of q1, ?_, q.2.2.1, q.2.2.2, by rw [r1.len]; exact q.1, fun p hp => ?_⟩))⟩
      · intro z
        have := r1.len
        rw [z] at this
        have := q.2.1
        simp at *
        omega
      · exact post _ _ (ext_new hp) (fun _ => newTup hU hp (RepL.rep r1 _)) (fun z => by cases z)
    · cases e
  · obtain ⟨v, w, rfl, h1, h2⟩ := ar2 ar
    split at e
    · rename_i q
      cases e
      rw [arStr h1, arInt h2]
      exact ⟨_, _, rfl, .inr (.inr (.inr ⟨_, _, rfl, rfl, q.1, q.2.1, q.2.2, post _ H (Ext.refl H) (fun _ => repStr) (fun z => by cases z)⟩))⟩
    · cases e
  · cases e
def negD : List D → Option (Bool × D)
  | [.int a] => some (false, .int (-a))
  | _ => none
theorem prim_neg {K : PySem.W.Frag} : Prim K (r1 (rU fun i => .int (-i))) negD := by
  intro U H ds vs Q b d hU ar e post
  unfold negD at e
  split at e
  · obtain ⟨v, rfl, h1⟩ := ar1 ar
    cases e
    rw [arInt h1]
    exact ⟨_, rfl, _, rfl, post _ H (Ext.refl H) (fun _ => repInt) (fun z => by cases z)⟩
  · cases e
mutual
def toPy : D → Option PyData
  | .non => some .none
  | .bl b => some (.bool b)
  | .int i => some (.int i)
  | .str s => some (.str s)
  | .tup ds => (toPyL ds).map .tuple
  | .lst ds => (toPyL ds).map .list
  | .dic _ => none
  | .obj _ _ => none
  | .scr _ => none
  | .exn _ _ => none
  | .ow _ => none
def toPyL : List D → Option (List PyData)
  | [] => some []
  | d :: ds => match toPy d with
    | some p => (match toPyL ds with
      | some ps => some (p :: ps)
      | none => none)
    | none => none
end
section
variable {K : PySem.W.Frag} {U : Addr → Prop} {H H' : Hp}
mutual
theorem dp_of : ∀ {d : D} {v : V} {p : PyData}, Rep K U H d v → toPy d = some p → Dp K H v p
  | .non, v, p, r, e => by
    unfold Rep at r
    unfold toPy at e
    cases e
    rw [r]
    exact .non
  | .bl _, v, p, r, e => by
    unfold Rep at r
    unfold toPy at e
    cases e
    rw [r]
    exact .bl _
  | .int _, v, p, r, e => by
    unfold Rep at r
    unfold toPy at e
    cases e
    rw [r]
    exact .int _
  | .str _, v, p, r, e => by
    unfold Rep at r
    unfold toPy at e
    cases e
    rw [r]
    exact .str _
  | .tup ds, v, p, r, e => by
    unfold Rep at r
    unfold toPy at e
    obtain ⟨a, vs, e1, _, ha, rl⟩ := r
    cases q : toPyL ds with
    | none => rw [q] at e; cases e
    | some ps =>
      rw [q] at e
      cases e
      rw [e1]
      exact .tup (SqT.of ha) (dpL_of rl q)
  | .lst ds, v, p, r, e => by
    unfold Rep at r
    unfold toPy at e
    obtain ⟨a, vs, e1, _, ha, rl⟩ := r
    cases q : toPyL ds with
    | none => rw [q] at e; cases e
    | some ps =>
      rw [q] at e
      cases e
      rw [e1]
      exact .lst (SqL.of ha) (dpL_of rl q)
  | .dic _, _, _, _, e => by unfold toPy at e; cases e
  | .obj _ _, _, _, _, e => by unfold toPy at e; cases e
  | .scr _, _, _, _, e => by unfold toPy at e; cases e
  | .exn _ _, _, _, _, e => by unfold toPy at e; cases e
  | .ow _, _, _, _, e => by unfold toPy at e; cases e
theorem dpL_of : ∀ {ds : List D} {vs : List V} {ps : List PyData}, RepL K U H ds vs → toPyL ds = some ps → DpAll K H vs ps
  | [], vs, ps, r, e => by
    unfold toPyL at e
    cases e
    rw [r.nil_inv]
    exact .nil
  | d :: ds, vs, ps, r, e => by
    unfold RepL at r
    obtain ⟨v, us, e1, h1, h2⟩ := r
    unfold toPyL at e
    cases q : toPy d with
    | none => rw [q] at e; cases e
    | some p =>
      rw [q] at e
      dsimp only at e
      cases q2 : toPyL ds with
      | none => rw [q2] at e; cases e
      | some ps' =>
        rw [q2] at e
        cases e
        rw [e1]
        exact .cons (dp_of h1 q) (dpL_of h2 q2)
end
theorem adp_of {d : D} {v : V} {p : PyData} (r : ARep K U H d v) (e : toPy d = some p) : Dp K H v p := by
  cases d with
  | lst ds =>
    obtain ⟨a, vs, e1, ha, rl⟩ := r
    unfold toPy at e
    cases q : toPyL ds with
    | none => rw [q] at e; cases e
    | some ps =>
      rw [q] at e
      cases e
      rw [e1]
      exact .lst (SqL.of ha) (dpL_of rl q)
  | dic _ => unfold toPy at e; cases e
  | obj _ _ => unfold toPy at e; cases e
  | scr _ => unfold toPy at e; cases e
  | exn _ _ => unfold toPy at e; cases e
  | ow _ => unfold toPy at e; cases e
  | non => exact dp_of (U := U) (d := .non) r e
  | bl _ => exact dp_of (U := U) (d := .bl _) r e
  | int _ => exact dp_of (U := U) (d := .int _) r e
  | str _ => exact dp_of (U := U) (d := .str _) r e
  | tup _ => exact dp_of (U := U) (d := .tup _) r e
end
def eqD (a b : D) : Option Bool := match toPy a, toPy b with
  | some p, some q => if SeqAt.shaped p = true ∧ SeqAt.shaped q = true then some (PyData.eqv p q) else none
  | _, _ => none
def eqOp (n : Bool) : List D → Option (Bool × D)
  | [a, b] => (eqD a b).map fun k => (false, .bl (k != n))
  | _ => none
def rEqU (K : PySem.W.Frag) (n : Bool) : R2 := fun x y H Q => ∃ d e, Dp K H x d ∧ Dp K H y e ∧ SeqAt.shaped d = true ∧ SeqAt.shaped e = true ∧ Q (.bl (PyData.eqv d e != n)) H
theorem op_eqU {X : Cx} (hu : X.A.units + 64 < cLine) : OpR X (compareOp .Eq) (rEqU X.K false) := fun pins s σ H x y v u Q I rx ry ⟨d, e, h1, h2, h3, h4, q⟩ => op_eqD hu pins s σ H x y v u Q I rx ry ⟨d, e, h1, h2, h3, h4, by simpa using q⟩
theorem op_neU {X : Cx} (hu : X.A.units + 64 < cLine) : OpR X (compareOp .NotEq) (rEqU X.K true) := fun pins s σ H x y v u Q I rx ry ⟨d, e, h1, h2, h3, h4, q⟩ => op_neD hu pins s σ H x y v u Q I rx ry ⟨d, e, h1, h2, h3, h4, by simpa using q⟩
theorem prim_eq {K : PySem.W.Frag} {n : Bool} : Prim K (r2 (rEqU K n)) (eqOp n) := by
  intro U H ds vs Q b d hU ar e post
  unfold eqOp at e
  split at e
  · rename_i x y
    obtain ⟨v, w, rfl, h1, h2⟩ := ar2 ar
    unfold eqD at e
    split at e
    · rename_i p q hp hq
      split at e
      · rename_i c
        cases e
        exact ⟨_, _, rfl, p, q, adp_of h1 hp, adp_of h2 hq, c.1, c.2, post _ H (Ext.refl H) (fun _ => repBl) (fun z => by cases z)⟩
      · cases e
    · cases e
  · cases e
def ordD (f : Int → Int → Bool) (g : List Nat → List Nat → Bool) : List D → Option (Bool × D)
  | [.int a, .int b] => some (false, .bl (f a b))
  | [.str a, .str b] => some (false, .bl (g a.cps.toList b.cps.toList))
  | _ => none
def rOrdU (f : Int → Int → Bool) (g : List Nat → List Nat → Bool) : R2 := fun x y H Q => rI0 (fun i j => .bl (f i j)) x y H Q ∨ ∃ i j, x = .str i ∧ y = .str j ∧ Q (.bl (g i.cps.toList j.cps.toList)) H
theorem op_ltU {X : Cx} : OpR X (compareOp .Lt) (rOrdU (fun i j => decide (i < j)) fun i j => decide (i < j)) := OpR.or op_lt op_lt_str
theorem op_gtU {X : Cx} : OpR X (compareOp .Gt) (rOrdU (fun i j => decide (j < i)) fun i j => decide (j < i)) := OpR.or op_gt op_gt_str
theorem prim_ord {K : PySem.W.Frag} {f : Int → Int → Bool} {g : List Nat → List Nat → Bool} : Prim K (r2 (rOrdU f g)) (ordD f g) := by
  intro U H ds vs Q b d hU ar e post
  unfold ordD at e
  split at e
  · obtain ⟨v, w, rfl, h1, h2⟩ := ar2 ar
    cases e
    rw [arInt h1, arInt h2]
    exact ⟨_, _, rfl, .inl ⟨_, _, rfl, rfl, post _ H (Ext.refl H) (fun _ => repBl) (fun z => by cases z)⟩⟩
  · obtain ⟨v, w, rfl, h1, h2⟩ := ar2 ar
    cases e
    rw [arStr h1, arStr h2]
    exact ⟨_, _, rfl, .inr ⟨_, _, rfl, rfl, post _ H (Ext.refl H) (fun _ => repBl) (fun z => by cases z)⟩⟩
  · cases e
abbrev ltD := ordD (fun i j => decide (i < j)) fun i j => decide (i < j)
abbrev gtD := ordD (fun i j => decide (j < i)) fun i j => decide (j < i)
def isB : D → D → Option Bool
  | .non, .non => some true
  | _, .non => some false
  | .bl a, .bl b => some (a == b)
  | .non, .bl _ => none
  | _, _ => none
def isOp (n : Bool) : List D → Option (Bool × D)
  | [a, b] => (isB a b).map fun k => (false, .bl (k != n))
  | _ => none
def rIsU (n : Bool) : R2 := fun x y H Q => (y = .non ∧ Q (.bl (decide (x = .non) != n)) H) ∨ ∃ a b : Bool, x = .bl a ∧ y = .bl b ∧ Q (.bl (decide (a = b) != n)) H
theorem op_isnU {X : Cx} : OpR X (compareOp .IsNot) (rIsU true) := fun pins s σ H x y v u Q I rx ry h => by
  rcases h with ⟨h, q⟩ | ⟨a, b, h1, h2, q⟩
  · exact op_notN pins s σ H x y v u Q I rx ry ⟨h, by simpa using q⟩
  · exact op_notBl pins s σ H x y v u Q I rx ry ⟨a, b, h1, h2, by simpa using q⟩
theorem prim_is {K : PySem.W.Frag} {n : Bool} : Prim K (r2 (rIsU n)) (isOp n) := by
  intro U H ds vs Q b d hU ar e post
  unfold isOp at e
  split at e
  · rename_i x y
    obtain ⟨v, w, rfl, h1, h2⟩ := ar2 ar
    cases q : isB x y with
    | none => rw [q] at e; cases e
    | some k =>
      rw [q] at e
      cases e
      have pk := post (.bl (k != n)) H (Ext.refl H) (fun _ => repBl) (fun z => by cases z)
      refine ⟨v, w, rfl, ?_⟩
      unfold isB at q
      split at q
      · cases q
        refine .inl ⟨arNon h2, ?_⟩
        rw [arNon h1, decide_eq_true rfl]
        exact pk
      · rename_i hne
        cases q
        refine .inl ⟨arNon h2, ?_⟩
        rw [decide_eq_false]
        · exact pk
        · intro z
          subst z
          apply hne
          cases x with
          | non => rfl
          | bl _ => exact absurd (arBl h1) (by intro z; cases z)
          | int _ => exact absurd (arInt h1) (by intro z; cases z)
          | str _ => exact absurd (arStr h1) (by intro z; cases z)
          | tup _ => obtain ⟨_, _, z, _⟩ := arTup h1; cases z
          | lst _ => obtain ⟨_, _, z, _⟩ := arLst h1; cases z
          | dic _ => obtain ⟨_, _, z, _⟩ := arDic h1; cases z
          | scr _ => obtain ⟨_, z, _⟩ := arScr h1; cases z
          | exn _ _ => obtain ⟨_, z⟩ := arExn h1; cases z
          | ow _ => exact absurd rfl (HdN.ne h1)
          | obj _ _ => obtain ⟨_, _, _, _, z, _⟩ := h1; cases z
      · rename_i a' b'
        cases q
        refine .inr ⟨a', b', arBl h1, arBl h2, ?_⟩
        have : decide (a' = b') = (a' == b') := by cases a' <;> cases b' <;> rfl
        rw [this]
        exact pk
      · cases q
      · cases q
  · cases e
end PyD

namespace PyD
open PySem PySem.Spec L2
def lenD : List D → Option (Bool × D)
  | [.str s] => if s.length ≤ sizeLine then some (false, .int s.length) else none
  | [.lst ds] => some (false, .int ds.length)
  | [.tup ds] => some (false, .int ds.length)
  | [.scr ns] => some (false, .int ns.length)
  | [.dic ds] => some (false, .int ds.length)
  | _ => none
def rLenU (K : PySem.W.Frag) : List V → Hp → VK → Prop := fun xs H Q => (∃ x n, xs = [x] ∧ LenV K x H n ∧ Q (.int n) H) ∨ ∃ a kvs, xs = [V.ref a] ∧ H a = some (.dK kvs) ∧ Q (.int kvs.length) H
theorem cr_lenU {X : Cx} : CallR X (.builtin "len") (rLenU X.K) := CallR_or call_len call_lenD
theorem RepK.len {K : PySem.W.Frag} {U : Addr → Prop} {H : Hp} : ∀ {ds : List (Key × D)} {vs : List (Key × V)}, RepK K U H ds vs → vs.length = ds.length
  | [], vs, h => by
    unfold RepK at h
    rw [h] <;> rfl
  | (k, d) :: ds, vs, h => by
    unfold RepK at h
    obtain ⟨v, us, e, _, r⟩ := h
    rw [e, List.length_cons, List.length_cons, RepK.len r]
theorem prim_len {K : PySem.W.Frag} : Prim K (rLenU K) lenD := by
  intro U H ds vs Q b d hU ar e post
  unfold lenD at e
  split at e
  · obtain ⟨v, rfl, h1⟩ := ar1 ar
    split at e
    · rename_i q
      cases e
      rw [arStr h1]
      exact .inl ⟨_, _, rfl, ⟨q, rfl⟩, post _ H (Ext.refl H) (fun _ => repInt) (fun z => by cases z)⟩
    · cases e
  · obtain ⟨v, rfl, h1⟩ := ar1 ar
    cases e
    obtain ⟨p, xs, rfl, hp, r⟩ := arLst h1
    exact .inl ⟨_, xs.length, rfl, .inl ⟨xs, SqL.of hp, rfl⟩, by rw [r.len]; exact post _ H (Ext.refl H) (fun _ => repInt) (fun z => by cases z)⟩
  · obtain ⟨v, rfl, h1⟩ := ar1 ar
    cases e
    obtain ⟨p, xs, rfl, _, hp, r⟩ := arTup h1
    exact .inl ⟨_, xs.length, rfl, .inr ⟨xs, SqT.of hp, rfl⟩, by rw [r.len]; exact post _ H (Ext.refl H) (fun _ => repInt) (fun z => by cases z)⟩
  · rename_i ns
    obtain ⟨v, rfl, h1⟩ := ar1 ar
    cases e
    obtain ⟨p, rfl, hp⟩ := arScr h1
    exact .inl ⟨_, _, rfl, .inl ⟨_, hp, rfl⟩, by rw [List.length_map]; exact post _ H (Ext.refl H) (fun _ => repInt) (fun z => by cases z)⟩
  · obtain ⟨v, rfl, h1⟩ := ar1 ar
    cases e
    obtain ⟨p, xs, rfl, hp, r⟩ := arDic h1
    exact .inr ⟨p, xs, rfl, hp, by rw [r.len]; exact post _ H (Ext.refl H) (fun _ => repInt) (fun z => by cases z)⟩
  · cases e
def ixD : List D → Option (Bool × D)
  | [.lst ds, .int i] => (atI ds i).map fun d => (false, d)
  | [.tup ds, .int i] => (atI ds i).map fun d => (false, d)
  | [.str s, .int i] => if s.length ≤ sizeLine then (atI s.cps.toList i).map fun c => (false, .str ⟨#[c]⟩) else none
  | [.scr ns, .int i] => (atI ns i).map fun n => (false, .int n)
  | _ => none
theorem atI_rep {K : PySem.W.Frag} {U : Addr → Prop} {H : Hp} {ds : List D} {vs : List V} {i : Int} {d : D} (r : RepL K U H ds vs) (h : atI ds i = some d) : ∃ v, atI vs i = some v ∧ Rep K U H d v := by
  unfold atI at h ⊢
  rw [r.len]
  cases q : ixN ds.length i with
  | none => rw [q] at h; cases h
  | some j =>
    rw [q] at h
    exact RepL.get r h
theorem atI_map {α β : Type} {f : α → β} {l : List α} {i : Int} : atI (l.map f) i = (atI l i).map f := by
  unfold atI
  rw [List.length_map]
  cases ixN l.length i with
  | none => rfl
  | some j =>
    show (l.map f)[j]? = (l[j]?).map f
    rw [List.getElem?_map]
theorem prim_ix {K : PySem.W.Frag} : Prim K (r2 (rIx K)) ixD := by
  intro U H ds vs Q b d hU ar e post
  unfold ixD at e
  split at e
  · rename_i xs i
    obtain ⟨v, w, rfl, h1, h2⟩ := ar2 ar
    obtain ⟨p, ys, rfl, hp, r⟩ := arLst h1
    rw [arInt h2]
    cases q : atI xs i with
    | none => rw [q] at e; cases e
    | some d' =>
      rw [q] at e
      cases e
      obtain ⟨v, hv, rv⟩ := atI_rep r q
      exact ⟨_, _, rfl, .inl ⟨p, ys, i, v, rfl, rfl, SqL.of hp, hv, post v H (Ext.refl H) (fun _ => rv) (fun z => by cases z)⟩⟩
  · rename_i xs i
    obtain ⟨v, w, rfl, h1, h2⟩ := ar2 ar
    obtain ⟨p, ys, rfl, _, hp, r⟩ := arTup h1
    rw [arInt h2]
    cases q : atI xs i with
    | none => rw [q] at e; cases e
    | some d' =>
      rw [q] at e
      cases e
      obtain ⟨v, hv, rv⟩ := atI_rep r q
      exact ⟨_, _, rfl, .inr (.inl ⟨p, ys, i, v, rfl, rfl, SqT.of hp, hv, post v H (Ext.refl H) (fun _ => rv) (fun z => by cases z)⟩)⟩
  · rename_i s i
    obtain ⟨v, w, rfl, h1, h2⟩ := ar2 ar
    rw [arStr h1, arInt h2]
    split at e
    · rename_i hl
      cases q : atI s.cps.toList i with
      | none => rw [q] at e; cases e
      | some c =>
        rw [q] at e
        cases e
        exact ⟨_, _, rfl, .inr (.inr ⟨s, i, c, rfl, rfl, hl, q, post _ H (Ext.refl H) (fun _ => repStr) (fun z => by cases z)⟩)⟩
    · cases e
  · rename_i ns i
    obtain ⟨v, w, rfl, h1, h2⟩ := ar2 ar
    obtain ⟨p, rfl, hp⟩ := arScr h1
    rw [arInt h2]
    cases q : atI ns i with
    | none => rw [q] at e; cases e
    | some c =>
      rw [q] at e
      cases e
      exact ⟨_, _, rfl, .inl ⟨p, _, i, .int c, rfl, rfl, hp, by rw [atI_map, q] <;> rfl, post _ H (Ext.refl H) (fun _ => repInt) (fun z => by cases z)⟩⟩
  · cases e
def cutL {α : Type} (xs : List α) (lo hi : Option Int) : List α := (xs.drop (HT.sIx xs.length 0 lo)).take (HT.sIx xs.length xs.length hi - HT.sIx xs.length 0 lo)
def slD : D → Option Int → Option Int → Option (Bool × D)
  | .lst ds, lo, hi => some (true, .lst (cutL ds lo hi))
  | .tup ds, lo, hi => some (false, .tup (cutL ds lo hi))
  | .str s, lo, hi => if s.length ≤ sizeLine then some (false, .str ⟨(cutL s.cps.toList lo hi).toArray⟩) else none
  | .scr ns, lo, hi => some (true, .lst ((cutL ns lo hi).map .int))
  | _, _, _ => none
def rSlU (K : PySem.W.Frag) : V → Option Int → Option Int → Hp → VK → Prop := fun x lo hi H Q => rSlL K x lo hi H Q ∨ rSlA K x lo hi H Q ∨ rSlS x lo hi H Q
theorem sl_U {X : Cx} : SlR X (rSlU X.K) := SlR.or sl_list (SlR.or sl_tupA sl_str)
theorem RepL.cut {K : PySem.W.Frag} {U : Addr → Prop} {H : Hp} {ds : List D} {vs : List V} (r : RepL K U H ds vs) (lo hi : Option Int) : RepL K U H (cutL ds lo hi) (cutV vs lo hi) := by
  unfold cutL cutV
  rw [r.len]
  exact RepL.take _ (RepL.drop _ r)
theorem cutS_eq (s : Str) (lo hi : Option Int) : cutS s lo hi = ⟨(cutL s.cps.toList lo hi).toArray⟩ := by
  unfold cutS cutL Str.length
  simp [clipS_eq]
theorem cutV_ints (ns : List Int) (lo hi : Option Int) : cutV (ns.map V.int) lo hi = (cutL ns lo hi).map V.int := by
  unfold cutV cutL
  rw [List.length_map, List.map_take, List.map_drop]
theorem prim_sl {K : PySem.W.Frag} : PrimSl K (rSlU K) slD := by
  intro U H d v lo hi Q b d' hU ar e post
  unfold slD at e
  split at e
  · cases e
    obtain ⟨p, ys, rfl, hp, r⟩ := arLst ar
    exact .inl ⟨p, ys, rfl, SqL.of hp, fun q hq => post _ _ (ext_new hq) (fun z => by cases z) (fun _ => newLst hq (r.cut lo hi))⟩
  · cases e
    obtain ⟨p, ys, rfl, _, hp, r⟩ := arTup ar
    refine .inr (.inl ⟨p, ys, rfl, SqT.of hp, fun z => ?_, fun z q hq => post _ _ (ext_new hq) (fun _ => newTup hU hq (r.cut lo hi)) (fun z => by cases z)⟩)
    have : ∀ {α : Type} (l : List α), HT.sIx l.length 0 lo = 0 ∧ HT.sIx l.length l.length hi = l.length → cutL l lo hi = l := fun l z => by
      unfold cutL
      rw [z.1, z.2]
      simp
    rw [r.len] at z
    rw [this _ z] at post
    exact post _ H (Ext.refl H) (fun _ => ar) (fun z => by cases z)
  · split at e
    · rename_i q
      cases e
      rw [arStr ar]
      exact .inr (.inr ⟨_, rfl, q, by rw [cutS_eq]; exact post _ H (Ext.refl H) (fun _ => repStr) (fun z => by cases z)⟩)
    · cases e
  · cases e
    obtain ⟨p, rfl, hp⟩ := arScr ar
    refine .inl ⟨p, _, rfl, hp, fun q hq => post _ _ (ext_new hq) (fun z => by cases z) (fun _ => newLst hq ?_)⟩
    rw [cutV_ints]
    exact RepL.ofInts _
  · cases e
def flatS : D → Bool
  | .non => true
  | .bl _ => true
  | .int _ => true
  | .str _ => true
  | _ => false
def eqS : D → D → Bool
  | .non, .non => true
  | .bl a, .bl b => a == b
  | .bl a, .int b => (if a then 1 else 0) == b
  | .int a, .bl b => a == (if b then 1 else 0)
  | .int a, .int b => a == b
  | .str a, .str b => a == b
  | _, _ => false
def inS (a b : Str) : Bool := !(Builtin.Str.occurrences b a 0 b.length 1).isEmpty
def inOp (n : Bool) : List D → Option (Bool × D)
  | [x, .lst ds] => if flatS x = true ∧ ds.all flatS = true then some (false, .bl ((ds.any fun y => eqS y x) != n)) else none
  | [x, .tup ds] => if flatS x = true ∧ ds.all flatS = true then some (false, .bl ((ds.any fun y => eqS y x) != n)) else none
  | [.str a, .str b] => some (false, .bl (inS a b != n))
  | _ => none
def rInU (K : PySem.W.Frag) (n : Bool) : R2 := fun x y H Q => rIn K n x y H Q ∨ ∃ i j, x = .str i ∧ y = .str j ∧ Q (.bl (inS i j != n)) H
theorem op_inU {X : Cx} : OpR X (compareOp .In) (rInU X.K false) := OpR.or op_in_seq (fun pins s σ H x y v u Q I rx ry ⟨i, j, h1, h2, q⟩ => op_in_str pins s σ H x y v u Q I rx ry ⟨i, j, h1, h2, by unfold inS at q; simpa using q⟩)
section
variable {K : PySem.W.Frag} {U : Addr → Prop} {H H' : Hp}
theorem flatS_v : ∀ {d : D} {v : V}, flatS d = true → ARep K U H d v → flatV v = true
  | .non, v, _, r => by rw [arNon r] <;> rfl
  | .bl _, v, _, r => by rw [arBl r] <;> rfl
  | .int _, v, _, r => by rw [arInt r] <;> rfl
  | .str _, v, _, r => by rw [arStr r] <;> rfl
  | .tup _, _, h, _ => by cases h
  | .lst _, _, h, _ => by cases h
  | .dic _, _, h, _ => by cases h
  | .obj _ _, _, h, _ => by cases h
  | .scr _, _, h, _ => by cases h
  | .exn _ _, _, h, _ => by cases h
theorem eqS_v {d e : D} {v w : V} (h1 : flatS d = true) (h2 : flatS e = true) (r1 : ARep K U H d v) (r2 : ARep K U H e w) : eqV v w = eqS d e := by
  cases d <;> cases e <;> first
    | (cases h1; done)
    | (cases h2; done)
    | skip
  all_goals (first | rw [arNon r1] | rw [arBl r1] | rw [arInt r1] | rw [arStr r1])
  all_goals (first | rw [arNon r2] | rw [arBl r2] | rw [arInt r2] | rw [arStr r2])
  all_goals rfl
theorem inV_of {x : D} {w : V} (hx : flatS x = true) (rx : ARep K U H x w) : ∀ {ds : List D} {vs : List V}, ds.all flatS = true → RepL K U H ds vs → vs.all flatV = true ∧ inV w vs = ds.any fun y => eqS y x
  | [], vs, _, r => by
    rw [r.nil_inv]
    exact ⟨rfl, rfl⟩
  | d :: ds, vs, h, r => by
    obtain ⟨v, us, rfl, h1, h2⟩ := r.inv
    rw [List.all_cons, Bool.and_eq_true] at h
    obtain ⟨q1, q2⟩ := inV_of hx rx h.2 h2
    refine ⟨by rw [List.all_cons, flatS_v h.1 h1.arep, q1] <;> rfl, ?_⟩
    unfold inV at q2 ⊢
    rw [List.any_cons, List.any_cons, q2, eqS_v h.1 hx h1.arep rx]
end
theorem prim_in {K : PySem.W.Frag} {n : Bool} : Prim K (r2 (rInU K n)) (inOp n) := by
  intro U H ds vs Q b d hU ar e post
  have nb : ∀ k : Bool, (if n then !k else k) = (k != n) := fun k => by cases n <;> cases k <;> rfl
  unfold inOp at e
  split at e
  · obtain ⟨v, w, rfl, h1, h2⟩ := ar2 ar
    split at e
    · rename_i q
      cases e
      obtain ⟨p, ys, rfl, hp, r⟩ := arLst h2
      obtain ⟨q1, q2⟩ := inV_of q.1 h1 q.2 r
      exact ⟨_, _, rfl, .inl ⟨p, ys, rfl, .inl (SqL.of hp), flatS_v q.1 h1, q1, by rw [q2, nb]; exact post _ H (Ext.refl H) (fun _ => repBl) (fun z => by cases z)⟩⟩
    · cases e
  · obtain ⟨v, w, rfl, h1, h2⟩ := ar2 ar
    split at e
    · rename_i q
      cases e
      obtain ⟨p, ys, rfl, _, hp, r⟩ := arTup h2
      obtain ⟨q1, q2⟩ := inV_of q.1 h1 q.2 r
      exact ⟨_, _, rfl, .inl ⟨p, ys, rfl, .inr (SqT.of hp), flatS_v q.1 h1, q1, by rw [q2, nb]; exact post _ H (Ext.refl H) (fun _ => repBl) (fun z => by cases z)⟩⟩
    · cases e
  · obtain ⟨v, w, rfl, h1, h2⟩ := ar2 ar
    cases e
    rw [arStr h1, arStr h2]
    exact ⟨_, _, rfl, .inr ⟨_, _, rfl, rfl, post _ H (Ext.refl H) (fun _ => repBl) (fun z => by cases z)⟩⟩
  · cases e
def tyD : D → Option String
  | .non => some "NoneType"
  | .bl _ => some "bool"
  | .int _ => some "int"
  | .str _ => some "str"
  | .tup _ => some "tuple"
  | .lst _ => some "list"
  | .dic _ => some "dict"
  | .scr _ => none
  | .exn _ _ => none
  | .obj _ _ => none
  | .ow _ => none
def isTy (t T : String) : Bool := t == T || (t == "bool" && T == "int")
theorem kit_all : ∀ t ∈ ["NoneType", "bool", "int", "str", "tuple", "list", "dict"], ∀ T ∈ ["int", "bool", "str", "tuple", "list"], kitB t T = some (isTy t T) := by decide +kernel
def okTy (T : String) : Bool := ["int", "bool", "str", "tuple", "list"].contains T
def isiD (T : String) : List D → Option (Bool × D)
  | [d] => match tyD d with
    | some t => some (false, .bl (isTy t T))
    | none => none
  | _ => none
theorem tyD_of {K : PySem.W.Frag} {U : Addr → Prop} {H : Hp} : ∀ {d : D} {v : V} {t : String}, ARep K U H d v → tyD d = some t → TyX K H v (.type t)
  | .non, v, t, r, e => by cases e; rw [arNon r]; exact .base .non
  | .bl _, v, t, r, e => by cases e; rw [arBl r]; exact .base (.bl _)
  | .int _, v, t, r, e => by cases e; rw [arInt r]; exact .base (.int _)
  | .str _, v, t, r, e => by cases e; rw [arStr r]; exact .base (.str _)
  | .tup _, v, t, r, e => by cases e; obtain ⟨p, xs, rfl, _, hp, _⟩ := arTup r; exact .base (.tup hp)
  | .lst _, v, t, r, e => by cases e; obtain ⟨p, xs, rfl, hp, _⟩ := arLst r; exact .base (.lst hp)
  | .dic _, v, t, r, e => by cases e; obtain ⟨p, xs, rfl, hp, _⟩ := arDic r; exact .base (.dK hp)
  | .obj _ _, _, _, _, e => by cases e
  | .scr _, _, _, _, e => by cases e
  | .exn _ _, _, _, _, e => by cases e
  | .ow _, _, _, _, e => by cases e
theorem tyD_mem : ∀ {d : D} {t : String}, tyD d = some t → t ∈ ["NoneType", "bool", "int", "str", "tuple", "list", "dict"] := fun {d t} e => by
  cases d <;> cases e <;> decide
theorem isiImp {K : PySem.W.Frag} {W : WX} {T : String} {fa : M R} {σ : L2.St} {H : Hp} {Q : VK} (hT : okTy T = true) (m : RdE K W (opF (isiD T) (one fa)) σ H Q) : tCB (rIsi K) (tCons (RdE K W fa) (tCons (tC (.ty T)) tNil)) σ H Q := by
  have hp : Prim K (fun vs H Q => ∃ x, vs = [x] ∧ rIsi K [x, .ty T] H Q) (isiD T) := by
    intro U H ds vs Q b d hU ar e post
    unfold isiD at e
    split at e
    · rename_i d0
      obtain ⟨v, rfl, h1⟩ := ar1 ar
      cases q : tyD d0 with
      | none => rw [q] at e; cases e
      | some t =>
        rw [q] at e
        cases e
        have hT' : T ∈ ["int", "bool", "str", "tuple", "list"] := by
          unfold okTy at hT
          exact List.contains_iff_mem.mp hT
        exact ⟨v, rfl, v, .ty T, .type t, .type T, _, rfl, .ty T, tyD_of h1 q, kit_ty (kit_all t (tyD_mem q) T hT'), post _ H (Ext.refl H) (fun _ => repBl) (fun z => by cases z)⟩
    · cases e
  refine RdE.mono (fun x H1 q => ?_) (imp1 (opImp hp m))
  obtain ⟨x', e, z⟩ := q
  cases e
  exact z
theorem e_isi {X : Cx} {W : WX} {p p2 pos : Pos} {a : Expr} {fa : M R} {x : Str} {T : String} (hg : Gl X "isinstance") (hm : X.mg "isinstance" = none) (hg2 : Gl X x) (hm2 : X.mg x = none) (hv2 : bootBuiltins x = some (.type T)) (hT : okTy T = true) (ha : PE X a (RdE X.K W fa))
    (hn : x ≠ "__name__" := by decide) (hd : (x == ("__debug__" : Str)) = false := by decide)
    (he : starEach [a, .Name x p2] X.env = (false, eval a X.env) :: starEach [.Name x p2] X.env := by rfl) (he2 : starEach [.Name x p2] X.env = (false, eval (.Name x p2) X.env) :: starEach [] X.env := by rfl) (hpl : (backTo pos (starEach [.Name x p2] X.env)).any (·.1) = false := by rfl) :
    PE X (.Call (.Name "isinstance" p) [a, .Name x p2] [] pos) (RdE X.K W (opF (isiD T) (one fa))) :=
  pe_imp (pe_callB call_isi hg hm PyProof.Rows.boot_isinstance (pa_cons ha (pa_cons (pe_bltn (v := .ty T) hg2 hm2 hv2 rfl hn hd) pa_nil he2) he) (by decide) (by decide) he hpl) fun σ H Q m => isiImp hT m
def bmF (isT : D → Bool) (g : List D → Option (Bool × D)) (fo : M R) (fs : M (List R)) : M R := fun en => match fo en with
  | .ok r en1 => (match rsl en1 r with
    | some d0 => (match isT d0 with
      | true => (match fs en1 with
        | .ok rs en2 => (match rsls en2 (r :: rs) with
          | some ds => (match g ds with
            | some (b, d) => .ok (mkR b d) en2
            | none => .bad)
          | none => .bad)
        | .exc x en2 => .exc x en2
        | .bad => .bad)
      | false => .bad)
    | none => .bad)
  | .exc x en1 => .exc x en1
  | .bad => .bad
def isStr : D → Bool
  | .str _ => true
  | _ => false
def TyA (K : PySem.W.Frag) (T : String) (isT : D → Bool) : Prop := ∀ (U : Addr → Prop) (H : Hp) (d : D) (v : V), isT d = true → ARep K U H d v → tyV K T v H
theorem ta_str {K : PySem.W.Frag} : TyA K "str" isStr := fun U H d v h r => by
  cases d with
  | str s => rw [arStr r] <;> rfl
  | _ => cases h
def rM (r : V → List V → Hp → VK → Prop) : List V → Hp → VK → Prop := fun vs H Q => ∃ x xs, vs = x :: xs ∧ r x xs H Q
theorem bmImp {K : PySem.W.Frag} {W : WX} {T : String} {isT : D → Bool} {g : List D → Option (Bool × D)} {fo : M R} {fs : M (List R)} {r : V → List V → Hp → VK → Prop} {σ : L2.St} {H : Hp} {Q : VK} (hT : TyA K T isT) (hp : Prim K (rM r) g) (m : RdE K W (bmF isT g fo fs) σ H Q) :
    tBM K T r (RdE K W fo) (RdA K W fs) σ H Q := by
  obtain ⟨B, en, G, m⟩ := m
  refine ⟨B, en, G, ?_⟩
  unfold bmF at m
  cases e1 : fo en with
  | bad => rw [e1] at m; exact m
  | exc x en1 => rw [e1] at m; exact m
  | ok r0 en1 =>
    rw [e1] at m
    dsimp only at m ⊢
    intro v H1 ⟨B1, b1, G1, ra, fn⟩ st1
    cases e2 : rsl en1 r0 with
    | none => rw [e2] at m; exact m.elim
    | some d0 =>
      rw [e2] at m
      dsimp only at m
      cases e3 : isT d0 with
      | false => rw [e3] at m; exact m.elim
      | true =>
        rw [e3] at m
        dsimp only at m
        refine ⟨hT _ _ _ _ e3 (ArgR.arep G1 ra e2), B1, en1, G1, ?_⟩
        cases e4 : fs en1 with
        | bad => rw [e4] at m; exact m
        | exc x en2 => rw [e4] at m; exact fun c od H' ex g st => m c od H' (ex.mono fun a z => Un.mono b1.up z) (g.mono b1.up) (st1.trans st)
        | ok rs en2 =>
          rw [e4] at m
          dsimp only at m ⊢
          intro vs H2 ⟨B2, b2, G2, ra2, fn2⟩ st2
          cases e5 : rsls en2 (r0 :: rs) with
          | none => rw [e5] at m; exact m.elim
          | some ds =>
            rw [e5] at m
            dsimp only at m
            cases e6 : g ds with
            | none => rw [e6] at m; exact m.elim
            | some bd =>
              obtain ⟨b, d⟩ := bd
              rw [e6] at m
              dsimp only at m
              have ra' : ArgRs K B2 σ en2 H2 (r0 :: rs) (v :: vs) := ArgRs.cons' G1 st2 b2 ra ra2 fn2
              have fin : rM r (v :: vs) H2 Q := hp (Un B2 H2 σ en2) H2 ds (v :: vs) Q b d (fun a => G2.unAt) (ArgRs.arep G2 ra' e5) e6 fun v' H4 x4 h1 h2 => by
                have st4 := ((st1.trans st2).trans (Stp.ext G2 x4))
                have oi := G2.ownIff (H' := H4) (fun a o _ => x4 a o)
                have bb := b1.trans st1 b2
                cases b with
                | false => exact m v' H4 ⟨B2, bb, G2.ext0 x4, Rep.to (fun a o x n => ⟨x, fun z => n (z.imp id (oi a).mp)⟩) _ _ (h1 rfl), trivial⟩ st4
                | true =>
                  obtain ⟨p, ep, np, c, fl⟩ := h2 rfl
                  obtain ⟨o, ho⟩ := c.at
                  have hp0 : H p = none := Classical.byContradiction fun z => (st1.trans st2).al p z np
                  refine m v' H4 ⟨fun x => B2 x ∨ x = p, bb.trans (st1.trans st2) (bxNew np), G2.ext x4 (fun a h => ?_), ⟨p, ep, fun a r => .inr (Rch.flat fl r), Cont.to (fun a o x n => ⟨x, fun q => n ((un_or q).imp (fun z => z.imp id (oi a).mp) id)⟩) (fun _ _ _ x => x) c⟩, ?_⟩ st4
                  · rcases h with h | h
                    · exact .inl h
                    · rw [h, ho]; exact .inr ⟨np, by simp⟩
                  · intro q a e r
                    rw [ep] at e
                    cases e
                    rw [Rch.flat fl r]
                    exact .inl hp0
              obtain ⟨x, xs, ex, q⟩ := fin
              cases ex
              exact q
theorem e_bm {X : Cx} {W : WX} {o e : Expr} {es : List Expr} {fo : M R} {fs : M (List R)} {name : Str} {apos cpos : Pos} {T id : String} {r : V → List V → Hp → VK → Prop} {isT : D → Bool} {g : List D → Option (Bool × D)} (hT : TyA X.K T isT) (hp : Prim X.K (rM r) g) (pa : PlainAttrs T) (slot : Slot T name id) (hty : typeOf (.builtin id) = pure (.type "method_descriptor")) (hm : MtR X id r) (ho : PE X o (RdE X.K W fo)) (ha : PA X (e :: es) (RdA X.K W fs))
    (hbase : attributeBase o name X.env (eval o X.env) = eval o X.env := by rfl)
    (hfew : ((backTo cpos (starEach (e :: es) X.env)).all (fun x => !x.1) && (backToKw cpos (keywordEach [] X.env)).all (fun x => x.1.isSome)
      && decide ((e :: es).length + ([] : List Keyword).length + (if ([] : List Keyword).isEmpty then 0 else 1) < 30)) = true := by rfl)
    (hline : (apos.endLine == cpos.line) = true := by rfl) (hs : starEach (e :: es) X.env = (false, eval e X.env) :: starEach es X.env := by rfl) (hplain : (backTo cpos (starEach es X.env)).any (·.1) = false := by rfl) :
    PE X (.Call (.Attribute o name apos) (e :: es) [] cpos) (RdE X.K W (bmF isT g fo fs)) :=
  pe_imp (pe_bm pa slot hty hm ho ha hbase hfew hline hs hplain) fun σ H Q m => bmImp hT hp m
def joinD : List D → Option (Bool × D)
  | [.str a, .lst ds] => match asStrs ds with
    | some ys => if (ys.map (·.length)).sum + ys.length * a.length ≤ 16777216 then some (false, .str (Txt.join a ys)) else none
    | none => none
  | [.str a, .tup ds] => match asStrs ds with
    | some ys => if (ys.map (·.length)).sum + ys.length * a.length ≤ 16777216 then some (false, .str (Txt.join a ys)) else none
    | none => none
  | _ => none
def rJoin (K : PySem.W.Frag) : V → List V → Hp → VK → Prop := fun x xs H Q => ∃ a p, ∃ ys : List Str, x = .str a ∧ xs = [.ref p] ∧ (SqL K H p (ys.map V.str) ∨ SqT K H p (ys.map V.str)) ∧
    (ys.map (·.length)).sum + ys.length * a.length ≤ 16777216 ∧ Q (.str (Txt.join a ys)) H
theorem prim_join {K : PySem.W.Frag} : Prim K (rM (rJoin K)) joinD := by
  intro U H ds vs Q b d hU ar e post
  unfold joinD at e
  split at e
  · rename_i a xs
    obtain ⟨v, w, rfl, h1, h2⟩ := ar2 ar
    cases q : asStrs xs with
    | none => rw [q] at e; cases e
    | some ys =>
      rw [q] at e
      dsimp only at e
      split at e
      · rename_i hl
        cases e
        obtain ⟨p, us, rfl, hp, r⟩ := arLst h2
        rw [asStrs_of q] at r
        rw [arStr h1]
        exact ⟨_, _, rfl, a, p, ys, rfl, rfl, .inl (by rw [← r.strs]; exact SqL.of hp), hl, post _ H (Ext.refl H) (fun _ => repStr) (fun z => by cases z)⟩
      · cases e
  · rename_i a xs
    obtain ⟨v, w, rfl, h1, h2⟩ := ar2 ar
    cases q : asStrs xs with
    | none => rw [q] at e; cases e
    | some ys =>
      rw [q] at e
      dsimp only at e
      split at e
      · rename_i hl
        cases e
        obtain ⟨p, us, rfl, _, hp, r⟩ := arTup h2
        rw [asStrs_of q] at r
        rw [arStr h1]
        exact ⟨_, _, rfl, a, p, ys, rfl, rfl, .inr (by rw [← r.strs]; exact SqT.of hp), hl, post _ H (Ext.refl H) (fun _ => repStr) (fun z => by cases z)⟩
      · cases e
  · cases e
def countD : List D → Option (Bool × D)
  | [.str a, .str b] => some (false, .int (Txt.count a b))
  | _ => none
def rCount : V → List V → Hp → VK → Prop := fun x xs H Q => ∃ a b, x = .str a ∧ xs = [.str b] ∧ Q (.int (Txt.count a b)) H
theorem prim_count {K : PySem.W.Frag} : Prim K (rM rCount) countD := by
  intro U H ds vs Q b d hU ar e post
  unfold countD at e
  split at e
  · obtain ⟨v, w, rfl, h1, h2⟩ := ar2 ar
    cases e
    rw [arStr h1, arStr h2]
    exact ⟨_, _, rfl, _, _, rfl, rfl, post _ H (Ext.refl H) (fun _ => repInt) (fun z => by cases z)⟩
  · cases e
def listD : List D → Option (Bool × D)
  | [.lst ds] => some (true, .lst ds)
  | [.tup ds] => some (true, .lst ds)
  | [.scr ns] => some (true, .lst (ns.map .int))
  | [.dic kvs] => some (true, .lst (kvs.map fun kv => match kv.1 with | .inl i => .int i | .inr s => .str s))
  | _ => none
theorem RepK.keys {K : PySem.W.Frag} {U : Addr → Prop} {H : Hp} : ∀ {ds : List (Key × D)} {vs : List (Key × V)}, RepK K U H ds vs → RepL K U H (ds.map fun kv => match kv.1 with | .inl i => .int i | .inr s => .str s) (vs.map fun kv => kV kv.1)
  | [], vs, h => by
    unfold RepK at h
    rw [h]
    exact RepL.nil
  | (k, d) :: ds, vs, h => by
    unfold RepK at h
    obtain ⟨v, us, rfl, _, r⟩ := h
    refine RepL.cons ?_ (RepK.keys r)
    cases k with
    | inl i => exact repInt
    | inr s => exact repStr
def tupleD : List D → Option (Bool × D)
  | [.lst ds] => some (false, .tup ds)
  | [.tup ds] => some (false, .tup ds)
  | _ => none
def intD : List D → Option (Bool × D)
  | [.int i] => some (false, .int i)
  | [.bl k] => some (false, .int (if k then 1 else 0))
  | [.str a] => match PySem.intText? a with
    | some n => if a.length ≤ 640 then some (false, .int n) else none
    | none => none
  | _ => none
def rIntU : List V → Hp → VK → Prop := fun xs H Q => ((∃ i, xs = [.int i] ∧ Q (.int i) H) ∨ ∃ k, xs = [.bl k] ∧ Q (.int (if k then 1 else 0)) H) ∨ ∃ a n, xs = [.str a] ∧ PySem.intText? a = some n ∧ a.length ≤ 640 ∧ Q (.int n) H
theorem cr_intU {X : Cx} : CallR X (.type "int") rIntU := CallR_or call_int1 call_int_str
theorem prim_int {K : PySem.W.Frag} : Prim K rIntU intD := by
  intro U H ds vs Q b d hU ar e post
  unfold intD at e
  split at e
  · obtain ⟨v, rfl, h1⟩ := ar1 ar
    cases e
    rw [arInt h1]
    exact .inl (.inl ⟨_, rfl, post _ H (Ext.refl H) (fun _ => repInt) (fun z => by cases z)⟩)
  · obtain ⟨v, rfl, h1⟩ := ar1 ar
    cases e
    rw [arBl h1]
    exact .inl (.inr ⟨_, rfl, post _ H (Ext.refl H) (fun _ => repInt) (fun z => by cases z)⟩)
  · rename_i a
    obtain ⟨v, rfl, h1⟩ := ar1 ar
    rw [arStr h1]
    cases q : PySem.intText? a with
    | none => rw [q] at e; cases e
    | some n =>
      rw [q] at e
      dsimp only at e
      split at e
      · rename_i hl
        cases e
        exact .inr ⟨a, n, rfl, q, hl, post _ H (Ext.refl H) (fun _ => repInt) (fun z => by cases z)⟩
      · cases e
  · cases e
def maxI (i j : Int) : Int := if j > i then j else i
def minI (i j : Int) : Int := if j < i then j else i
def max2D : List D → Option (Bool × D)
  | [.int i, .int j] => some (false, .int (maxI i j))
  | _ => none
def min2D : List D → Option (Bool × D)
  | [.int i, .int j] => some (false, .int (minI i j))
  | _ => none
def rMx2 : List V → Hp → VK → Prop := fun xs H Q => ∃ i j, xs = [.int i, .int j] ∧ Q (.int (if j > i then j else i)) H
def rMn2 : List V → Hp → VK → Prop := fun xs H Q => ∃ i j, xs = [.int i, .int j] ∧ Q (.int (if j < i then j else i)) H
theorem prim_max2 {K : PySem.W.Frag} : Prim K rMx2 max2D := by
  intro U H ds vs Q b d hU ar e post
  unfold max2D at e
  split at e
  · obtain ⟨v, w, rfl, h1, h2⟩ := ar2 ar
    cases e
    rw [arInt h1, arInt h2]
    exact ⟨_, _, rfl, post _ H (Ext.refl H) (fun _ => repInt) (fun z => by cases z)⟩
  · cases e
theorem prim_min2 {K : PySem.W.Frag} : Prim K rMn2 min2D := by
  intro U H ds vs Q b d hU ar e post
  unfold min2D at e
  split at e
  · obtain ⟨v, w, rfl, h1, h2⟩ := ar2 ar
    cases e
    rw [arInt h1, arInt h2]
    exact ⟨_, _, rfl, post _ H (Ext.refl H) (fun _ => repInt) (fun z => by cases z)⟩
  · cases e
end PyD

namespace PyD
open PySem PySem.Spec L2
def itA (h : List D → Option (List D)) (fs : M (List R)) : M (List D) := fun en => match fs en with
  | .ok rs en1 => (match stos rs with
    | some ds => (match h ds with
      | some out => .ok out en1
      | none => .bad)
    | none => .bad)
  | .exc x en1 => .exc x en1
  | .bad => .bad
def PrimI (K : PySem.W.Frag) (r : List V → Hp → (It → Hp → Prop) → Prop) (h : List D → Option (List D)) : Prop :=
  ∀ (U : Addr → Prop) (H : Hp) (ds : List D) (vs : List V) (out : List D) (Rr : It → Hp → Prop), (∀ a, U a → H a ≠ none) → RepL K U H ds vs → h ds = some out → (∀ J, WalkD K U H J out → Rr J H) → r vs H Rr
section
variable {K : PySem.W.Frag} {W : WX} {B B' B1 : Addr → Prop} {U U' : Addr → Prop} {H H' H1 : Hp} {σ σ' σ1 : L2.St} {en en' en1 : En} {d : D} {v : V} {i : Nat} {p : Addr} {ds : List D} {fs : M (List R)}
theorem itAImp {r : List V → Hp → (It → Hp → Prop) → Prop} {h : List D → Option (List D)} {Rr : It → Hp → Prop} (hp : PrimI K r h) (m : RdI K W (itA h fs) σ H Rr) : RdA K W fs σ H fun vs H1 => r vs H1 Rr := by
  obtain ⟨B, en, G, m⟩ := m
  refine ⟨B, en, G, ?_⟩
  unfold itA at m
  cases e1 : fs en with
  | bad => rw [e1] at m; exact m
  | exc x en1 => rw [e1] at m; exact m
  | ok rs en1 =>
    rw [e1] at m
    dsimp only at m ⊢
    intro vs H1 ⟨B1, b1, G1, a1, n1⟩ st1
    cases e2 : stos rs with
    | none => rw [e2] at m; exact m.elim
    | some ds =>
      rw [e2] at m
      dsimp only at m
      cases e3 : h ds with
      | none => rw [e3] at m; exact m.elim
      | some out =>
        rw [e3] at m
        dsimp only at m
        have rl := stos_rep b1 G G1 a1 n1 e2
        have G2 : Good K B H1 σ en1 := G1.mono b1.up
        exact hp _ H1 ds vs out Rr (fun a q => G2.unAt q) rl e3 fun J w => m J H1 B (Bx.refl B σ en H) G2 st1 w
theorem wd_rep (k : Kp U H H1) {d : D} {v : V} (r : Rep K U H d v) {U1 : Addr → Prop} (h1 : ∀ a o, H a = some o → ¬ U a → ¬ U1 a) : Rep K U1 H1 d v :=
  Rep.to (fun a o e n => ⟨k a o e n, h1 a o e n⟩) d v r
theorem wd_list {a : Addr} {vs : List V} (q : ∀ H1, Kp U H H1 → SqL K H1 a vs) (r : RepL K U H ds vs) : WalkD K U H (Itl K a) ds where
  go := fun i H1 k hi => by
    have hl := r.len
    exact ⟨vs, vs[i], q H1 k, by simp [hl, hi]⟩
  stop := fun H1 k => ⟨vs, q H1 k, by rw [r.len]; exact Nat.le_refl _⟩
  yld := fun i H1 x H2 d k e y => by
    obtain ⟨z, y⟩ := y
    subst z
    obtain ⟨v, ev, rv⟩ := r.get e
    have := y vs (q _ k)
    rw [ev] at this
    cases this
    exact ⟨Ext.refl _, fun U1 h1 h2 => wd_rep k rv h1⟩
theorem wd_tup {a : Addr} {vs : List V} (q : ∀ H1, Kp U H H1 → SqT K H1 a vs) (r : RepL K U H ds vs) : WalkD K U H (Itt K a) ds where
  go := fun i H1 k hi => by
    have hl := r.len
    exact ⟨vs, vs[i], q H1 k, by simp [hl, hi]⟩
  stop := fun H1 k => ⟨vs, q H1 k, by rw [r.len]; exact Nat.le_refl _⟩
  yld := fun i H1 x H2 d k e y => by
    obtain ⟨z, y⟩ := y
    subst z
    obtain ⟨v, ev, rv⟩ := r.get e
    have := y vs (q _ k)
    rw [ev] at this
    cases this
    exact ⟨Ext.refl _, fun U1 h1 h2 => wd_rep k rv h1⟩
def stepL (lo c : Int) (n : Nat) : List D := (List.range n).map fun i : Nat => D.int (lo + (i : Int) * c)
def upL (lo : Int) (n : Nat) : List D := (List.range n).map fun i : Nat => D.int (lo + (i : Int))
theorem wd_up {lo : Int} {n : Nat} : WalkD K U H (Itr lo n) (upL lo n) where
  go := fun i H1 k hi => by
    show i < n
    simpa [upL] using hi
  stop := fun H1 k => by show n ≤ _; simp [upL]
  yld := fun i H1 x H2 d k e y => by
    obtain ⟨z, y⟩ := y
    subst z y
    obtain ⟨j, hj, e⟩ : ∃ j, (List.range n)[i]? = some j ∧ D.int (lo + (j : Int)) = d := by simpa [upL] using e
    obtain ⟨_, rfl⟩ := List.getElem?_eq_some_iff.mp hj
    subst e
    exact ⟨Ext.refl _, fun U1 h1 h2 => by simp [Rep]⟩
def sgnL (z : Str) : List D := z.cps.toList.map fun c => D.str ⟨#[c]⟩
theorem wd_str {z : Str} : WalkD K U H (Its z) (sgnL z) where
  go := fun i H1 k hi => by
    show i < z.cps.size
    simpa [sgnL] using hi
  stop := fun H1 k => by show z.cps.size ≤ _; simp [sgnL]
  yld := fun i H1 x H2 d k e y => by
    obtain ⟨q, c, y, z⟩ := y
    subst q z
    rw [sgnL, List.getElem?_map, Array.getElem?_toList, y] at e
    cases e
    exact ⟨Ext.refl _, fun U1 h1 h2 => by simp [Rep]⟩
theorem pair_rep {T : Addr} {x y : V} {a b : D} (hT : H1 T = none) {U1 : Addr → Prop} (h2 : ∀ a, U1 a → H1 a ≠ none) (ra : Rep K U1 H1 a x) (rb : Rep K U1 H1 b y) : Rep K U1 (upd H1 T (.tup [x, y])) (.tup [a, b]) (.ref T) :=
  newTup h2 hT (RepL.cons ra (RepL.cons rb RepL.nil))
def enumL (ds : List D) : List D := (List.range ds.length).map fun i => D.tup [.int (i : Nat), ds.getD i .non]
theorem enumL_get {i : Nat} (e : (enumL ds)[i]? = some d) : ∃ x, ds[i]? = some x ∧ d = .tup [.int (i : Nat), x] := by
  obtain ⟨j, hj, e⟩ : ∃ j, (List.range ds.length)[i]? = some j ∧ D.tup [.int (j : Int), ds.getD j .non] = d := by simpa [enumL] using e
  obtain ⟨hl, rfl⟩ := List.getElem?_eq_some_iff.mp hj
  have hi : i < ds.length := by simpa using hl
  refine ⟨ds[i], by simp [hi], ?_⟩
  subst e
  simp [hi]
def zipL (as bs : List D) : List D := (as.zip bs).map fun p => D.tup [p.1, p.2]
end
def itemsD : D → Option (List D)
  | .lst ds => some ds
  | .tup ds => some ds
  | .scr ns => some (ns.map .int)
  | .str s => some (sgnL s)
  | _ => none
def itD : List D → Option (List D)
  | [d] => itemsD d
  | _ => none
def rItU (K : PySem.W.Frag) : List V → Hp → (It → Hp → Prop) → Prop := fun vs H Rr => (∃ a, vs = [.ref a] ∧ (∃ xs, SqL K H a xs) ∧ Rr (Itl K a) H) ∨ (∃ a, vs = [.ref a] ∧ (∃ xs, SqT K H a xs) ∧ Rr (Itt K a) H) ∨ ∃ x, vs = [.str x] ∧ Rr (Its x) H
theorem rl1 {K : PySem.W.Frag} {U : Addr → Prop} {H : Hp} {a : D} {vs : List V} (h : RepL K U H [a] vs) : ∃ v, vs = [v] ∧ Rep K U H a v := by
  obtain ⟨v, us, e, r, s⟩ := h.inv
  rw [s.nil_inv] at e
  exact ⟨v, e, r⟩
theorem rl2 {K : PySem.W.Frag} {U : Addr → Prop} {H : Hp} {a b : D} {vs : List V} (h : RepL K U H [a, b] vs) : ∃ v w, vs = [v, w] ∧ Rep K U H a v ∧ Rep K U H b w := by
  obtain ⟨v, us, e, r, s⟩ := h.inv
  obtain ⟨w, rfl, r2⟩ := rl1 s
  exact ⟨v, w, e, r, r2⟩
theorem scr_sq {K : PySem.W.Frag} {U : Addr → Prop} {H : Hp} {ns : List Int} {v : V} (h : Rep K U H (.scr ns) v) : ∃ p, v = .ref p ∧ ∀ H1, Kp U H H1 → SqL K H1 p (ns.map V.int) := by
  unfold Rep at h
  obtain ⟨p, e, c⟩ := h
  refine ⟨p, e, fun H1 k => ?_⟩
  rcases c with ⟨n, o, c⟩ | c
  · exact .inl (.inr ⟨o, k p _ c n⟩)
  · exact .inr c
theorem Kp.refl (U : Addr → Prop) (H : Hp) : Kp U H H := fun _ _ h _ => h
theorem prim_itU {K : PySem.W.Frag} : PrimI K (rItU K) itD := by
  intro U H ds vs out Rr hU rl e q
  unfold itD at e
  split at e
  · unfold itemsD at e
    split at e
    · obtain ⟨v, rfl, r⟩ := rl1 rl
      unfold Rep at r
      obtain ⟨a, us, rfl, nu, ha, r⟩ := r
      cases e
      exact .inl ⟨a, rfl, ⟨us, SqL.of ha⟩, q _ (wd_list (fun H1 k => SqL.of (k a _ ha nu)) r)⟩
    · obtain ⟨v, rfl, r⟩ := rl1 rl
      unfold Rep at r
      obtain ⟨a, us, rfl, nu, ha, r⟩ := r
      cases e
      exact .inr (.inl ⟨a, rfl, ⟨us, SqT.of ha⟩, q _ (wd_tup (fun H1 k => SqT.of (k a _ ha nu)) r)⟩)
    · obtain ⟨v, rfl, r⟩ := rl1 rl
      obtain ⟨p, rfl, s⟩ := scr_sq r
      cases e
      exact .inl ⟨p, rfl, ⟨_, s H (Kp.refl U H)⟩, q _ (wd_list s (RepL.ofInts _))⟩
    · obtain ⟨v, rfl, r⟩ := rl1 rl
      unfold Rep at r
      subst r
      cases e
      exact .inr (.inr ⟨_, rfl, q _ wd_str⟩)
    · cases e
  · cases e
section
variable {X : Cx} {W : WX} {tg e a b c : Expr} {pos p : Pos} {f : M R} {fs : M (List R)}
theorem pi_U {te : TE} (he : PE X e te) : PI X tg e (fun σ H Rr => te σ H fun x H1 => rItU X.K [x] H1 Rr) := by
  refine ⟨fun pins s σ H R I h => ?_⟩
  refine thn (he.run pins s σ H _ I h) fun v s1 ⟨x, H1, I1, r1, q1⟩ => ?_
  rcases q1 with ⟨a, ex, ⟨xs, hq⟩, q⟩ | ⟨a, ex, ⟨xs, hq⟩, q⟩ | ⟨z, ex, q⟩
  · obtain rfl : x = .ref a := by simpa using ex
    cases r1
    obtain ⟨its, rv, p, hz⟩ := I1.list hq
    refine wpAny_pyIter_list p.isList ?_
    exact pi_one (tk := s1.toks) I1 _ (turn_list a _) ⟨_, Heap.get?_push_size _ rfl, rfl, rfl⟩ q
  · obtain rfl : x = .ref a := by simpa using ex
    cases r1
    obtain ⟨its, rv, p, hz⟩ := I1.tuple hq
    refine wpAny_pyIter_tuple (show s1.heap.IsTuple a its.toArray from p) ?_
    exact pi_one (tk := s1.toks) I1 _ (turn_tuple a _) ⟨_, Heap.get?_push_size _ rfl, rfl, rfl⟩ q
  · obtain rfl : x = .str z := by simpa using ex
    obtain ⟨t, rfl⟩ := r1
    cases ha : z.cps.all (· < 128)
    · exact wpAny_pyIter_wide ha (pi_one (tk := s1.toks) I1 _ (turn_str _ z t "str_iterator" (.inr rfl)) ⟨_, Heap.get?_push_size _ rfl, rfl, rfl⟩ q)
    · exact wpAny_pyIter_ascii ha (pi_one (tk := s1.toks) I1 _ (turn_str _ z t "str_ascii_iterator" (.inl rfl)) ⟨_, Heap.get?_push_size _ rfl, rfl, rfl⟩ q)
theorem i_seq (he : PE X e (RdE X.K W f)) : PI X tg e (RdI X.K W (itA itD (one f))) := pi_imp (pi_U he) fun σ H Rr m => imp1 (itAImp prim_itU m)
def rg1D : List D → Option (List D)
  | [.int j] => if -(2 ^ 62) ≤ j ∧ j < 2 ^ 62 then some (upL 0 j.toNat) else none
  | _ => none
def rg2D : List D → Option (List D)
  | [.int i, .int j] => if -(2 ^ 62) ≤ i ∧ i < 2 ^ 62 ∧ -(2 ^ 62) ≤ j ∧ j < 2 ^ 62 then some (upL i (j - i).toNat) else none
  | _ => none
def rRg1 : List V → Hp → (It → Hp → Prop) → Prop := fun vs H1 R => ∃ j : Int, vs = [.int j] ∧ -(2 ^ 62) ≤ j ∧ j < 2 ^ 62 ∧ R (Itr 0 j.toNat) H1
theorem prim_rg1 {K : PySem.W.Frag} : PrimI K rRg1 rg1D := by
  intro U H ds vs out Rr hU rl e q
  unfold rg1D at e
  split at e
  · obtain ⟨v, rfl, r⟩ := rl1 rl
    unfold Rep at r
    subst r
    split at e
    · rename_i h
      cases e
      exact ⟨_, rfl, h.1, h.2, q _ wd_up⟩
    · cases e
  · cases e
theorem i_rg1 (hg : Gl X "range") (hm : X.mg "range" = none) (ha : PA X [a] (RdA X.K W fs)) (hs : starEach [a] X.env = [(false, eval a X.env)] := by rfl) : PI X tg (.Call (.Name "range" p) [a] [] pos) (RdI X.K W (itA rg1D fs)) :=
  pi_imp (pi_range1 hg hm ha hs) fun σ H Rr m => itAImp prim_rg1 m
def rg3D : List D → Option (List D)
  | [.int i, .int j, .int k] => if -(2 ^ 62) ≤ i ∧ i < 2 ^ 62 ∧ -(2 ^ 62) ≤ j ∧ j < 2 ^ 62 ∧ k = -1 then some (stepL i (-1) (i - j).toNat) else none
  | _ => none
def enumD : List D → Option (List D)
  | [.lst ds] => some (enumL ds)
  | [.scr ns] => some (enumL (ns.map .int))
  | _ => none
variable {elts : List Expr} {kk : Nat} {tpos : Pos}
def zipD : List D → Option (List D)
  | [.lst as, .lst bs] => some (zipL as bs)
  | [.tup as, .tup bs] => some (zipL as bs)
  | _ => none
def revItD : List D → Option (List D)
  | [.lst ds] => some ds.reverse
  | [.tup ds] => some ds.reverse
  | _ => none
end
end PyD

namespace PyD
open PySem PySem.Spec L2
section
variable {K : PySem.W.Frag} {U : Addr → Prop} {H H' : Hp} {p : Addr} {o : HO} {d : D} {v : V} {ds : List D} {vs : List V} {kvs : List (Key × D)} {ws : List (Key × V)}
theorem sideTo (hp : U p) : ∀ a x, H a = some x → ¬ U a → upd H p o a = some x ∧ ¬ U a := fun a x e n =>
  ⟨by rw [upd_ne (fun z => n (by rw [z]; exact hp))]; exact e, n⟩
theorem repLSide (hp : U p) (r : RepL K U H ds vs) : RepL K U (upd H p o) ds vs := RepL.to (sideTo hp) ds vs r
theorem repKSide (hp : U p) (r : RepK K U H kvs ws) : RepK K U (upd H p o) kvs ws := RepK.to (sideTo hp) kvs ws r
theorem updKeep : ∀ a x, a ≠ p → H a = some x → upd H p o a = some x := fun a x n e => by rw [upd_ne n]; exact e
theorem updAt : upd H p o p = some o := by simp [upd]
end
theorem line_ok {n : Nat} (h : n < 1000000) : n < sizeLine := Nat.lt_trans h (by decide)
def appM : D → List D → Option (D × D)
  | .lst xs, [d] => if xs.length < 1000000 then some (.lst (xs ++ [d]), .non) else none
  | _, _ => none
instance : FlatM appM := ⟨fun d0 ds d1 d e => by
  unfold appM at e
  repeat' split at e
  all_goals (first | (cases e; exact ⟨rfl, rfl⟩) | cases e)⟩
theorem prim_append {K : PySem.W.Frag} : PrimM K true rAppend appM := by
  intro U H d0 ds p vs Q d1 d hU hp c ar rl e post
  have rl := rl rfl
  unfold appM at e
  split at e
  · obtain ⟨v, rfl, r⟩ := rl1 rl
    split at e
    · rename_i h
      cases e
      obtain ⟨us, hH, r0⟩ := c
      refine ⟨p, us, v, rfl, rfl, hH, by rw [r0.len]; exact line_ok h, post _ _ updKeep (by rw [updAt]; simp) ⟨_, updAt, ?_⟩ repNon⟩
      exact repLSide hp (RepL.app r0 (RepL.cons r RepL.nil))
    · cases e
  · cases e
def extM : D → List D → Option (D × D)
  | .lst xs, [.lst ys] => if xs.length + ys.length ≤ 1000000 then some (.lst (xs ++ ys), .non) else none
  | _, _ => none
instance : FlatM extM := ⟨fun d0 ds d1 d e => by
  unfold extM at e
  repeat' split at e
  all_goals (first | (cases e; exact ⟨rfl, rfl⟩) | cases e)⟩
def popM : D → List D → Option (D × D)
  | .lst xs, [] => match xs[xs.length - 1]? with
    | some d => some (.lst xs.dropLast, d)
    | none => none
  | _, _ => none
theorem RepL.dropLast {K : PySem.W.Frag} {U : Addr → Prop} {H : Hp} {ds : List D} {vs : List V} (r : RepL K U H ds vs) : RepL K U H ds.dropLast vs.dropLast := by
  rw [List.dropLast_eq_take, List.dropLast_eq_take, r.len]
  exact RepL.take _ r
instance : FlatM popM := ⟨fun d0 ds d1 d e => by
  unfold popM at e
  repeat' split at e
  all_goals (first | (cases e; exact ⟨rfl, rfl⟩) | cases e)⟩
def popAtM : D → List D → Option (D × D)
  | .lst xs, [.int i] => if -(2 ^ 63) ≤ i ∧ i < 2 ^ 63 then (match seqIndex? i xs.length with
    | some k => (match xs[k]? with
      | some d => some (.lst (xs.eraseIdx k), d)
      | none => none)
    | none => none) else none
  | _, _ => none
instance : FlatM popAtM := ⟨fun d0 ds d1 d e => by
  unfold popAtM at e
  repeat' split at e
  all_goals (first | (cases e; exact ⟨rfl, rfl⟩) | cases e)⟩
def clrM : D → List D → Option (D × D)
  | .lst _, [] => some (.lst [], .non)
  | _, _ => none
instance : FlatM clrM := ⟨fun d0 ds d1 d e => by
  unfold clrM at e
  repeat' split at e
  all_goals (first | (cases e; exact ⟨rfl, rfl⟩) | cases e)⟩
def insM : D → List D → Option (D × D)
  | .lst xs, [.int i, d] => if xs.length < 1000000 ∧ 0 ≤ i ∧ i < 2 ^ 63 then some (.lst (xs.take i.toNat ++ [d] ++ xs.drop i.toNat), .non) else none
  | _, _ => none
instance : FlatM insM := ⟨fun d0 ds d1 d e => by
  unfold insM at e
  repeat' split at e
  all_goals (first | (cases e; exact ⟨rfl, rfl⟩) | cases e)⟩
def valD (kvs : List (Key × D)) (k : Key) : Option D := (kvs.find? fun kv => decide (kv.1 = k)).map (·.2)
def putD (kvs : List (Key × D)) (k : Key) (v : D) : List (Key × D) :=
  if (kvs.any fun kv => decide (kv.1 = k)) = true then kvs.map (fun kv => if kv.1 = k then (kv.1, v) else kv) else kvs ++ [(k, v)]
def keyOf : D → Option Key
  | .int i => some (.inl i)
  | .str s => some (.inr s)
  | _ => none
section
variable {K : PySem.W.Frag} {U : Addr → Prop} {H H' : Hp} {p : Addr} {o : HO} {d : D} {v : V} {ds : List D} {vs : List V} {k : Key}
theorem RepK.cons {kvs : List (Key × D)} {ws : List (Key × V)} (h : Rep K U H d v) (r : RepK K U H kvs ws) : RepK K U H ((k, d) :: kvs) ((k, v) :: ws) := by
  unfold RepK
  exact ⟨v, ws, rfl, h, r⟩
theorem RepK.nil : RepK K U H [] [] := by unfold RepK; rfl
theorem RepK.inv {kvs : List (Key × D)} {ws : List (Key × V)} (r : RepK K U H ((k, d) :: kvs) ws) : ∃ v s, ws = (k, v) :: s ∧ Rep K U H d v ∧ RepK K U H kvs s := by
  unfold RepK at r
  exact r
theorem RepK.nil_inv {ws : List (Key × V)} (r : RepK K U H [] ws) : ws = [] := by
  unfold RepK at r
  exact r
theorem RepK.fst : ∀ {kvs : List (Key × D)} {ws : List (Key × V)}, RepK K U H kvs ws → ws.map (·.1) = kvs.map (·.1)
  | [], ws, r => by rw [r.nil_inv] <;> rfl
  | (k, d) :: kvs, ws, r => by
    obtain ⟨v, s, rfl, _, r'⟩ := r.inv
    simp [r'.fst]
theorem RepK.app {k2 : List (Key × D)} {w2 : List (Key × V)} : ∀ {kvs : List (Key × D)} {ws : List (Key × V)}, RepK K U H kvs ws → RepK K U H k2 w2 → RepK K U H (kvs ++ k2) (ws ++ w2)
  | [], ws, r, q => by rw [r.nil_inv]; exact q
  | (k, d) :: kvs, ws, r, q => by
    obtain ⟨v, s, rfl, h, r'⟩ := r.inv
    exact RepK.cons h (r'.app q)
theorem RepK.val : ∀ {kvs : List (Key × D)} {ws : List (Key × V)}, RepK K U H kvs ws → match valD kvs k with
    | some d => ∃ v, valV ws k = some v ∧ Rep K U H d v
    | none => valV ws k = none
  | [], ws, r => by rw [r.nil_inv]; exact rfl
  | (k', d) :: kvs, ws, r => by
    obtain ⟨v, s, rfl, h, r'⟩ := r.inv
    by_cases e : k' = k
    · have e1 : valD ((k', d) :: kvs) k = some d := by simp [valD, e]
      rw [e1]
      exact ⟨v, valV_pos e, h⟩
    · have e1 : valD ((k', d) :: kvs) k = valD kvs k := by simp [valD, e]
      rw [e1, valV_neg e]
      exact r'.val
theorem RepK.any_eq {f : Key → Bool} {kvs : List (Key × D)} {ws : List (Key × V)} (r : RepK K U H kvs ws) : (ws.any fun kv => f kv.1) = kvs.any fun kv => f kv.1 := by
  have := r.fst
  have h1 : (ws.any fun kv => f kv.1) = (ws.map (·.1)).any f := by simp [List.any_map, Function.comp_def]
  have h2 : (kvs.any fun kv => f kv.1) = (kvs.map (·.1)).any f := by simp [List.any_map, Function.comp_def]
  rw [h1, h2, this]
theorem RepK.mapPut (rd : Rep K U H d v) : ∀ {kvs : List (Key × D)} {ws : List (Key × V)}, RepK K U H kvs ws → RepK K U H (kvs.map fun kv => if kv.1 = k then (kv.1, d) else kv) (ws.map fun kv => if kv.1 = k then (kv.1, v) else kv)
  | [], ws, r => by rw [r.nil_inv]; exact RepK.nil
  | (k', d') :: kvs, ws, r => by
    obtain ⟨v', s, rfl, h, r'⟩ := r.inv
    by_cases e : k' = k
    · simp only [List.map_cons, e, if_true]
      exact RepK.cons rd (r'.mapPut rd)
    · simp only [List.map_cons, e, if_false]
      exact RepK.cons h (r'.mapPut rd)
theorem RepK.put {kvs : List (Key × D)} {ws : List (Key × V)} (r : RepK K U H kvs ws) (rd : Rep K U H d v) : RepK K U H (putD kvs k d) (putK ws k v) := by
  unfold putD putK
  rw [r.any_eq (f := fun x => decide (x = k))]
  split
  · exact r.mapPut rd
  · exact r.app (RepK.cons rd RepK.nil)
theorem keyOf_rep {k : Key} (h : keyOf d = some k) (r : ARep K U H d v) : v = kV k := by
  cases d <;> first | (cases h; done) | skip
  · cases h; exact arInt r
  · cases h; exact arStr r
end
theorem val_some {K : PySem.W.Frag} {U : Addr → Prop} {H : Hp} {kvs : List (Key × D)} {ws : List (Key × V)} (r : RepK K U H kvs ws) (k : Key) : (valV ws k).isSome = (valD kvs k).isSome := by
  have := r.val (k := k)
  cases ev : valD kvs k with
  | none => rw [ev] at this; rw [this] <;> rfl
  | some d0 =>
    rw [ev] at this
    obtain ⟨v0, e0, _⟩ := this
    rw [e0] <;> rfl
def setD : D → D → D → Option D
  | .lst xs, .int k, d => (ixN xs.length k).map fun j => .lst (xs.set j d)
  | .dic kvs, y, d => match keyOf y with
    | some k => if kvs.length < 1000000 then some (.dic (putD kvs k d)) else none
    | none => none
  | _, _, _ => none
def rSetU : V → V → V → Hp → (Hp → Prop) → Prop := fun o i v H Q => rSetL o i v H Q ∨ ∃ a H', o = .ref a ∧ DPut H a i v H' ∧ Q H'
theorem set_U {X : Cx} (hu : X.A.units + 1 < cLine) : PSet X rSetU := by
  intro pins s σ H o i v ov iv u Q I ro ri rv h
  rcases h with h | ⟨a, H', rfl, g, q⟩
  · exact set_list pins s σ H o i v ov iv u Q I ro ri rv h
  · obtain rfl : ov = Value.ref a := ro
    exact d_setItem hu I g ri rv fun s4 I4 => ⟨H', I4, q⟩
instance : FlatS setD := ⟨fun d0 di d d1 e => by
  unfold setD at e
  split at e
  · obtain ⟨j, _, rfl⟩ := Option.map_eq_some_iff.mp e
    exact ⟨rfl, rfl⟩
  · repeat' split at e
    all_goals (first | (cases e; exact ⟨rfl, rfl⟩) | cases e)
  · cases e⟩
theorem prim_set {K : PySem.W.Frag} : PrimS K rSetU setD := by
  intro U H d0 di d p vi v Q d1 hU hp c ai rv e post
  unfold setD at e
  split at e
  · obtain ⟨us, hH, r0⟩ := c
    rw [arInt ai]
    obtain ⟨j, ej, rfl⟩ := Option.map_eq_some_iff.mp e
    refine .inl ⟨p, us, _, j, rfl, rfl, hH, by rw [r0.len]; exact ej, post _ updKeep (by rw [updAt]; simp) ⟨_, updAt, ?_⟩⟩
    exact repLSide hp (RepL.set j r0 rv)
  · split at e
    · rename_i k hk
      split at e
      · rename_i hl
        cases e
        obtain ⟨us, hH, r0⟩ := c
        rw [keyOf_rep hk ai]
        refine .inr ⟨p, _, rfl, DPut.k hH (by rw [r0.len]; exact line_ok hl), post _ updKeep (by rw [updAt]; simp) ⟨_, updAt, ?_⟩⟩
        exact repKSide hp (r0.put rv)
      · cases e
    · cases e
  · cases e
def ixUD : List D → Option (Bool × D)
  | [.dic kvs, y] => match keyOf y with
    | some k => (valD kvs k).map fun d => (false, d)
    | none => none
  | ds => ixD ds
def rIxU (K : PySem.W.Frag) : R2 := fun x y H Q => rIx K x y H Q ∨ ∃ a v, x = .ref a ∧ DGet H a y (some v) ∧ Q v H
theorem ix_U {X : Cx} (hu : X.A.units + 1 < cLine) : IxR X (rIxU X.K) := by
  refine ix_seq.or ?_
  intro value slice pins s σ H x y v u Q I rx ry h hs
  obtain ⟨a, z, rfl, g, q⟩ := h
  obtain rfl : v = Value.ref a := rx
  exact PyProof.Rows.tail_any (dict_typeIs I g) PySem.F.slot_dict_getitem.lookup (d_getItem hu I g ry fun w' s3 I3 rw' => ⟨z, H, I3, rw', q⟩) hs
theorem prim_ixU {K : PySem.W.Frag} : Prim K (r2 (rIxU K)) ixUD := by
  intro U H ds vs Q b d hU ar e post
  unfold ixUD at e
  split at e
  · obtain ⟨v, w, rfl, h1, h2⟩ := ar2 ar
    split at e
    · rename_i k hk
      obtain ⟨p, ws, rfl, hp, r⟩ := arDic h1
      have := r.val (k := k)
      obtain ⟨d0, ev, e⟩ := Option.map_eq_some_iff.mp e
      · rw [ev] at this
        cases e
        obtain ⟨v0, e0, r0⟩ := this
        refine ⟨_, _, rfl, .inr ⟨p, v0, rfl, ?_, post _ H (Ext.refl H) (fun _ => r0) (fun z => by cases z)⟩⟩
        rw [keyOf_rep hk h2, ← e0]
        exact DGet.k hp
    · cases e
  · obtain ⟨x, y, e1, q⟩ := prim_ix (K := K) U H _ vs Q b d hU ar e post
    exact ⟨x, y, e1, .inl q⟩
def inUD (n : Bool) : List D → Option (Bool × D)
  | [x, .dic kvs] => match keyOf x with
    | some k => some (false, .bl ((valD kvs k).isSome != n))
    | none => none
  | ds => inOp n ds
def rInV (K : PySem.W.Frag) (n : Bool) : R2 := fun x y H Q => rInU K n x y H Q ∨ ∃ a ov, y = .ref a ∧ DGet H a x ov ∧ Q (.bl (ov.isSome != n)) H
theorem op_inV {X : Cx} (hu : X.A.units + 1 < cLine) : OpR X (compareOp .In) (rInV X.K false) := by
  refine OpR.or op_inU ?_
  intro pins s σ H x y v u Q I rx ry h
  obtain ⟨a, ov, rfl, g, q⟩ := h
  obtain rfl : u = Value.ref a := ry
  exact d_in hu I g rx fun s3 I3 => ⟨.bl ov.isSome, H, I3, rfl, by simpa using q⟩
theorem prim_inU {K : PySem.W.Frag} {n : Bool} : Prim K (r2 (rInV K n)) (inUD n) := by
  intro U H ds vs Q b d hU ar e post
  unfold inUD at e
  split at e
  · obtain ⟨v, w, rfl, h1, h2⟩ := ar2 ar
    split at e
    · rename_i k hk
      cases e
      obtain ⟨p, ws, rfl, hp, r⟩ := arDic h2
      have := r.val (k := k)
      refine ⟨_, _, rfl, .inr ⟨p, valV ws k, rfl, ?_, ?_⟩⟩
      · rw [keyOf_rep hk h1]
        exact DGet.k hp
      · rw [val_some r k]
        exact post _ H (Ext.refl H) (fun _ => repBl) (fun z => by cases z)
    · cases e
  · obtain ⟨x, y, e1, q⟩ := prim_in (K := K) (n := n) U H _ vs Q b d hU ar e post
    exact ⟨x, y, e1, .inl q⟩
end PyD

namespace PyD
open PySem PySem.Spec L2
def ordB (f : Int → Int → Bool) (g : List Nat → List Nat → Bool) : D → D → Option Bool
  | .int a, .int b => some (f a b)
  | .str a, .str b => some (g a.cps.toList b.cps.toList)
  | _, _ => none
def chF (f : Int → Int → Bool) (g : List Nat → List Nat → Bool) (f' : Int → Int → Bool) (g' : List Nat → List Nat → Bool) (fa fb fc : M R) : M R := fun en => match two fa fb en with
  | .ok [.sh a, .sh b] en2 => (match ordB f g a b with
    | some true => (match fc en2 with
      | .ok (.sh c) en3 => (match ordB f' g' b c with
        | some k => .ok (.sh (.bl k)) en3
        | none => .bad)
      | .ok _ _ => .bad
      | .exc x en3 => .exc x en3
      | .bad => .bad)
    | some false => .ok (.sh (.bl false)) en2
    | none => .bad)
  | .ok _ _ => .bad
  | .exc x en2 => .exc x en2
  | .bad => .bad
section
variable {K : PySem.W.Frag} {W : WX} {B B' B1 : Addr → Prop} {U U' : Addr → Prop} {H H' H1 : Hp} {σ σ' σ1 : L2.St} {en en' en1 : En} {a b d : D} {v x y : V} {i : Nat} {p : Addr} {ds : List D} {Q : VK} {f f' : Int → Int → Bool} {g g' : List Nat → List Nat → Bool}
variable {X : Cx} {pos : Pos} {ea eb ec : Expr} {fa fb fc : M R} {op op' : CmpOp}
end
end PyD

namespace PyD
open PySem PySem.Spec L2
def DefAt (P : Program) (w : World) (K : PySem.W.Frag) (mg : Str → Option Value) (base : Heap) (x : Str) (lev : Nat) (ps : List Str) (io : List Bool) (φ : List D → Out) : Prop :=
  ∃ (f : Addr) (fd : FuncData), FnOk P w K mg base (L2.CX P w) lev f fd ps (spD K io φ) ∧ mg x = some (.ref f) ∧ PySem.W.keepIn K (.ref f) = true ∧ Binds K fd ps []
theorem e_callD {X : Cx} {W : WX} {k : Nat} {io : List Bool} {φ : List D → Out} {fs : M (List R)} {ps : List Str} {x : Str} {p pos : Pos} {e : Expr} {es : List Expr} (h : DefAt X.prog X.w X.K X.mg X.base x k ps io φ) (hr : Room k X.A) (tk : Takes X W)
    (ha : PA X (e :: es) (RdA X.K W fs)) (hg : Gl X x := by rfl) (hdb : (x == ("__debug__" : Str)) = false := by decide) (he : starEach (e :: es) X.env = (false, eval e X.env) :: starEach es X.env := by rfl) (hpl : (backTo pos (starEach es X.env)).any (·.1) = false := by rfl) :
    PE X (.Call (.Name x p) (e :: es) [] pos) (RdE X.K W (callF io φ fs)) := by
  obtain ⟨f, fd, F, hm, hk, hb⟩ := h
  exact e_call F hr hg hm hk hb tk ha hdb he hpl
section
variable {P : Program} {w : World} {K : PySem.W.Frag} {mg : Str → Option Value} {base : Heap}
theorem DefAt.mk {x : Str} {st : Stmt} {f : Addr} {fd : FuncData} {N ps : List Str} {lev k : Nat} {io : List Bool} {b : En → Fl} {φ : List D → Out} (F : Fun K x x st f fd) (hm : mg x = some (.ref f)) (bd : Binds K fd ps []) (S : FnScope N ps (defScope st)) (hps : io.length = ps.length) (hN : N.length = ps.length + k)
    (hb : ∀ (cdv : Value) (A : Around) (outer : List Env) (s : Shared) (H : Hp) (E : XK), Room lev (A.deeper (PyProof.Rows.envOfC x (defScope st) s.heap.objs.size f cdv)) → PSs (cxOf (L2.CX P w) P w K mg base N x (defScope st) f cdv A outer s H E) (defBody st) (RdS K (fun cls d _ H => E cls d H) b)) (e : φ = runF io k b) :
    DefAt P w K mg base x (lev + 1) ps io φ := by
  subst e
  exact ⟨f, fd, ok_def F S hps hN hb, hm, F.kp, bd⟩
theorem DefAt.mono {x : Str} {j k : Nat} {ps : List Str} {io : List Bool} {φ : List D → Out} (h : DefAt P w K mg base x j ps io φ) (hk : j ≤ k) : DefAt P w K mg base x k ps io φ := by
  obtain ⟨f, fd, F, r⟩ := h
  exact ⟨f, fd, F.mono hk, r⟩
theorem DefAt.bad {x : Str} {st : Stmt} {f : Addr} {fd : FuncData} {ps : List Str} {io : List Bool} {k : Nat} (F : Fun K x x st f fd) (hm : mg x = some (.ref f)) (bd : Binds K fd ps []) : DefAt P w K mg base x k ps io fun _ => .bad := by
  have no : ∀ vs H Q E, spD K io (fun _ => Out.bad) vs H Q E → False := fun vs H Q E h => by
    obtain ⟨_, _, _, _, _, h⟩ := h
    exact h
  exact ⟨f, fd, ⟨fun vs H Q E h => (no vs H Q E h).elim, fun A outer s H args us vs Q E hr he hb hv h => (no vs H Q E h).elim⟩, hm, F.kp, bd⟩
end
theorem only_scr {K : PySem.W.Frag} {H : Hp} {a : Addr} {ns : List Int} {U : Addr → Prop} (hU : ¬ U a) (hO : Only H) (hS : SqL K H a (ns.map V.int)) : Rep K U H (.scr ns) (.ref a) := by
  unfold Rep
  refine ⟨a, rfl, ?_⟩
  rcases hS with h | h
  · rcases h with h | ⟨o, h⟩
    · rcases hO a with q | ⟨o, xs, q⟩
      · rw [h] at q; cases q
      · rw [h] at q; cases q
    · exact .inl ⟨hU, o, h⟩
  · exact .inr h
theorem law_end {K : PySem.W.Frag} {φ : List D → Out} {H : Hp} {a : Addr} {ns : List Int} (h : ∃ outs, φ [.scr ns] = .ret false (.bl true) outs) (hO : Only H) (hS : SqL K H a (ns.map V.int)) :
    spD K [false] φ [.ref a] H (fun v _ => v = .bl true) fun _ _ _ => False := by
  obtain ⟨outs, h⟩ := h
  refine ⟨fun _ => False, [.scr ns], rfl, rfl, ?_, ?_⟩
  · have no : ∀ (i : Nat) (b : Bool) (d : D), (mkE [false] [D.scr ns])[i]? ≠ some (.o b d) := fun i b d e => by
      obtain ⟨b', d', e1, e2, e3⟩ := mkE_get e
      match i, e1 with
      | 0, e1 => cases e1; cases e3
    refine ⟨rfl, fun _ z => z.elim, fun i d e => ?_, fun i b d e => (no i b d e).elim, fun i j p q a b c d d' e => (no i b d e).elim⟩
    obtain ⟨b', d', e1, e2, e3⟩ := mkE_get e
    match i, e1, e2 with
    | 0, e1, e2 =>
      cases e1
      cases e2
      cases e3
      refine ⟨.ref a, rfl, only_scr (fun q => ?_) hO hS⟩
      rcases q with q | ⟨i, b, d, _, e, _⟩
      · exact q
      · exact no i b d e
  · rw [h]
    dsimp only
    intro v H' ⟨B', _, _, r, _⟩ _
    have := r rfl
    unfold Rep at this
    exact this
theorem law_cx {l : Program} (w : World) (H : Hp) (s : Shared) (e : Value) (s' : Shared) (h : L2.CX l w [] H s (fun _ _ _ => False) e s') : False := by
  obtain ⟨_, _, _, _, _, _, _, _, _, _, _, _, h⟩ := h
  exact h
end PyD

namespace PyD
open PySem PySem.Spec L2
structure Tg {β : Type} (k : β) : Type
def okE {α : Type} (f : M α) (en : En) (k : α → En → Prop) (x : Ex → En → Prop) (_ : Tg (k, x) := ⟨⟩) : Prop := match f en with
  | .ok a en1 => k a en1
  | .exc e en1 => x e en1
  | .bad => False
def okS (f : En → Fl) (en : En) (k : Fl → Prop) (_ : Tg k := ⟨⟩) : Prop := match f en with
  | .bad => False
  | o => k o
def okO (o : Out) (k : Out → Prop) (_ : Tg k := ⟨⟩) : Prop := match o with
  | .bad => False
  | o => k o
def okL {α : Type} (o : Option α) (k : α → Prop) (_ : Tg k := ⟨⟩) : Prop := match o with
  | some a => k a
  | none => False
section
variable {α β : Type} {en en' : En} {x : Ex → En → Prop}
theorem okL_some {a : α} {k : α → Prop} : okL (some a) k = k a := rfl
theorem okL_map {f : α → β} {o : Option α} {k : β → Prop} : okL (o.map f) k = okL o fun a => k (f a) := by cases o <;> rfl
theorem okL_if {c : Prop} [Decidable c] {a : α} {k : α → Prop} : okL (if c then some a else none) k = (c ∧ k a) := by
  by_cases h : c
  · simp [h, okL]
  · simp [h, okL]
theorem okL_ifo {c : Prop} [Decidable c] {o : Option α} {k : α → Prop} : okL (if c then o else none) k = (c ∧ okL o k) := by
  by_cases h : c
  · simp [h, okL]
  · simp [h, okL]
def nmK (i : Nat) (k : R → Prop) (o : Option Sl) (_ : Tg k := ⟨⟩) : Prop := match o with
  | some (.v d) => k (.sh d)
  | some (.o _ _) => k (.sl i)
  | _ => False
theorem nmK_v {i : Nat} {k : R → Prop} {d : D} : nmK i k (some (.v d)) = k (.sh d) := rfl
theorem nmK_o {i : Nat} {k : R → Prop} {b : Bool} {d : D} : nmK i k (some (.o b d)) = k (.sl i) := rfl
theorem ok_c {d : D} {k : R → En → Prop} : okE (cF d) en k x = k (.sh d) en := rfl
theorem ok_nm {i : Nat} {k : R → En → Prop} : okE (nmF i) en k x = nmK i (fun r => k r en) en[i]? := by
  unfold okE nmF
  cases h : en[i]? with
  | none => rfl
  | some s => cases s <;> rfl
def mvK (i : Nat) (en : En) (k : R → En → Prop) (o : Option Sl) (_ : Tg k := ⟨⟩) : Prop := match o with
  | some (.v d) => k (.sh d) en
  | some (.o false d) => k (.fr d) (en.set i .e)
  | _ => False
theorem mvK_v {i : Nat} {k : R → En → Prop} {d : D} : mvK i en k (some (.v d)) = k (.sh d) en := rfl
theorem mvK_o {i : Nat} {k : R → En → Prop} {d : D} : mvK i en k (some (.o false d)) = k (.fr d) (en.set i .e) := rfl
theorem ok_mv {i : Nat} {k : R → En → Prop} : okE (mvF i) en k x = mvK i en k en[i]? := by
  unfold okE mvF
  cases h : en[i]? with
  | none => rfl
  | some s =>
    cases s with
    | e => rfl
    | v d => rfl
    | o b d => cases b <;> rfl
def dmK (i : Nat) (en : En) (k : R → En → Prop) (o : Option Sl) (_ : Tg k := ⟨⟩) : Prop := match o with
  | some (.v d) => k (.sh d) en
  | some (.o false d) => k (.sh d) (en.set i (.v d))
  | _ => False
theorem dmK_v {i : Nat} {k : R → En → Prop} {d : D} : dmK i en k (some (.v d)) = k (.sh d) en := rfl
theorem dmK_o {i : Nat} {k : R → En → Prop} {d : D} : dmK i en k (some (.o false d)) = k (.sh d) (en.set i (.v d)) := rfl
theorem ok_dm {i : Nat} {k : R → En → Prop} : okE (dmF i) en k x = dmK i en k en[i]? := by
  unfold okE dmF
  cases h : en[i]? with
  | none => rfl
  | some s =>
    cases s with
    | e => rfl
    | v d => rfl
    | o b d => cases b <;> rfl
theorem ok_nil {k : List R → En → Prop} : okE nilF en k x = k [] en := rfl
theorem ok_cons {f : M R} {fs : M (List R)} {k : List R → En → Prop} : okE (consF f fs) en k x = okE f en (fun r en1 => okE fs en1 (fun rs en2 => k (r :: rs) en2) x) x := by
  unfold okE consF
  cases f en with
  | bad => rfl
  | exc e en1 => rfl
  | ok r en1 =>
    dsimp only
    cases fs en1 <;> rfl
theorem ok_one {f : M R} {k : List R → En → Prop} : okE (one f) en k x = okE f en (fun r en1 => k [r] en1) x := by
  unfold one
  rw [ok_cons]
  rfl
theorem ok_two {f g : M R} {k : List R → En → Prop} : okE (two f g) en k x = okE f en (fun r en1 => okE g en1 (fun s en2 => k [r, s] en2) x) x := by
  unfold two
  rw [ok_cons]
  unfold okE
  cases f en with
  | bad => rfl
  | exc e en1 => rfl
  | ok r en1 =>
    have h := ok_cons (en := en1) (x := x) (f := g) (fs := nilF) (k := fun rs en2 => k (r :: rs) en2)
    unfold okE at h
    dsimp only
    rw [h]
    rfl
theorem ok_op {g : List D → Option (Bool × D)} {fs : M (List R)} {k : R → En → Prop} : okE (opF g fs) en k x = okE fs en (fun rs en1 => okL (rsls en1 rs) fun ds => okL (g ds) fun bd => k (mkR bd.1 bd.2) en1) x := by
  unfold okE opF
  cases fs en with
  | bad => rfl
  | exc e en1 => rfl
  | ok rs en1 =>
    dsimp only
    cases rsls en1 rs with
    | none => rfl
    | some ds =>
      dsimp only [okL]
      cases g ds with
      | none => rfl
      | some bd => rfl
theorem ok_tstB {f : M R} {k : Bool → En → Prop} : okE (tstB f) en k x = okE f en (fun r en1 => okL (rsl en1 r) fun d => okL (blD d) fun b => k b en1) x := by
  unfold okE tstB
  cases f en with
  | bad => rfl
  | exc e en1 => rfl
  | ok r en1 =>
    dsimp only
    cases rsl en1 r with
    | none => rfl
    | some d =>
      dsimp only [okL]
      cases blD d <;> rfl
theorem ok_tstF {f : M R} {k : Bool → En → Prop} : okE (tstF f) en k x = okE f en (fun r en1 => okL (rsl en1 r) fun d => okL (truD d) fun b => k b en1) x := by
  unfold okE tstF
  cases f en with
  | bad => rfl
  | exc e en1 => rfl
  | ok r en1 =>
    dsimp only
    cases rsl en1 r with
    | none => rfl
    | some d =>
      dsimp only [okL]
      cases truD d <;> rfl
theorem ok_not {f : M Bool} {k : Bool → En → Prop} : okE (notT f) en k x = okE f en (fun b en1 => k (!b) en1) x := by
  unfold okE notT
  cases f en <;> rfl
def bi (b : Bool) (p q : Prop) (_ : Tg (p, q) := ⟨⟩) : Prop := (b = true → p) ∧ (b = false → q)
theorem bi_true {p q : Prop} : bi true p q = p := by simp [bi]
theorem bi_false {p q : Prop} : bi false p q = q := by simp [bi]
theorem bi_eq {b : Bool} {p q : Prop} (h : bi b p q) : match b with | true => p | false => q := by
  cases b
  · exact h.2 rfl
  · exact h.1 rfl
theorem ok_and {f g : M Bool} {k : Bool → En → Prop} : okE (andT f g) en k x = okE f en (fun b en1 => bi b (okE g en1 k x) (k false en1)) x := by
  unfold okE andT
  cases f en with
  | bad => rfl
  | exc e en1 => rfl
  | ok b en1 => cases b <;> simp [bi]
theorem ok_or {f g : M Bool} {k : Bool → En → Prop} : okE (orT f g) en k x = okE f en (fun b en1 => bi b (k true en1) (okE g en1 k x)) x := by
  unfold okE orT
  cases f en with
  | bad => rfl
  | exc e en1 => rfl
  | ok b en1 => cases b <;> simp [bi]
theorem ok_ifF {t : M Bool} {f g : M R} {k : R → En → Prop} : okE (ifF t f g) en k x = okE t en (fun b en1 => bi b (okE f en1 k x) (okE g en1 k x)) x := by
  unfold okE ifF
  cases t en with
  | bad => rfl
  | exc e en1 => rfl
  | ok b en1 => cases b <;> simp [bi]
theorem ok_andF {f g : M R} {k : R → En → Prop} : okE (andF f g) en k x = okE (tstB f) en (fun b en1 => bi b (okE g en1 k x) (k (.sh (.bl false)) en1)) x := by
  unfold okE andF
  cases tstB f en with
  | bad => rfl
  | exc e en1 => rfl
  | ok b en1 => cases b <;> simp [bi]
theorem ok_orF {f g : M R} {k : R → En → Prop} : okE (orF f g) en k x = okE (tstB f) en (fun b en1 => bi b (k (.sh (.bl true)) en1) (okE g en1 k x)) x := by
  unfold okE orF
  cases tstB f en with
  | bad => rfl
  | exc e en1 => rfl
  | ok b en1 => cases b <;> simp [bi]
theorem ok_notF {f : M R} {k : R → En → Prop} : okE (notF f) en k x = okE (tstB f) en (fun b en1 => k (.sh (.bl (!b))) en1) x := by
  unfold okE notF
  cases tstB f en <;> rfl
theorem ok_tup {fs : M (List R)} {k : R → En → Prop} : okE (tupF fs) en k x = okE fs en (fun rs en1 => okL (stos rs) fun ds => ds.length ≤ 1000 ∧ k (.sh (.tup ds)) en1) x := by
  unfold okE tupF
  cases fs en with
  | bad => rfl
  | exc e en1 => rfl
  | ok rs en1 =>
    dsimp only
    cases stos rs with
    | none => rfl
    | some ds =>
      dsimp only [okL]
      by_cases h : ds.length ≤ 1000
      · simp [h]
      · simp [h]
theorem ok_lst {fs : M (List R)} {k : R → En → Prop} : okE (lstF fs) en k x = okE fs en (fun rs en1 => okL (stos rs) fun ds => ds.length ≤ 1000 ∧ k (.fr (.lst ds)) en1) x := by
  unfold okE lstF
  cases fs en with
  | bad => rfl
  | exc e en1 => rfl
  | ok rs en1 =>
    dsimp only
    cases stos rs with
    | none => rfl
    | some ds =>
      dsimp only [okL]
      by_cases h : ds.length ≤ 1000
      · simp [h]
      · simp [h]
theorem ok_dic {k : R → En → Prop} : okE dicF en k x = k (.fr (.dic [])) en := rfl
theorem ok_bm {isT : D → Bool} {g : List D → Option (Bool × D)} {fo : M R} {fs : M (List R)} {k : R → En → Prop} : okE (bmF isT g fo fs) en k x = okE fo en (fun r en1 => okL (rsl en1 r) fun d0 => isT d0 = true ∧
    okE fs en1 (fun rs en2 => okL (rsls en2 (r :: rs)) fun ds => okL (g ds) fun bd => k (mkR bd.1 bd.2) en2) x) x := by
  unfold okE bmF
  cases fo en with
  | bad => rfl
  | exc e en1 => rfl
  | ok r en1 =>
    dsimp only
    cases rsl en1 r with
    | none => rfl
    | some d =>
      dsimp only [okL]
      cases h : isT d with
      | false => simp
      | true =>
        simp only [true_and]
        cases fs en1 with
        | bad => rfl
        | exc e en2 => rfl
        | ok rs en2 =>
          dsimp only
          cases rsls en2 (r :: rs) with
          | none => rfl
          | some ds =>
            dsimp only
            cases g ds <;> rfl
def intR (k : Option Int → En → Prop) (en : En) (r : R) (_ : Tg k := ⟨⟩) : Prop := match r with
  | .sh (.int i) => k (some i) en
  | _ => False
theorem intR_int {k : Option Int → En → Prop} {i : Int} : intR k en (.sh (.int i)) = k (some i) en := rfl
theorem ok_prtN {k : Option Int → En → Prop} : okE (prtF none) en k x = k none en := rfl
theorem ok_prtS {f : M R} {k : Option Int → En → Prop} : okE (prtF (some f)) en k x = okE f en (fun r en1 => intR k en1 r) x := by
  unfold okE prtF
  dsimp only
  cases f en with
  | bad => rfl
  | exc e en1 => rfl
  | ok r en1 =>
    cases r with
    | sh d => cases d <;> rfl
    | fr d => rfl
    | sl d => rfl
theorem ok_sl {g : D → Option Int → Option Int → Option (Bool × D)} {f : M R} {lo hi : Option (M R)} {k : R → En → Prop} : okE (slF g f lo hi) en k x = okE f en (fun r en1 => okE (prtF lo) en1 (fun l en2 => okE (prtF hi) en2 (fun h en3 =>
    okL (rsl en3 r) fun d => okL (g d l h) fun bd => k (mkR bd.1 bd.2) en3) x) x) x := by
  unfold okE
  rw [slF_eq]
  cases f en with
  | bad => rfl
  | exc e en1 => rfl
  | ok r en1 =>
    dsimp only
    cases prtF lo en1 with
    | bad => rfl
    | exc e en2 => rfl
    | ok l en2 =>
      dsimp only
      cases prtF hi en2 with
      | bad => rfl
      | exc e en3 => rfl
      | ok h en3 =>
        dsimp only
        cases rsl en3 r with
        | none => rfl
        | some d =>
          dsimp only [okL]
          cases g d l h <;> rfl
def shK (k : D → Prop) (r : R) (_ : Tg k := ⟨⟩) : Prop := match r with
  | .sh d => k d
  | _ => False
theorem shK_sh {k : D → Prop} {d : D} : shK k (.sh d) = k d := rfl
theorem ok_ch {f : Int → Int → Bool} {g : List Nat → List Nat → Bool} {f' : Int → Int → Bool} {g' : List Nat → List Nat → Bool} {fa fb fc : M R} {k : R → En → Prop} : okE (chF f g f' g' fa fb fc) en k x = okE fa en (fun ra en1 => okE fb en1 (fun rb en2 => shK (fun a => shK (fun b =>
    okL (ordB f g a b) fun t => bi t (okE fc en2 (fun rc en3 => shK (fun c => okL (ordB f' g' b c) fun t' => k (.sh (.bl t')) en3) rc) x) (k (.sh (.bl false)) en2)) rb) ra) x) x := by
  unfold okE chF two consF nilF
  cases e1 : fa en with
  | bad => rfl
  | exc e en1 => rfl
  | ok ra en1 =>
    dsimp only
    cases e2 : fb en1 with
    | bad => rfl
    | exc e en2 => rfl
    | ok rb en2 =>
      cases ra with
      | fr a => rfl
      | sl a => rfl
      | sh a =>
        cases rb with
        | fr a => rfl
        | sl a => rfl
        | sh b =>
          dsimp only [shK]
          cases et : ordB f g a b with
          | none => rfl
          | some t =>
            dsimp only [okL]
            cases t with
            | false => simp [bi]
            | true =>
              simp only [bi_true]
              cases ec : fc en2 with
              | bad => rfl
              | exc e en3 => rfl
              | ok rc en3 =>
                cases rc with
                | fr a => rfl
                | sl a => rfl
                | sh c =>
                  dsimp only
                  cases ordB f' g' b c <;> rfl
def callK (io : List Bool) (rs : List R) (en1 : En) (k : R → En → Prop) (x : Ex → En → Prop) (o : Out) (_ : Tg (k, x) := ⟨⟩) : Prop := match o with
  | .ret b d outs => (!(borrows io rs) || (!(io.elem true) && resFlat b d)) = true ∧ k (mkR b d) (putBack io rs outs en1)
  | .exc e outs => (!(borrows io rs) || (!(io.elem true) && excFlat e)) = true ∧ x e (putBack io rs outs en1)
  | .bad => False
theorem ok_call {io : List Bool} {φ : List D → Out} {fs : M (List R)} {k : R → En → Prop} : okE (callF io φ fs) en k x = okE fs en (fun rs en1 => okL (rsls en1 rs) fun ds => (lentOk io rs && nodupB (slotsOf rs)) = true ∧ okO (φ ds) fun o => callK io rs en1 k x o) x := by
  unfold okE callF
  cases fs en with
  | bad => rfl
  | exc e en1 => rfl
  | ok rs en1 =>
    dsimp only
    cases rsls en1 rs with
    | none => rfl
    | some ds =>
      dsimp only [okL]
      cases h : (lentOk io rs && nodupB (slotsOf rs)) with
      | false => simp
      | true =>
        simp only [true_and, okO]
        cases φ ds with
        | bad => rfl
        | ret b d outs =>
          dsimp only [callK]
          cases h2 : (!(borrows io rs) || (!(io.elem true) && resFlat b d)) with
          | false => simp
          | true => simp
        | exc e outs =>
          dsimp only [callK]
          cases h2 : (!(borrows io rs) || (!(io.elem true) && excFlat e)) with
          | false => simp
          | true => simp
theorem callK_ret {io : List Bool} {rs : List R} {en1 : En} {k : R → En → Prop} {b : Bool} {d : D} {outs : List D} : callK io rs en1 k x (.ret b d outs) = ((!(borrows io rs) || (!(io.elem true) && resFlat b d)) = true ∧ k (mkR b d) (putBack io rs outs en1)) := rfl
theorem callK_exc {io : List Bool} {rs : List R} {en1 : En} {k : R → En → Prop} {e : Ex} {outs : List D} : callK io rs en1 k x (.exc e outs) = ((!(borrows io rs) || (!(io.elem true) && excFlat e)) = true ∧ x e (putBack io rs outs en1)) := rfl
theorem ok_itA {h : List D → Option (List D)} {fs : M (List R)} {k : List D → En → Prop} : okE (itA h fs) en k x = okE fs en (fun rs en1 => okL (stos rs) fun ds => okL (h ds) fun out => k out en1) x := by
  unfold okE itA
  cases fs en with
  | bad => rfl
  | exc e en1 => rfl
  | ok rs en1 =>
    dsimp only
    cases stos rs with
    | none => rfl
    | some ds =>
      dsimp only [okL]
      cases h ds <;> rfl
theorem ok_lc {it : M (List D)} {g : D → M Unit} {tt : M Bool} {te : M R} {vs : List Nat} {k : R → En → Prop} : okE (lcF it g tt te vs) en k x = okE it en (fun ds en1 => vs.all (freeAt en1) = true ∧
    okE (lcL g tt te vs ds []) (wipeE vs en1) (fun acc en2 => k (.fr (.lst acc)) (resE vs en1 en2)) (fun _ _ => False)) x := by
  unfold okE lcF
  cases it en with
  | bad => rfl
  | exc e en1 => rfl
  | ok ds en1 =>
    dsimp only
    cases h : vs.all (freeAt en1) with
    | false => simp
    | true =>
      simp only [true_and]
      cases lcL g tt te vs ds [] (wipeE vs en1) <;> rfl
def mutG (b : Bool) (rs : List R) (en1 : En) : Option (List D) := match b with
  | true => stos rs
  | false => rsls en1 rs
def ownK (k : Bool → D → Prop) (o : Option Sl) (_ : Tg k := ⟨⟩) : Prop := match o with
  | some (.o b d) => k b d
  | _ => False
theorem ownK_o {k : Bool → D → Prop} {b : Bool} {d : D} : ownK k (some (.o b d)) = k b d := rfl
theorem ok_mut {st : Bool} {i : Nat} {isT : D → Bool} {g : D → List D → Option (D × D)} {fs : M (List R)} {k : R → En → Prop} : okE (mutF st i isT g fs) en k x = ownK (fun _ dd => isT dd = true ∧ okE fs en (fun rs en1 => okL (mutG st rs en1) fun ds => ownK (fun b d0 => okL (g d0 ds) fun dd => k (.sh dd.2) (en1.set i (.o b dd.1))) en1[i]?) x) en[i]? := by
  unfold okE mutF
  cases e : en[i]? with
  | none => rfl
  | some s =>
    cases s with
    | e => rfl
    | v d => rfl
    | o b d =>
      dsimp only [ownK]
      cases h1 : isT d with
      | false => simp
      | true =>
        simp only [true_and]
        cases e2 : fs en with
        | bad => rfl
        | exc e en1 => rfl
        | ok rs en1 =>
          cases st with
          | true =>
            dsimp only [mutG]
            cases e3 : stos rs with
            | none => rfl
            | some ds =>
              dsimp only [okL]
              cases e4 : en1[i]? with
              | none => rfl
              | some s =>
                cases s with
                | e => rfl
                | v d => rfl
                | o b d =>
                  dsimp only [ownK]
                  cases g d ds <;> rfl
          | false =>
            dsimp only [mutG]
            cases e3 : rsls en1 rs with
            | none => rfl
            | some ds =>
              dsimp only [okL]
              cases e4 : en1[i]? with
              | none => rfl
              | some s =>
                cases s with
                | e => rfl
                | v d => rfl
                | o b d =>
                  dsimp only [ownK]
                  cases g d ds <;> rfl
variable {k : Fl → Prop}
theorem os_sk : okS skF en k = k (.nx en) := rfl
theorem os_bk : okS bkF en k = k (.bk en) := rfl
theorem os_ct : okS ctF en k = k (.ct en) := rfl
def seqK (g : En → Fl) (k : Fl → Prop) (o : Fl) (_ : Tg k := ⟨⟩) : Prop := match o with
  | .nx en => okS g en k
  | .bad => False
  | o => k o
theorem seqK_nx {g : En → Fl} : seqK g k (.nx en) = okS g en k := rfl
theorem seqK_rt {g : En → Fl} {r : R} : seqK g k (.rt r en) = k (.rt r en) := rfl
theorem seqK_bk {g : En → Fl} : seqK g k (.bk en) = k (.bk en) := rfl
theorem seqK_ct {g : En → Fl} : seqK g k (.ct en) = k (.ct en) := rfl
theorem seqK_exc {g : En → Fl} {e : Ex} : seqK g k (.exc e en) = k (.exc e en) := rfl
theorem os_seq {f g : En → Fl} : okS (seqF f g) en k = (okS f en fun o => seqK g k o) := by
  unfold okS seqF
  cases f en <;> rfl
theorem os_dr {f : M R} : okS (drF f) en k = okE f en (fun _ en1 => k (.nx en1)) fun e en => k (.exc e en) := by
  unfold okS okE drF
  cases f en <;> rfl
theorem os_rt {f : M R} : okS (rtF f) en k = okE f en (fun r en1 => k (.rt r en1)) fun e en => k (.exc e en) := by
  unfold okS okE rtF
  cases f en <;> rfl
theorem os_if {t : M Bool} {f g : En → Fl} : okS (ifS t f g) en k = okE t en (fun b en1 => bi b (okS f en1 k) (okS g en1 k)) fun e en => k (.exc e en) := by
  unfold okE okS ifS
  cases t en with
  | bad => rfl
  | exc e en1 => rfl
  | ok b en1 => cases b <;> simp [bi]
def vK (i : Nat) (en1 : En) (k : Fl → Prop) (r : R) (_ : Tg k := ⟨⟩) : Prop := match r with
  | .sh d => k (.nx (en1.set i (.v d)))
  | .fr d => k (.nx (en1.set i (.v d)))
  | .sl _ => False
theorem vK_sh {i : Nat} {d : D} : vK i en k (.sh d) = k (.nx (en.set i (.v d))) := rfl
theorem vK_fr {i : Nat} {d : D} : vK i en k (.fr d) = k (.nx (en.set i (.v d))) := rfl
theorem os_asV {i : Nat} {f : M R} : okS (asV i f) en k = okE f en (fun r en1 => freeAt en1 i = true ∧ vK i en1 k r) fun e en => k (.exc e en) := by
  unfold okE okS asV
  cases f en with
  | bad => rfl
  | exc e en1 => rfl
  | ok r en1 =>
    dsimp only
    cases freeAt en1 i with
    | false => simp
    | true => cases r <;> simp [vK]
def oK (i : Nat) (en1 : En) (k : Fl → Prop) (r : R) (_ : Tg k := ⟨⟩) : Prop := match r with
  | .fr d => k (.nx (en1.set i (.o false d)))
  | _ => False
theorem oK_fr {i : Nat} {d : D} : oK i en k (.fr d) = k (.nx (en.set i (.o false d))) := rfl
theorem os_asO {i : Nat} {f : M R} : okS (asO i f) en k = okE f en (fun r en1 => freeAt en1 i = true ∧ oK i en1 k r) fun e en => k (.exc e en) := by
  unfold okE okS asO
  cases f en with
  | bad => rfl
  | exc e en1 => rfl
  | ok r en1 =>
    dsimp only
    cases freeAt en1 i with
    | false => simp
    | true => cases r <;> simp [oK]
theorem os_asG {g : D → M Unit} {f : M R} : okS (asG g f) en k = okE f en (fun r en1 => shK (fun d => okE (g d) en1 (fun _ en2 => k (.nx en2)) fun _ _ => False) r) fun e en => k (.exc e en) := by
  unfold okS okE asG
  cases e : f en with
  | bad => rfl
  | exc e1 en1 => rfl
  | ok r en1 =>
    cases r with
    | fr d => rfl
    | sl d => rfl
    | sh d =>
      dsimp only [shK]
      cases g d en1 <;> rfl
theorem ok_gNm {i : Nat} {d : D} {k : Unit → En → Prop} : okE (gNm i d) en k x = (freeAt en i = true ∧ k () (en.set i (.v d))) := by
  unfold okE gNm
  cases freeAt en i <;> simp
theorem ok_gTp {is : List Nat} {ds : List D} {k : Unit → En → Prop} : okE (gTp is (.tup ds)) en k x = okE (gNms is ds) en k x := rfl
theorem ok_gNms0 {k : Unit → En → Prop} : okE (gNms [] []) en k x = k () en := rfl
theorem ok_gNms1 {i : Nat} {is : List Nat} {d : D} {ds : List D} {k : Unit → En → Prop} : okE (gNms (i :: is) (d :: ds)) en k x = (freeAt en i = true ∧ okE (gNms is ds) (en.set i (.v d)) k x) := by
  unfold okE
  rw [show gNms (i :: is) (d :: ds) en = (match freeAt en i with | true => gNms is ds (en.set i (.v d)) | false => .bad) from rfl]
  cases freeAt en i <;> simp
def shK2 (k : D → D → Prop) (r : List R) (_ : Tg k := ⟨⟩) : Prop := match r with
  | [.sh d, .sh d'] => k d d'
  | _ => False
theorem shK2_sh {k : D → D → Prop} {d d' : D} : shK2 k [.sh d, .sh d'] = k d d' := rfl
theorem os_asP {i j : Nat} {fs : M (List R)} : okS (asP i j fs) en k = okE fs en (fun rs en1 => shK2 (fun d d' => freeAt en1 i = true ∧ freeAt en1 j = true ∧ k (.nx ((en1.set i (.v d)).set j (.v d')))) rs) fun e en => k (.exc e en) := by
  unfold okS okE asP
  cases e : fs en with
  | bad => rfl
  | exc e1 en1 => rfl
  | ok rs en1 =>
    dsimp only
    match rs with
    | [.sh d, .sh d'] =>
      dsimp only [shK2]
      cases freeAt en1 i <;> cases freeAt en1 j <;> simp
    | [] => rfl
    | [.fr _] => rfl
    | [.sl _] => rfl
    | [.sh _] => rfl
    | .fr _ :: _ :: _ => rfl
    | .sl _ :: _ :: _ => rfl
    | .sh _ :: .fr _ :: _ => rfl
    | .sh _ :: .sl _ :: _ => rfl
    | .sh _ :: .sh _ :: _ :: _ => rfl
theorem os_st {i : Nat} {fi fv : M R} {u : D → D → D → Option D} : okS (stF i fi fv u) en k = okE fv en (fun r en1 => okL (stoD r) fun d => ownK (fun _ _ => okE fi en1 (fun ri en2 => okL (rsl en2 ri) fun di => ownK (fun b d0 => okL (u d0 di d) fun d1 => k (.nx (en2.set i (.o b d1)))) en2[i]?) fun e en => k (.exc e en)) en1[i]?) fun e en => k (.exc e en) := by
  unfold okS okE stF
  cases e : fv en with
  | bad => rfl
  | exc e1 en1 => rfl
  | ok r en1 =>
    dsimp only
    cases e2 : stoD r with
    | none => rfl
    | some d =>
      dsimp only [okL]
      cases e3 : en1[i]? with
      | none => rfl
      | some s =>
        cases s with
        | e => rfl
        | v d => rfl
        | o b0 d00 =>
          dsimp only [ownK]
          cases e4 : fi en1 with
          | bad => rfl
          | exc e1 en2 => rfl
          | ok ri en2 =>
            dsimp only
            cases e5 : rsl en2 ri with
            | none => rfl
            | some di =>
              dsimp only [okL]
              cases e6 : en2[i]? with
              | none => rfl
              | some s =>
                cases s with
                | e => rfl
                | v d => rfl
                | o b d0 =>
                  dsimp only [ownK]
                  cases u d0 di d <;> rfl
theorem os_fr {it : M (List D)} {g : D → M Unit} {f : En → Fl} : okS (frF it g f) en k = okE it en (fun ds en1 => okS (frL g f ds) en1 k) fun e en => k (.exc e en) := by
  unfold okS okE frF
  cases it en <;> rfl
def defK (io : List Bool) (ds : List D) (k : Out → Prop) (o : Fl) (_ : Tg k := ⟨⟩) : Prop := match o with
  | .nx en => k (.ret false .non (outsOf io ds en))
  | .rt (.sh d) en => k (.ret false d (outsOf io ds en))
  | .rt (.fr d) en => k (.ret true d (outsOf io ds en))
  | .exc e en => k (.exc e (outsOf io ds en))
  | _ => False
theorem ok_run {io : List Bool} {n : Nat} {f : En → Fl} {ds : List D} {k : Out → Prop} : okO (runF io n f ds) k = okS f (mkE io ds ++ List.replicate n .e) (fun o => defK io ds k o) := by
  unfold okO okS runF
  cases f (mkE io ds ++ List.replicate n .e) with
  | rt r en => cases r <;> rfl
  | _ => rfl
theorem defK_nx {io : List Bool} {ds : List D} {k : Out → Prop} : defK io ds k (.nx en) = k (.ret false .non (outsOf io ds en)) := rfl
theorem defK_sh {io : List Bool} {ds : List D} {k : Out → Prop} {d : D} : defK io ds k (.rt (.sh d) en) = k (.ret false d (outsOf io ds en)) := rfl
theorem defK_fr {io : List Bool} {ds : List D} {k : Out → Prop} {d : D} : defK io ds k (.rt (.fr d) en) = k (.ret true d (outsOf io ds en)) := rfl
theorem defK_exc {io : List Bool} {ds : List D} {k : Out → Prop} {e : Ex} : defK io ds k (.exc e en) = k (.exc e (outsOf io ds en)) := rfl
theorem os_mono {f : En → Fl} {k k' : Fl → Prop} (h : okS f en k) (i : ∀ o, k o → k' o) : okS f en k' := by
  revert h
  unfold okS
  cases f en with
  | bad => exact id
  | _ => exact fun h => i _ h
theorem oe_mono {f : M α} {k k' : α → En → Prop} {x' : Ex → En → Prop} (h : okE f en k x) (i : ∀ a e, k a e → k' a e) (j : ∀ a e, x a e → x' a e) : okE f en k' x' := by
  revert h
  unfold okE
  cases f en with
  | bad => exact id
  | ok a e => exact fun h => i _ _ h
  | exc a e => exact fun h => j _ _ h
def loopK (nxt brk : En → Prop) (k : Fl → Prop) (o : Fl) (_ : Tg (nxt, brk, k) := ⟨⟩) : Prop := match o with
  | .nx en => nxt en
  | .ct en => nxt en
  | .bk en => brk en
  | .bad => False
  | o => k o
theorem loopK_nx {nxt brk : En → Prop} : loopK nxt brk k (.nx en) = nxt en := rfl
theorem loopK_ct {nxt brk : En → Prop} : loopK nxt brk k (.ct en) = nxt en := rfl
theorem loopK_bk {nxt brk : En → Prop} : loopK nxt brk k (.bk en) = brk en := rfl
theorem loopK_rt {nxt brk : En → Prop} {r : R} : loopK nxt brk k (.rt r en) = k (.rt r en) := rfl
theorem loopK_exc {nxt brk : En → Prop} {e : Ex} : loopK nxt brk k (.exc e en) = k (.exc e en) := rfl
theorem os_frL (P : List D → List D → En → Prop) {g : D → M Unit} {f : En → Fl} : ∀ (ds pre : List D) (en : En), P pre ds en → (∀ pre d ds en, P pre (d :: ds) en → okE (g d) en (fun _ en1 => okS f en1 (fun o => loopK (P (pre ++ [d]) ds) (fun en2 => k (.nx en2)) k o)) fun _ _ => False) →
    (∀ pre en, P pre [] en → k (.nx en)) → okS (frL g f ds) en k
  | [], pre, en, h0, hs, hd => hd pre en h0
  | d :: ds, pre, en, h0, hs, hd => by
    have h := hs pre d ds en h0
    unfold okE at h
    unfold okS frL
    cases e1 : g d en with
    | bad => rw [e1] at h; exact h.elim
    | exc e1 en1 => rw [e1] at h; exact h.elim
    | ok u en1 =>
      rw [e1] at h
      dsimp only at h ⊢
      unfold okS at h
      have ih := fun en2 h2 => os_frL P ds (pre ++ [d]) en2 h2 hs hd
      unfold okS at ih
      cases e2 : f en1 with
      | bad => rw [e2] at h; exact h
      | nx en2 => rw [e2] at h; exact ih en2 h
      | ct en2 => rw [e2] at h; exact ih en2 h
      | bk en2 => rw [e2] at h; exact h
      | rt r en2 => rw [e2] at h; exact h
      | exc r en2 => rw [e2] at h; exact h
theorem os_while (P : Nat → En → Prop) {t : M Bool} {f : En → Fl} : ∀ (n m : Nat) (en : En), m < n → P m en → (∀ m en, P m en → okE t en (fun b en1 => bi b (okS f en1 (fun o => loopK (fun en2 => ∃ m', m' < m ∧ P m' en2) (fun en2 => k (.nx en2)) k o)) (k (.nx en1))) fun e en => k (.exc e en)) → okS (whF t f n) en k
  | 0, m, en, hm, _, _ => absurd hm (Nat.not_lt_zero _)
  | n + 1, m, en, hm, h0, hs => by
    have h := hs m en h0
    unfold okE at h
    unfold okS whF
    cases e1 : t en with
    | bad => rw [e1] at h; exact h.elim
    | exc e1 en1 => rw [e1] at h; exact h
    | ok b en1 =>
      rw [e1] at h
      have h := bi_eq h
      cases b with
      | false => exact h
      | true =>
        dsimp only at h ⊢
        unfold okS at h
        have ih := fun m' en2 hm' h2 => os_while P n m' en2 (Nat.lt_of_lt_of_le hm' (Nat.le_of_lt_succ hm)) h2 hs
        unfold okS at ih
        cases e2 : f en1 with
        | bad => rw [e2] at h; exact h
        | nx en2 => rw [e2] at h; obtain ⟨m', h1, h2⟩ := h; exact ih m' en2 h1 h2
        | ct en2 => rw [e2] at h; obtain ⟨m', h1, h2⟩ := h; exact ih m' en2 h1 h2
        | bk en2 => rw [e2] at h; exact h
        | rt r en2 => rw [e2] at h; exact h
        | exc r en2 => rw [e2] at h; exact h
theorem ok_lcL (P : List D → List D → List D → En → Prop) {g : D → M Unit} {tt : M Bool} {te : M R} {vs : List Nat} {k : List D → En → Prop} : ∀ (ds pre acc : List D) (en : En), P pre ds acc en →
    (∀ pre d ds acc en, P pre (d :: ds) acc en → okE (g d) en (fun _ en1 => okE tt en1 (fun b en2 => bi b (okE te en2 (fun r en3 => okL (stoD r) fun y => acc.length < 1000000 ∧ P (pre ++ [d]) ds (acc ++ [y]) (wipeE vs en3)) fun _ _ => False) (P (pre ++ [d]) ds acc (wipeE vs en2))) fun _ _ => False) fun _ _ => False) →
    (∀ pre acc en, P pre [] acc en → k acc en) → okE (lcL g tt te vs ds acc) en k x
  | [], pre, acc, en, h0, hs, hd => hd pre acc en h0
  | d :: ds, pre, acc, en, h0, hs, hd => by
    have h := hs pre d ds acc en h0
    unfold okE lcL
    unfold okE at h
    have ih := fun acc' en2 h2 => ok_lcL P ds (pre ++ [d]) acc' en2 h2 hs hd
    unfold okE at ih
    cases e1 : g d en with
    | bad => rw [e1] at h; exact h.elim
    | exc e1 en1 => rw [e1] at h; exact h.elim
    | ok u en1 =>
      rw [e1] at h
      dsimp only at h ⊢
      cases e2 : tt en1 with
      | bad => rw [e2] at h; exact h.elim
      | exc e2 en2 => rw [e2] at h; exact h.elim
      | ok b en2 =>
        rw [e2] at h
        have h := bi_eq h
        cases b with
        | false => exact ih acc _ h
        | true =>
          dsimp only at h ⊢
          cases e3 : te en2 with
          | bad => rw [e3] at h; exact h.elim
          | exc e2 en2 => rw [e3] at h; exact h.elim
          | ok r en3 =>
            rw [e3] at h
            dsimp only at h ⊢
            cases e4 : stoD r with
            | none => rw [e4] at h; exact h.elim
            | some y =>
              rw [e4] at h
              obtain ⟨hl, h⟩ := h
              dsimp only
              rw [decide_eq_true hl]
              exact ih _ _ h
end
end PyD

namespace PyD
open PySem PySem.Spec L2
def tx (l : List Nat) : Str := ⟨l.toArray⟩
theorem tx_inj {a b : List Nat} (h : tx a = tx b) : a = b := by
  unfold tx at h
  have := Str.mk.inj h
  simpa using this
theorem tx_eq {a b : List Nat} : (tx a = tx b) = (a = b) := propext ⟨tx_inj, fun h => by rw [h]⟩
theorem tx_len (l : List Nat) : (tx l).length = l.length := by simp [tx, Str.length]
theorem tx_list (l : List Nat) : (tx l).cps.toList = l := by simp [tx]
theorem tx_app (a b : List Nat) : tx a ++ tx b = tx (a ++ b) := by
  show Str.append (tx a) (tx b) = _
  simp [tx, Str.append]
theorem line_eq : sizeLine = 16777216 := rfl
theorem add_tx {a b : List Nat} : addD [.str (tx a), .str (tx b)] = if a.length + b.length ≤ 16777216 then some (false, .str (tx (a ++ b))) else none := by
  simp only [addD, tx_len, tx_app, line_eq]
theorem add_int {a b : Int} : addD [.int a, .int b] = some (false, .int (a + b)) := rfl
theorem add_lst {a b : List D} : addD [.lst a, .lst b] = if a.length + b.length ≤ 16777216 then some (true, .lst (a ++ b)) else none := rfl
theorem add_tup {a b : List D} : addD [.tup a, .tup b] = if a.length + b.length ≤ 16777216 then some (false, .tup (a ++ b)) else none := rfl
theorem sub_int {a b : Int} : subD [.int a, .int b] = some (false, .int (a - b)) := rfl
theorem mod_int {a b : Int} : modD [.int a, .int b] = if 0 < b then some (false, .int (a % b)) else none := by
  by_cases h : 0 < b
  · simp [modD, int2, h]
  · simp [modD, int2, h]
theorem fdv_int {a b : Int} : fdvD [.int a, .int b] = if 0 < b ∧ b.natAbs.log2 ≤ 8000 then some (false, .int (a / b)) else none := by
  by_cases h : 0 < b ∧ b.natAbs.log2 ≤ 8000
  · simp [fdvD, int2, h]
  · simp only [fdvD, int2, if_neg h]
    rfl
theorem pow_int {a b : Int} : powD [.int a, .int b] = if 0 ≤ b ∧ b ≤ 1000 ∧ a.natAbs < 2 ^ 64 then some (false, .int (a ^ b.toNat)) else none := by
  by_cases h : 0 ≤ b ∧ b ≤ 1000 ∧ a.natAbs < 2 ^ 64
  · simp only [powD, int2, if_pos h]
    rfl
  · simp only [powD, int2, if_neg h]
    rfl
theorem neg_int {a : Int} : negD [.int a] = some (false, .int (-a)) := rfl
def okT (l : List Nat) : Prop := ∀ c ∈ l, c < 1114112
theorem strOk_tx {l : List Nat} : PyData.strOk (tx l) = true ↔ okT l := by
  simp [PyData.strOk, tx, okT]
theorem shaped_int (a : Int) : SeqAt.shaped (.int a) = true := rfl
theorem shaped_str {l : List Nat} (h : okT l) : SeqAt.shaped (.str (tx l)) = true := by
  have := strOk_tx.mpr h
  simp [SeqAt.shaped, PyData.canLay0, PyData.depth, this]
theorem dec_eq {α : Type} [DecidableEq α] (a b : α) : (a == b) = decide (a = b) := by
  by_cases h : a = b
  · simp [h]
  · simp [h]
theorem eq_int {a b : Int} : eqD (.int a) (.int b) = some (decide (a = b)) := by
  simp only [eqD, toPy, shaped_int, and_self, if_true, PyData.eqv, dec_eq]
theorem okL_eqtx {a b : List Nat} {k : Bool → Prop} (h : okT a) (h' : okT b) (hk : k (decide (a = b))) : okL (eqD (.str (tx a)) (.str (tx b))) k := by
  have e : eqD (.str (tx a)) (.str (tx b)) = some (decide (a = b)) := by
    simp only [eqD, toPy, shaped_str h, shaped_str h', and_self, if_true, PyData.eqv, dec_eq, tx_eq]
  rw [e]
  exact hk
theorem eqOp_eq {n : Bool} {a b : D} : eqOp n [a, b] = (eqD a b).map fun k => (false, .bl (k != n)) := rfl
theorem ne_false (b : Bool) : (b != false) = b := by cases b <;> rfl
theorem ne_true (b : Bool) : (b != true) = !b := by cases b <;> rfl
theorem len_tx {l : List Nat} : lenD [.str (tx l)] = if l.length ≤ 16777216 then some (false, .int l.length) else none := by
  simp only [lenD, tx_len, line_eq]
theorem len_lst {l : List D} : lenD [.lst l] = some (false, .int l.length) := rfl
theorem len_tup {l : List D} : lenD [.tup l] = some (false, .int l.length) := rfl
theorem len_scr {l : List Int} : lenD [.scr l] = some (false, .int l.length) := rfl
theorem len_dic {l : List (Key × D)} : lenD [.dic l] = some (false, .int l.length) := rfl
theorem ix_lst {l : List D} {i : Int} : ixUD [.lst l, .int i] = (atI l i).map fun d => (false, d) := rfl
theorem ix_tup {l : List D} {i : Int} : ixUD [.tup l, .int i] = (atI l i).map fun d => (false, d) := rfl
theorem ix_scr {l : List Int} {i : Int} : ixUD [.scr l, .int i] = (atI l i).map fun n => (false, .int n) := rfl
theorem ix_tx {l : List Nat} {i : Int} : ixUD [.str (tx l), .int i] = if l.length ≤ 16777216 then (atI l i).map fun c => (false, .str (tx [c])) else none := by
  show ixD [.str (tx l), .int i] = _
  simp only [ixD, tx_len, tx_list, line_eq]
  rfl
theorem at_0 {α : Type} {a : α} {l : List α} : atI (a :: l) 0 = some a := by simp [atI, ixN]
theorem at_1 {α : Type} {a b : α} {l : List α} : atI (a :: b :: l) 1 = some b := by
  have : (1 : Int) < ((l.length : Int) + 1 + 1) := by omega
  simp [atI, ixN, this]
theorem at_2 {α : Type} {a b c : α} {l : List α} : atI (a :: b :: c :: l) 2 = some c := by
  have : (2 : Int) < ((l.length : Int) + 1 + 1 + 1) := by omega
  simp [atI, ixN, this]
theorem okL_at {α : Type} {l : List α} {i : Int} {k : α → Prop} (h0 : 0 ≤ i) (h1 : i < l.length) (hk : ∀ x, l[i.toNat]? = some x → k x) : okL (atI l i) k := by
  have hn : i.toNat < l.length := by omega
  have e : atI l i = some l[i.toNat] := by
    unfold atI ixN
    rw [if_pos h0, if_pos h1]
    simp [hn]
  rw [e]
  exact hk _ (by simp [hn])
theorem okL_atMem {α : Type} {l : List α} {i : Int} {k : α → Prop} (h0 : 0 ≤ i) (h1 : i < l.length) (hk : ∀ x, x ∈ l → k x) : okL (atI l i) k :=
  okL_at h0 h1 fun x e => hk x (List.mem_of_getElem? e)
theorem ixN_at {n : Nat} {i : Int} (h0 : 0 ≤ i) (h1 : i < n) : ixN n i = some i.toNat := by
  unfold ixN
  rw [if_pos h0, if_pos h1]
theorem set_lst {xs : List D} {i : Int} {d : D} : setD (.lst xs) (.int i) d = (ixN xs.length i).map fun j => .lst (xs.set j d) := rfl
theorem app_lst {xs : List D} {d : D} : appM (.lst xs) [d] = if xs.length < 1000000 then some (.lst (xs ++ [d]), .non) else none := rfl
theorem ixN_30 : ixN 3 0 = some 0 := by decide
theorem ixN_31 : ixN 3 1 = some 1 := by decide
theorem ixN_32 : ixN 3 2 = some 2 := by decide
theorem ixN_20 : ixN 2 0 = some 0 := by decide
theorem ixN_21 : ixN 2 1 = some 1 := by decide
theorem ixN_10 : ixN 1 0 = some 0 := by decide
theorem sl_tx {l : List Nat} {lo hi : Option Int} : slD (.str (tx l)) lo hi = if l.length ≤ 16777216 then some (false, .str (tx (cutL l lo hi))) else none := by
  simp only [slD, tx_len, tx_list, line_eq]
  rfl
theorem sl_lst {l : List D} {lo hi : Option Int} : slD (.lst l) lo hi = some (true, .lst (cutL l lo hi)) := rfl
theorem sl_tup {l : List D} {lo hi : Option Int} : slD (.tup l) lo hi = some (false, .tup (cutL l lo hi)) := rfl
theorem sl_scr {l : List Int} {lo hi : Option Int} : slD (.scr l) lo hi = some (true, .lst ((cutL l lo hi).map .int)) := rfl
theorem sIx_pos {n d : Nat} {i : Int} (h : 0 ≤ i) : HT.sIx n d (some i) = min i.toNat n := by
  obtain ⟨k, rfl⟩ := Int.eq_ofNat_of_zero_le h
  exact HT.sIx_nat n d k
theorem cut_mid {α : Type} {l : List α} {i j : Int} (hi : 0 ≤ i) (hj : 0 ≤ j) : cutL l (some i) (some j) = (l.take j.toNat).drop i.toNat := by
  unfold cutL
  rw [sIx_pos hi, sIx_pos hj]
  apply List.ext_getElem?
  intro n
  simp only [List.getElem?_take, List.getElem?_drop]
  have hl : l.length ≤ n + i.toNat → l[i.toNat + n]? = none := fun h => List.getElem?_eq_none (by omega)
  by_cases h1 : i.toNat ≤ l.length
  · rw [Nat.min_eq_left h1]
    by_cases h2 : i.toNat + n < l.length
    · by_cases h3 : i.toNat + n < j.toNat
      · rw [if_pos (by omega), if_pos h3]
      · rw [if_neg (by omega), if_neg h3]
    · rw [hl (by omega)]
      split <;> split <;> rfl
  · rw [hl (by omega)]
    have e : l[min i.toNat l.length + n]? = none := List.getElem?_eq_none (by omega)
    rw [e]
    split <;> split <;> rfl
theorem cut_to {α : Type} {l : List α} {j : Int} (hj : 0 ≤ j) : cutL l none (some j) = l.take j.toNat := by
  unfold cutL
  rw [sIx_pos hj, HT.sIx_none, List.drop_zero, Nat.sub_zero]
  by_cases h : j.toNat ≤ l.length
  · rw [Nat.min_eq_left h]
  · rw [Nat.min_eq_right (by omega), List.take_of_length_le (Nat.le_refl _), List.take_of_length_le (by omega)]
theorem cut_from {α : Type} {l : List α} {i : Int} (hi : 0 ≤ i) : cutL l (some i) none = l.drop i.toNat := by
  unfold cutL
  rw [sIx_pos hi, HT.sIx_none]
  by_cases h : i.toNat ≤ l.length
  · rw [Nat.min_eq_left h, List.take_of_length_le (by simp)]
  · rw [Nat.min_eq_right (by omega), Nat.sub_self, List.take_zero, List.drop_eq_nil_of_le (by omega)]
def bj (c p q : Prop) (_ : Tg (p, q) := ⟨⟩) : Prop := (c → p) ∧ (¬ c → q)
theorem bj_mk {c p q : Prop} (h : c → p) (h' : ¬ c → q) : bj c p q := ⟨h, h'⟩
theorem bj_t {c p q : Prop} (h : c) (h' : p) : bj c p q := ⟨fun _ => h', fun z => absurd h z⟩
theorem bj_f {c p q : Prop} (h : ¬ c) (h' : q) : bj c p q := ⟨fun z => absurd z h, fun _ => h'⟩
theorem bj_true {p q : Prop} : bj True p q = p := by simp [bj]
theorem bj_false {p q : Prop} : bj False p q = q := by simp [bj]
theorem bj_not {c p q : Prop} [Decidable c] : bj (¬ c) p q = bj c q p := by
  by_cases h : c <;> simp [bj, h]
theorem bi_dec {c : Prop} [Decidable c] {p q : Prop} : bi (decide c) p q = bj c p q := by
  unfold bi bj
  by_cases h : c
  · simp [h]
  · simp [h]
theorem bi_not {b : Bool} {p q : Prop} : bi (!b) p q = bi b q p := by cases b <;> simp [bi]
theorem bi_not_dec {c : Prop} [Decidable c] {p q : Prop} : bi (!decide c) p q = bj c q p := by rw [bi_not, bi_dec]
def frS : Sl → Bool
  | .o true _ => false
  | _ => true
theorem frS_e : frS .e = true := rfl
theorem frS_v {d : D} : frS (.v d) = true := rfl
theorem frS_o {d : D} : frS (.o false d) = true := rfl
theorem free_eq {en : En} {i : Nat} : (freeAt en i = true) = (match en[i]? with | some s => frS s = true | none => False) := by
  unfold freeAt
  cases en[i]? with
  | none => simp
  | some s =>
    cases s with
    | e => simp [frS]
    | v d => simp [frS]
    | o b d => cases b <;> simp [frS]
def nxK (mid : En → Prop) (o : Fl) (_ : Tg mid := ⟨⟩) : Prop := match o with
  | .nx en => mid en
  | _ => False
theorem nxK_nx {mid : En → Prop} {en : En} : nxK mid (.nx en) = mid en := rfl
theorem os_cut (mid : En → Prop) {f g : En → Fl} {en : En} {k : Fl → Prop} (h1 : okS f en fun o => nxK mid o) (h2 : ∀ en1, mid en1 → okS g en1 k) : (okS f en fun o => seqK g k o) :=
  os_mono h1 fun o h => by
    cases o with
    | nx en1 => exact h2 en1 h
    | _ => exact h.elim
end PyD

namespace PyD
open PySem PySem.Spec L2
def joinL (sep : List Nat) : List (List Nat) → List Nat
  | [] => []
  | [x] => x
  | x :: y :: r => x ++ sep ++ joinL sep (y :: r)
theorem join_tx (sep : List Nat) (ls : List (List Nat)) : Txt.join (tx sep) (ls.map tx) = tx (joinL sep ls) := by
  show Builtin.Str.glued _ _ = _
  rw [StrLaws.glued_eq_join]
  induction ls with
  | nil => rfl
  | cons x r ih =>
    cases r with
    | nil => rfl
    | cons y r =>
      show tx x ++ tx sep ++ Str.join (tx sep) ((y :: r).map tx) = _
      rw [ih, tx_app, tx_app]
      rfl
theorem joinL_nil : ∀ ls : List (List Nat), joinL [] ls = ls.flatten
  | [] => rfl
  | [x] => by simp [joinL]
  | x :: y :: r => by
    show x ++ [] ++ joinL [] (y :: r) = _
    rw [joinL_nil (y :: r)]
    simp
def dtx (l : List Nat) : D := .str (tx l)
theorem asStrs_tx (ls : List (List Nat)) : asStrs (ls.map dtx) = some (ls.map tx) := by
  have : ls.map dtx = (ls.map tx).map D.str := by simp [dtx, Function.comp_def]
  rw [this, asStrs_map]
theorem lens_tx (ls : List (List Nat)) : ((ls.map tx).map fun s => s.length) = ls.map List.length := by
  simp [Function.comp_def, tx_len]
theorem join_lst {sep : List Nat} {ls : List (List Nat)} : joinD [.str (tx sep), .lst (ls.map dtx)] = if (ls.map List.length).sum + ls.length * sep.length ≤ 16777216 then some (false, .str (tx (joinL sep ls))) else none := by
  simp only [joinD, asStrs_tx, lens_tx, join_tx, tx_len, List.length_map]
theorem sum_ones : ∀ {ls : List (List Nat)}, (∀ l ∈ ls, l.length = 1) → (ls.map List.length).sum = ls.length
  | [], _ => rfl
  | l :: ls, h => by
    rw [List.map_cons, List.sum_cons, h l (by simp), sum_ones (fun x hx => h x (by simp [hx])), List.length_cons]
    omega
theorem int_bl {b : Bool} : intD [.bl b] = some (false, .int (if b then 1 else 0)) := rfl
theorem int_int {i : Int} : intD [.int i] = some (false, .int i) := rfl
theorem list_lst {ds : List D} : listD [.lst ds] = some (true, .lst ds) := rfl
theorem list_tup {ds : List D} : listD [.tup ds] = some (true, .lst ds) := rfl
theorem list_scr {ns : List Int} : listD [.scr ns] = some (true, .lst (ns.map .int)) := rfl
theorem tuple_lst {ds : List D} : tupleD [.lst ds] = some (false, .tup ds) := rfl
theorem tuple_tup {ds : List D} : tupleD [.tup ds] = some (false, .tup ds) := rfl
theorem max2_int {i j : Int} : max2D [.int i, .int j] = some (false, .int (maxI i j)) := rfl
theorem min2_int {i j : Int} : min2D [.int i, .int j] = some (false, .int (minI i j)) := rfl
theorem isi_int {i : Int} {T : String} : isiD T [.int i] = some (false, .bl (isTy "int" T)) := rfl
theorem isi_bl {i : Bool} {T : String} : isiD T [.bl i] = some (false, .bl (isTy "bool" T)) := rfl
theorem isi_str {i : Str} {T : String} : isiD T [.str i] = some (false, .bl (isTy "str" T)) := rfl
theorem isi_tup {ds : List D} {T : String} : isiD T [.tup ds] = some (false, .bl (isTy "tuple" T)) := rfl
theorem isi_lst {ds : List D} {T : String} : isiD T [.lst ds] = some (false, .bl (isTy "list" T)) := rfl
theorem isi_non {T : String} : isiD T [.non] = some (false, .bl (isTy "NoneType" T)) := rfl
theorem isi_dic {ds : List (Key × D)} {T : String} : isiD T [.dic ds] = some (false, .bl (isTy "dict" T)) := rfl
theorem ty_ii : isTy "int" "int" = true := by decide
theorem ty_ib : isTy "int" "bool" = false := by decide
theorem ty_is : isTy "int" "str" = false := by decide
theorem ty_it : isTy "int" "tuple" = false := by decide
theorem ty_il : isTy "int" "list" = false := by decide
theorem ty_bi : isTy "bool" "int" = true := by decide
theorem ty_bb : isTy "bool" "bool" = true := by decide
theorem ty_bs : isTy "bool" "str" = false := by decide
theorem ty_bt : isTy "bool" "tuple" = false := by decide
theorem ty_bL : isTy "bool" "list" = false := by decide
theorem ty_si : isTy "str" "int" = false := by decide
theorem ty_sb : isTy "str" "bool" = false := by decide
theorem ty_ss : isTy "str" "str" = true := by decide
theorem ty_st : isTy "str" "tuple" = false := by decide
theorem ty_sl : isTy "str" "list" = false := by decide
theorem ty_ti : isTy "tuple" "int" = false := by decide
theorem ty_tb : isTy "tuple" "bool" = false := by decide
theorem ty_ts : isTy "tuple" "str" = false := by decide
theorem ty_tt : isTy "tuple" "tuple" = true := by decide
theorem ty_tl : isTy "tuple" "list" = false := by decide
theorem ty_li : isTy "list" "int" = false := by decide
theorem ty_lb : isTy "list" "bool" = false := by decide
theorem ty_ls : isTy "list" "str" = false := by decide
theorem ty_lt : isTy "list" "tuple" = false := by decide
theorem ty_ll : isTy "list" "list" = true := by decide
theorem ty_ni : isTy "NoneType" "int" = false := by decide
theorem ty_nb : isTy "NoneType" "bool" = false := by decide
theorem ty_ns : isTy "NoneType" "str" = false := by decide
theorem ty_nt : isTy "NoneType" "tuple" = false := by decide
theorem ty_nl : isTy "NoneType" "list" = false := by decide
theorem rg1 {j : Int} : rg1D [.int j] = if -(2 ^ 62) ≤ j ∧ j < 2 ^ 62 then some (upL 0 j.toNat) else none := rfl
theorem rg2 {i j : Int} : rg2D [.int i, .int j] = if -(2 ^ 62) ≤ i ∧ i < 2 ^ 62 ∧ -(2 ^ 62) ≤ j ∧ j < 2 ^ 62 then some (upL i (j - i).toNat) else none := rfl
theorem rg3 {i j k : Int} : rg3D [.int i, .int j, .int k] = if -(2 ^ 62) ≤ i ∧ i < 2 ^ 62 ∧ -(2 ^ 62) ≤ j ∧ j < 2 ^ 62 ∧ k = -1 then some (stepL i (-1) (i - j).toNat) else none := rfl
theorem it_lst {ds : List D} : itD [.lst ds] = some ds := rfl
theorem it_tup {ds : List D} : itD [.tup ds] = some ds := rfl
theorem it_scr {ns : List Int} : itD [.scr ns] = some (ns.map .int) := rfl
theorem it_str {l : List Nat} : itD [.str (tx l)] = some (l.map fun c => .str (tx [c])) := by
  simp only [itD, itemsD, sgnL, tx_list]
  rfl
theorem enum_lst {ds : List D} : enumD [.lst ds] = some (enumL ds) := rfl
theorem zip_lst {as bs : List D} : zipD [.lst as, .lst bs] = some (zipL as bs) := rfl
theorem zip_tup {as bs : List D} : zipD [.tup as, .tup bs] = some (zipL as bs) := rfl
theorem rev_lst {as : List D} : revItD [.lst as] = some as.reverse := rfl
theorem rev_tup {as : List D} : revItD [.tup as] = some as.reverse := rfl
theorem upL_len (lo : Int) (n : Nat) : (upL lo n).length = n := by simp [upL]
theorem tru_int {i : Int} : truD (.int i) = some (decide (i ≠ 0)) := by
  by_cases h : i = 0
  · simp [truD, h]
  · simp [truD, h]
theorem tru_bl {i : Bool} : truD (.bl i) = some i := rfl
theorem tru_lst {l : List D} : truD (.lst l) = some (!l.isEmpty) := rfl
theorem tru_tup {l : List D} : truD (.tup l) = some (!l.isEmpty) := rfl
theorem yesT_ok {en : En} {k : Bool → En → Prop} {x : Ex → En → Prop} : okE yesT en k x = k true en := rfl
theorem os_ix (P : Nat → En → Prop) {g : D → M Unit} {f : En → Fl} {ds : List D} {en : En} {k : Fl → Prop} (h0 : P 0 en) (hs : ∀ i d, ds[i]? = some d → ∀ en, P i en → okE (g d) en (fun _ en1 => okS f en1 (fun o => loopK (P (i + 1)) (fun en2 => k (.nx en2)) k o)) fun _ _ => False)
    (hd : ∀ en, P ds.length en → k (.nx en)) : okS (frL g f ds) en k := by
  refine os_frL (fun pre r en => P pre.length en ∧ pre ++ r = ds) ds [] en ⟨h0, rfl⟩ ?_ ?_
  · rintro pre d r en ⟨h, e⟩
    have hg : ds[pre.length]? = some d := by rw [← e]; simp
    refine oe_mono (hs _ d hg en h) (fun _ e1 h1 => os_mono h1 ?_) fun _ _ z => z
    intro o ho
    have e' : pre ++ [d] ++ r = ds := by rw [← e]; simp
    have l' : (pre ++ [d]).length = pre.length + 1 := by simp
    cases o with
    | nx e2 => exact ⟨by rw [l']; exact ho, e'⟩
    | ct e2 => exact ⟨by rw [l']; exact ho, e'⟩
    | _ => exact ho
  · rintro pre en ⟨h, e⟩
    have l' : pre.length = ds.length := by rw [← e]; simp
    exact hd en (l' ▸ h)
theorem upL_get {lo : Int} {n i : Nat} {d : D} (h : (upL lo n)[i]? = some d) : d = .int (lo + i) ∧ i < n := by
  obtain ⟨j, hj, e⟩ : ∃ j, (List.range n)[i]? = some j ∧ D.int (lo + (j : Int)) = d := by simpa [upL] using h
  obtain ⟨hl, rfl⟩ := List.getElem?_eq_some_iff.mp hj
  exact ⟨by rw [← e]; simp, by simpa using hl⟩
theorem ok_lcY (P : List D → En → Prop) {g : D → M Unit} {te : M R} {vs : List Nat} {x : Ex → En → Prop} {k : List D → En → Prop} {ds : List D} {en : En} (h0 : P [] en) (hn : ds.length ≤ 1000000)
    (hs : ∀ i d, ds[i]? = some d → ∀ acc en, acc.length = i → P acc en → okE (g d) en (fun _ en1 => okE te en1 (fun r en3 => okL (stoD r) fun y => P (acc ++ [y]) (wipeE vs en3)) fun _ _ => False) fun _ _ => False)
    (hd : ∀ acc en, acc.length = ds.length → P acc en → k acc en) : okE (lcL g yesT te vs ds []) en k x := by
  refine ok_lcL (fun pre r acc en => P acc en ∧ pre ++ r = ds ∧ acc.length = pre.length) ds [] [] en ⟨h0, rfl, rfl⟩ ?_ ?_
  · rintro pre d r acc en ⟨h, hl, ha⟩
    have hlen : acc.length < ds.length := by rw [← hl, ha]; simp
    have hg : ds[acc.length]? = some d := by rw [← hl, ha]; simp
    refine oe_mono (hs _ d hg acc en rfl h) (fun _ e1 h1 => ?_) fun _ _ z => z
    rw [yesT_ok, bi_true]
    refine oe_mono h1 (fun r3 e3 h3 => ?_) fun _ _ z => z
    revert h3
    cases stoD r3 with
    | none => exact id
    | some y =>
      intro h3
      exact ⟨by omega, h3, by rw [← hl]; simp, by simp [ha]⟩
  · rintro pre acc en ⟨h, hl, ha⟩
    exact hd acc en (by rw [ha, ← hl]; simp) h
end PyD

namespace PyD
open PySem PySem.Spec L2
def dropD (kvs : List (Key × D)) (k : Key) : List (Key × D) := kvs.filter fun kv => decide (kv.1 ≠ k)
def popD2 : D → List D → Option (D × D)
  | .dic kvs, [y, z] => match keyOf y with
    | some k => match valD kvs k with
      | some d => some (.dic (dropD kvs k), d)
      | none => some (.dic kvs, z)
    | none => none
  | _, _ => none
instance : FlatM popD2 := ⟨fun d0 ds d1 d e => by
  unfold popD2 at e
  repeat' split at e
  all_goals (first | (cases e; exact ⟨rfl, rfl⟩) | cases e)⟩
instance (a b : Int) : Decidable (RgOk a b) := by unfold RgOk; infer_instance
section
variable {X : Cx} {W : WX} {a b : Expr} {fa fb : M R} {p p2 pos pos2 : Pos}
end
end PyD

namespace PyD
open PySem PySem.Spec L2
theorem each_of {K : PySem.W.Frag} {H : Hp} : ∀ {xs : List V} {its : List Value} {ps : List PyData}, Vals xs its → DpAll K H xs ps → PySem.W.EachIs (fun (v : Value) (b : V × PyData) => RelV b.1 v ∧ Dp K H b.1 b.2) its (xs.zip ps) ∧ (xs.zip ps).map Prod.snd = ps ∧ (xs.zip ps).length = xs.length
  | _, _, _, .nil, .nil => ⟨.nil, rfl, rfl⟩
  | _, _, _, .cons r rs, .cons d ds => by
    obtain ⟨h1, h2, h3⟩ := each_of rs ds
    exact ⟨.cons ⟨r, d⟩ h1, by simp [h2], by simp [h3]⟩
theorem each_vals : ∀ {its : List Value} {bs : List (V × PyData)}, PySem.W.EachIs (fun (v : Value) (b : V × PyData) => RelV b.1 v) its bs → Vals (bs.map Prod.fst) its
  | _, _, .nil => .nil
  | _, _, .cons r rs => .cons r (each_vals rs)
def rSortA (K : PySem.W.Frag) : List V → Hp → VK → Prop := fun vs H Q => ∃ (a : Addr) (xs : List V) (ps : List PyData), vs = [V.ref a] ∧ SqL K H a xs ∧ DpAll K H xs ps ∧ PySem.W.AllAlike ps ∧ PySem.W.Sortable ps ∧ (∀ p, p ∈ ps → p.depth ≤ 60) ∧
  ∀ p : Addr, H p = none → Q (.ref p) (upd H p (.lst (((xs.zip ps).mergeSort (PySem.W.dataLe false Prod.snd)).map Prod.fst)))
theorem cr_sortedA {X : Cx} (hu : X.A.units + 64 < cLine) : CallR X (.builtin "sorted") (rSortA X.K) := by
  intro pins s σ H vs us Q I r h
  obtain ⟨a, xs, ps, rfl, hs, hd, hal, hk, hdep, q⟩ := h
  obtain ⟨its, rv, hl, hz⟩ := I.list hs
  rw [Vals.ref1 r]
  obtain ⟨e0, e1, e2⟩ := each_of rv hd
  refine PySem.W.sorted_data (R := fun (v : Value) (b : V × PyData) => RelV b.1 v) (enc := Prod.snd) hl.isList (e0.mono fun _ _ h => h.1) (e0.mono fun v b h => Dp.reads I b.2 b.1 v h.2 h.1) (by rw [e1]; exact hal) (by rw [e1]; exact hk) (by rw [e2]; exact hz) (fun b hb => ?_) fun out h1 h2 => ?_
  · have := hdep b.2 (by rw [← e1]; exact List.mem_map_of_mem hb)
    omega
  · obtain ⟨ep, he'⟩ := PyProof.Rows.sortedAll_at s.heap its out.toArray
    have hlen : (((xs.zip ps).mergeSort (PySem.W.dataLe false Prod.snd)).map Prod.fst).length ≤ sizeLine := by
      rw [List.length_map, List.length_mergeSort, e2]
      exact hz
    exact ⟨.ref _, upd H (s.heap.objs.size + 1) (.lst _), I.laid (t' := s.toks) (fun _ _ => PyProof.Rows.sortedAll_old) (Nat.le_succ _) ⟨hlen, out, ep, each_vals h2, he'⟩, rfl, q _ (I.hok.fresh (Nat.le_succ _))⟩
instance (ps : List PyData) : Decidable (PySem.W.AllAlike ps) := by unfold PySem.W.AllAlike; infer_instance
def sortable (ps : List PyData) : Bool := (ps.all fun d => match d with | .tuple (_ :: _) => true | _ => false) || ps.all fun d => match d with | .none => false | .tuple _ => false | _ => true
theorem sortable_of {ps : List PyData} (h : sortable ps = true) : PySem.W.Sortable ps := by
  unfold sortable at h
  rcases Bool.or_eq_true_iff.mp h with h | h
  · refine .inl fun d hd => ?_
    have := List.all_eq_true.mp h d hd
    split at this
    · exact ⟨_, _, rfl⟩
    · cases this
  · refine .inr fun d hd => ?_
    have := List.all_eq_true.mp h d hd
    split at this
    · cases this
    · cases this
    · rename_i h1 h2
      exact ⟨h1, fun xs e => h2 xs e⟩
def pyG (d : D) : PyData := (toPy d).getD .none
def leD' (a b : D) : Bool := PySem.W.dataLe false pyG a b
def sortD : List D → Option (Bool × D)
  | [.lst ds] => match toPyL ds with
    | some ps => if PySem.W.AllAlike ps ∧ sortable ps = true ∧ ∀ p ∈ ps, p.depth ≤ 60 then some (true, .lst (ds.mergeSort leD')) else none
    | none => none
  | _ => none
theorem rep_zip {K : PySem.W.Frag} {U : Addr → Prop} {H : Hp} : ∀ {ds : List D} {vs : List V}, RepL K U H ds vs → ∀ p ∈ ds.zip vs, Rep K U H p.1 p.2
  | [], _, _, p, hp => by simp at hp
  | d :: ds, _, r, p, hp => by
    obtain ⟨v, us, rfl, r1, r2⟩ := r.inv
    rcases List.mem_cons.mp hp with rfl | hp
    · exact r1
    · exact rep_zip r2 p hp
theorem zip_rep {K : PySem.W.Frag} {U : Addr → Prop} {H : Hp} : ∀ {l : List (D × V)}, (∀ p ∈ l, Rep K U H p.1 p.2) → RepL K U H (l.map Prod.fst) (l.map Prod.snd)
  | [], _ => RepL.nil
  | p :: l, h => RepL.cons (h p (by simp)) (zip_rep fun q hq => h q (by simp [hq]))
theorem toPyL_map : ∀ {ds : List D} {ps : List PyData}, toPyL ds = some ps → ps = ds.map pyG
  | [], ps, h => by cases h; rfl
  | d :: ds, ps, h => by
    unfold toPyL at h
    cases e1 : toPy d with
    | none => rw [e1] at h; cases h
    | some p =>
      rw [e1] at h
      dsimp only at h
      cases e2 : toPyL ds with
      | none => rw [e2] at h; cases h
      | some qs =>
        rw [e2] at h
        cases h
        rw [toPyL_map e2]
        simp [pyG, e1]
theorem zip_swap : ∀ {ds : List D} {xs : List V}, xs.length = ds.length → (ds.zip xs).map (fun p => (p.2, pyG p.1)) = xs.zip (ds.map pyG)
  | [], xs, h => by
    have : xs = [] := List.eq_nil_of_length_eq_zero h
    subst this
    rfl
  | d :: ds, [], h => by cases h
  | d :: ds, x :: xs, h => by
    simp only [List.zip_cons_cons, List.map_cons]
    rw [zip_swap (by simpa using h)]
theorem prim_sort {K : PySem.W.Frag} : Prim K (rSortA K) sortD := by
  intro U H ds vs Q b d hU ar e post
  unfold sortD at e
  split at e
  · rename_i ds
    split at e
    · rename_i ps hps
      split at e
      · rename_i hc
        cases e
        obtain ⟨v, rfl, h1⟩ := ar1 ar
        obtain ⟨p, xs, rfl, hp, r⟩ := arLst h1
        refine ⟨p, xs, ps, rfl, SqL.of hp, dpL_of r hps, hc.1, sortable_of hc.2.1, hc.2.2, fun q hq => ?_⟩
        have hl := r.len
        have key : RepL K U H (ds.mergeSort leD') (((xs.zip ps).mergeSort (PySem.W.dataLe false Prod.snd)).map Prod.fst) := by
          have e0 := toPyL_map hps
          subst e0
          have z1 : (ds.zip xs).map Prod.fst = ds := by rw [List.map_fst_zip]; omega
          have z2 := zip_swap hl
          have s1 : ((ds.zip xs).mergeSort fun (a b : D × V) => leD' a.1 b.1).map Prod.fst = ds.mergeSort leD' := by
            rw [List.map_mergeSort (r := fun (a b : D × V) => leD' a.1 b.1) (s := leD') (fun _ _ _ _ => rfl), z1]
          have s2 : ((ds.zip xs).mergeSort fun (a b : D × V) => leD' a.1 b.1).map (fun p => (p.2, pyG p.1)) = (xs.zip (ds.map pyG)).mergeSort (PySem.W.dataLe false Prod.snd) := by
            rw [List.map_mergeSort (r := fun (a b : D × V) => leD' a.1 b.1) (s := PySem.W.dataLe false Prod.snd) (fun _ _ _ _ => rfl), z2]
          rw [← s1, ← s2, List.map_map]
          exact zip_rep fun p hp => rep_zip r p (List.mem_mergeSort.mp hp)
        exact post _ _ (ext_new hq) (fun z => by cases z) fun _ => newLst hq key
      · cases e
    · cases e
  · cases e
theorem e_gs {X : Cx} {W : WX} {x s : Str} {pos : Pos} (c : ∃ t, X.mg x = some (.str s t)) (hg : Gl X x) (hd : (x == ("__debug__" : Str)) = false := by decide) : PE X (.Name x pos) (RdE X.K W (cF (.str s))) := by
  obtain ⟨t, c⟩ := c
  exact e_c (pe_glob (v := .str s) hg c ⟨t, rfl⟩ hd) fun _ _ => repStr
end PyD

namespace PyD
open PySem PySem.Spec L2
def wpM : List Bool → En → En
  | true :: ms, _ :: en => .e :: wpM ms en
  | false :: ms, s :: en => s :: wpM ms en
  | _, en => en
def frM : List Bool → En → Bool
  | true :: ms, s :: en => frS s && frM ms en
  | false :: ms, _ :: en => frM ms en
  | _, _ => true
def endF (ms : List Bool) (f : En → Fl) : En → Fl := fun en => match f en with
  | .nx e => (match frM ms e with
    | true => .nx (wpM ms e)
    | false => .bad)
  | o => o
def bodF (ms : List Bool) (f : En → Fl) : En → Fl := fun en => match f en with
  | .nx e => (match frM ms e with
    | true => .nx (wpM ms e)
    | false => .bad)
  | .ct e => (match frM ms e with
    | true => .ct (wpM ms e)
    | false => .bad)
  | o => o
theorem wpM_len : ∀ (ms : List Bool) (en : En), (wpM ms en).length = en.length
  | [], en => by cases en <;> rfl
  | true :: ms, [] => rfl
  | false :: ms, [] => rfl
  | true :: ms, s :: en => by
    show (wpM ms en).length + 1 = _
    rw [wpM_len ms en]; rfl
  | false :: ms, s :: en => by
    show (wpM ms en).length + 1 = _
    rw [wpM_len ms en]; rfl
theorem wpM_get : ∀ (ms : List Bool) (en : En) (j : Nat) (s : Sl), (wpM ms en)[j]? = some s → s = .e ∨ en[j]? = some s
  | [], en, j, s, h => .inr (by cases en <;> exact h)
  | true :: ms, [], j, s, h => .inr h
  | false :: ms, [], j, s, h => .inr h
  | true :: ms, t :: en, 0, s, h => .inl (by cases h; rfl)
  | false :: ms, t :: en, 0, s, h => .inr h
  | true :: ms, t :: en, j + 1, s, h => wpM_get ms en j s h
  | false :: ms, t :: en, j + 1, s, h => wpM_get ms en j s h
theorem wpM_keep : ∀ (ms : List Bool) (en : En) (j : Nat) (d : D), frM ms en = true → en[j]? = some (.o true d) → (wpM ms en)[j]? = some (.o true d)
  | [], en, j, d, _, h => by cases en <;> exact h
  | true :: ms, [], j, d, _, h => h
  | false :: ms, [], j, d, _, h => h
  | true :: ms, t :: en, 0, d, f, h => by
    cases h
    cases f
  | false :: ms, t :: en, 0, d, f, h => h
  | true :: ms, t :: en, j + 1, d, f, h => wpM_keep ms en j d (by
    have : (frS t && frM ms en) = true := f
    simp only [Bool.and_eq_true] at this
    exact this.2) h
  | false :: ms, t :: en, j + 1, d, f, h => wpM_keep ms en j d f h
section
variable {K : PySem.W.Frag} {W : WX} {B B' B1 : Addr → Prop} {U U' : Addr → Prop} {H H' H1 : Hp} {σ σ' σ1 : L2.St} {en en' en1 e : En} {ms : List Bool} {D0 : Ends} {f : En → Fl}
theorem own_wp {a : Addr} (h : Own H σ (wpM ms en) a) : Own H σ en a := by
  obtain ⟨j, b, d, p, e, s, r⟩ := h
  rcases wpM_get _ _ _ _ e with q | q
  · cases q
  · exact ⟨j, b, d, p, q, s, r⟩
theorem Good.wp (G : Good K B H σ en) : Good K B H σ (wpM ms en) := by
  have t : ∀ a o, H a = some o → ¬ Un B H σ en a → H a = some o ∧ ¬ Un B H σ (wpM ms en) a := fun a o x n => ⟨x, fun z => n (z.imp id own_wp)⟩
  exact {
    len := by rw [wpM_len]; exact G.len
    all := G.all
    rep := fun j d e => by
      rcases wpM_get _ _ _ _ e with q | q
      · cases q
      · obtain ⟨v, s, r⟩ := G.rep j d q
        exact ⟨v, s, Rep.to t d v r⟩
    own := fun j b d e => by
      rcases wpM_get _ _ _ _ e with q | q
      · cases q
      · obtain ⟨p, s, n1, c⟩ := G.own j b d q
        exact ⟨p, s, n1, Cont.to t (fun _ _ _ x => x) c⟩
    inj := fun j k q q' a b c d d' e1 e2 s1 s2 => by
      rcases wpM_get _ _ _ _ e1 with z | q1
      · cases z
      · rcases wpM_get _ _ _ _ e2 with z | q2
        · cases z
        · exact G.inj j k q q' a b c d d' q1 q2 s1 s2 }
theorem Stp.wp (s : Stp σ en H σ' e H') (h : frM ms e = true) : Stp σ en H σ' (wpM ms e) H' where
  len := by rw [wpM_len]; exact s.len
  fr := s.fr
  al := s.al
  ow := fun a h => s.ow a (own_wp h)
  of := fun a h => s.of a (by
    obtain ⟨j, d, p, e, q⟩ := h
    rcases wpM_get _ _ _ _ e with z | z
    · cases z
    · exact ⟨j, d, p, z, q⟩)
  pin := fun i d e1 => by
    obtain ⟨q, d', e2⟩ := s.pin i d e1
    exact ⟨q, d', wpM_keep _ _ _ _ h e2⟩
  pb := fun i d e1 => by
    rcases wpM_get _ _ _ _ e1 with z | z
    · cases z
    · exact s.pb i d z
  pr := fun i d d' p a e1 e2 q r => by
    rcases wpM_get _ _ _ _ e2 with z | z
    · cases z
    · exact s.pr i d d' p a e1 z q r
theorem endImp (m : RdS K W (endF ms f) D0 σ H) : RdS K W f D0 σ H := by
  obtain ⟨B, en, G, m⟩ := RdS.qs m
  refine ⟨B, en, G, ?_⟩
  unfold endF at m
  cases e : f en with
  | nx en1 =>
    rw [e] at m
    dsimp only at m
    cases h : frM ms en1 with
    | false => rw [h] at m; exact m.elim
    | true =>
      rw [h] at m
      exact fun σ' H' g' st => m σ' H' g'.wp (st.wp h)
  | bk en1 => rw [e] at m; exact m
  | ct en1 => rw [e] at m; exact m
  | rt r en1 => rw [e] at m; exact m
  | exc x en1 => rw [e] at m; exact m
  | bad => rw [e] at m; exact m
theorem bodImp (m : RdS K W (bodF ms f) D0 σ H) : RdS K W f D0 σ H := by
  obtain ⟨B, en, G, m⟩ := RdS.qs m
  refine ⟨B, en, G, ?_⟩
  unfold bodF at m
  cases e : f en with
  | nx en1 =>
    rw [e] at m
    dsimp only at m
    cases h : frM ms en1 with
    | false => rw [h] at m; exact m.elim
    | true =>
      rw [h] at m
      exact fun σ' H' g' st => m σ' H' g'.wp (st.wp h)
  | ct en1 =>
    rw [e] at m
    dsimp only at m
    cases h : frM ms en1 with
    | false => rw [h] at m; exact m.elim
    | true =>
      rw [h] at m
      exact fun σ' H' g' st => m σ' H' g'.wp (st.wp h)
  | bk en1 => rw [e] at m; exact m
  | rt r en1 => rw [e] at m; exact m
  | exc x en1 => rw [e] at m; exact m
  | bad => rw [e] at m; exact m
variable {X : Cx} {st : Stmt} {l : List Stmt}
theorem s_end (h : PS X st (RdS X.K W f)) : PS X st (RdS X.K W (endF ms f)) := ps_imp h fun D σ H m => endImp m
theorem s_bod (h : PSs X l (RdS X.K W f)) : PSs X l (RdS X.K W (bodF ms f)) := pss_imp h fun D σ H m => bodImp m
end
theorem frM_t {ms : List Bool} {s : Sl} {en : En} : frM (true :: ms) (s :: en) = (frS s && frM ms en) := rfl
theorem frM_f {ms : List Bool} {s : Sl} {en : En} : frM (false :: ms) (s :: en) = frM ms en := rfl
theorem frM_n {en : En} : frM [] en = true := by cases en <;> rfl
theorem wpM_t {ms : List Bool} {s : Sl} {en : En} : wpM (true :: ms) (s :: en) = .e :: wpM ms en := rfl
theorem wpM_f {ms : List Bool} {s : Sl} {en : En} : wpM (false :: ms) (s :: en) = s :: wpM ms en := rfl
theorem wpM_n {en : En} : wpM [] en = en := by cases en <;> rfl
def endK (ms : List Bool) (k : Fl → Prop) (o : Fl) (_ : Tg k := ⟨⟩) : Prop := match o with
  | .nx e => frM ms e = true ∧ k (.nx (wpM ms e))
  | .bad => False
  | o => k o
def bodK (ms : List Bool) (k : Fl → Prop) (o : Fl) (_ : Tg k := ⟨⟩) : Prop := match o with
  | .nx e => frM ms e = true ∧ k (.nx (wpM ms e))
  | .ct e => frM ms e = true ∧ k (.ct (wpM ms e))
  | .bad => False
  | o => k o
section
variable {ms : List Bool} {k : Fl → Prop} {e : En} {f : En → Fl} {r : R} {x : Ex}
theorem endK_nx : endK ms k (.nx e) = (frM ms e = true ∧ k (.nx (wpM ms e))) := rfl
theorem endK_rt : endK ms k (.rt r e) = k (.rt r e) := rfl
theorem endK_bk : endK ms k (.bk e) = k (.bk e) := rfl
theorem endK_ct : endK ms k (.ct e) = k (.ct e) := rfl
theorem endK_exc : endK ms k (.exc x e) = k (.exc x e) := rfl
theorem bodK_nx : bodK ms k (.nx e) = (frM ms e = true ∧ k (.nx (wpM ms e))) := rfl
theorem bodK_rt : bodK ms k (.rt r e) = k (.rt r e) := rfl
theorem bodK_bk : bodK ms k (.bk e) = k (.bk e) := rfl
theorem bodK_ct : bodK ms k (.ct e) = (frM ms e = true ∧ k (.ct (wpM ms e))) := rfl
theorem bodK_exc : bodK ms k (.exc x e) = k (.exc x e) := rfl
theorem os_end {en : En} : okS (endF ms f) en k = okS f en fun o => endK ms k o := by
  unfold okS endF
  cases f en with
  | nx e1 =>
    dsimp only [endK]
    cases h : frM ms e1 <;> simp
  | _ => rfl
theorem os_endFr {it : M (List D)} {g : D → M Unit} {en : En} : okS (endF ms (frF it g f)) en k = okS (frF it g f) en fun o => endK ms k o := os_end
theorem os_endWh {t : M Bool} {n : Nat} {en : En} : okS (endF ms (whF t f n)) en k = okS (whF t f n) en fun o => endK ms k o := os_end
theorem os_endA {i : Nat} {g : M R} {en : En} : okS (endF ms (asV i g)) en k = okS (asV i g) en fun o => endK ms k o := os_end
theorem os_endO {i : Nat} {g : M R} {en : En} : okS (endF ms (asO i g)) en k = okS (asO i g) en fun o => endK ms k o := os_end
theorem os_endG {gg : D → M Unit} {g : M R} {en : En} : okS (endF ms (asG gg g)) en k = okS (asG gg g) en fun o => endK ms k o := os_end
theorem os_endP {i j : Nat} {g : M (List R)} {en : En} : okS (endF ms (asP i j g)) en k = okS (asP i j g) en fun o => endK ms k o := os_end
theorem os_endD {g : M R} {en : En} : okS (endF ms (drF g)) en k = okS (drF g) en fun o => endK ms k o := os_end
theorem os_endS {i : Nat} {a b : M R} {u : D → D → D → Option D} {en : En} : okS (endF ms (stF i a b u)) en k = okS (stF i a b u) en fun o => endK ms k o := os_end
theorem os_endIf {t : M Bool} {g : En → Fl} {en : En} : okS (endF ms (ifS t f g)) en k = okS (ifS t f g) en fun o => endK ms k o := os_end
theorem os_bod {en : En} : okS (bodF ms f) en k = okS f en fun o => bodK ms k o := by
  unfold okS bodF
  cases f en with
  | nx e1 =>
    dsimp only [bodK]
    cases h : frM ms e1 <;> simp
  | ct e1 =>
    dsimp only [bodK]
    cases h : frM ms e1 <;> simp
  | _ => rfl
end
theorem e_strT {X : Cx} {W : WX} {s t : Str} {j} {pos : Pos} (h : s = t) : PE X (.Constant (.str s) j pos) (RdE X.K W (cF (.str t))) := h ▸ e_str
theorem e_gsT {X : Cx} {W : WX} {x s s' : Str} {pos : Pos} (h : s = s') (c : ∃ t, X.mg x = some (.str s t)) (hg : Gl X x) (hd : (x == ("__debug__" : Str)) = false := by decide) : PE X (.Name x pos) (RdE X.K W (cF (.str s'))) := h ▸ e_gs c hg hd
theorem is_nn {n : Bool} : isOp n [.non, .non] = some (false, .bl (true != n)) := rfl
theorem is_in {n : Bool} {i : Int} : isOp n [.int i, .non] = some (false, .bl (false != n)) := rfl
theorem is_sn {n : Bool} {i : Str} : isOp n [.str i, .non] = some (false, .bl (false != n)) := rfl
theorem is_tn {n : Bool} {i : List D} : isOp n [.tup i, .non] = some (false, .bl (false != n)) := rfl
theorem is_ln {n : Bool} {i : List D} : isOp n [.lst i, .non] = some (false, .bl (false != n)) := rfl
theorem is_bn {n : Bool} {i : Bool} : isOp n [.bl i, .non] = some (false, .bl (false != n)) := rfl
theorem ok_lcX (P : Nat → List D → En → Prop) {g : D → M Unit} {tt : M Bool} {te : M R} {vs : List Nat} {x : Ex → En → Prop} {k : List D → En → Prop} {ds : List D} {en : En} (h0 : P 0 [] en) (hn : ds.length ≤ 1000000)
    (hs : ∀ i d, ds[i]? = some d → ∀ acc en, acc.length ≤ i → P i acc en → okE (g d) en (fun _ en1 => okE tt en1 (fun b en2 => bi b (okE te en2 (fun r en3 => okL (stoD r) fun y => P (i + 1) (acc ++ [y]) (wipeE vs en3)) fun _ _ => False) (P (i + 1) acc (wipeE vs en2))) fun _ _ => False) fun _ _ => False)
    (hd : ∀ acc en, acc.length ≤ ds.length → P ds.length acc en → k acc en) : okE (lcL g tt te vs ds []) en k x := by
  refine ok_lcL (fun pre r acc en => P pre.length acc en ∧ pre ++ r = ds ∧ acc.length ≤ pre.length) ds [] [] en ⟨h0, rfl, Nat.le_refl _⟩ ?_ ?_
  · rintro pre d r acc en ⟨h, hl, ha⟩
    have hlen : pre.length < ds.length := by rw [← hl]; simp
    have hg : ds[pre.length]? = some d := by rw [← hl]; simp
    have l' : (pre ++ [d]).length = pre.length + 1 := by simp
    refine oe_mono (hs _ d hg acc en ha h) (fun _ e1 h1 => oe_mono h1 (fun b e2 h2 => ?_) fun _ _ z => z) fun _ _ z => z
    cases b with
    | false => rw [bi_false] at h2 ⊢; exact ⟨by rw [l']; exact h2, by rw [← hl]; simp, by simp; omega⟩
    | true =>
      rw [bi_true] at h2 ⊢
      refine oe_mono h2 (fun r3 e3 h3 => ?_) fun _ _ z => z
      revert h3
      cases stoD r3 with
      | none => exact id
      | some y =>
        intro h3
        exact ⟨by omega, by rw [l']; exact h3, by rw [← hl]; simp, by simp; omega⟩
  · rintro pre acc en ⟨h, hl, ha⟩
    have e : pre = ds := by rw [← hl]; simp
    subst e
    exact hd acc en ha h
end PyD

namespace PyD
open PySem PySem.Spec L2 PyProof.Rows
def pyK : Key → PyData
  | .inl i => .int i
  | .inr s => .str s
def sortK (ks : List Key) : List Key := ks.mergeSort (PySem.W.dataLe false pyK)
def rSortD : List V → Hp → VK → Prop := fun xs H Q => ∃ (a : Addr) (kvs : List (Key × V)), xs = [.ref a] ∧ Rd H a (.dK kvs) ∧ PySem.W.AllAlike ((kvs.map (·.1)).map pyK) ∧
  ∀ p, H p = none → Q (.ref p) (upd H p (.lst ((sortK (kvs.map (·.1))).map kV)))
theorem vals_each : ∀ {ks : List Key} {us : List Value}, Vals (ks.map kV) us → PySem.W.EachIs (fun (v : Value) (k : Key) => RelV (kV k) v) us ks
  | [], _, h => by cases h; exact .nil
  | k :: ks, _, h => by
    cases h with
    | cons r rs => exact .cons r (vals_each rs)
theorem each_valsK : ∀ {ks : List Key} {us : List Value}, PySem.W.EachIs (fun (v : Value) (k : Key) => RelV (kV k) v) us ks → Vals (ks.map kV) us
  | [], _, h => by cases h; exact .nil
  | k :: ks, _, h => by
    cases h with
    | cons r rs => exact .cons r (each_valsK rs)
theorem reads_key {h : Heap} {a : Addr} {k : Key} {v : Value} (r : RelV (kV k) v) : ∃ as, Reads h v (pyK k) as ∧ a ∉ as := by
  cases k with
  | inl i =>
    obtain ⟨t, rfl⟩ := r
    exact ⟨[], .int i t, by simp⟩
  | inr x =>
    obtain ⟨t, rfl⟩ := r
    exact ⟨[], .str x t, by simp⟩
theorem sortable_keys (ks : List Key) : PySem.W.Sortable (ks.map pyK) := by
  refine .inr fun d hd => ?_
  obtain ⟨k, _, rfl⟩ := List.mem_map.mp hd
  cases k with
  | inl i => exact ⟨fun z => by (cases z), fun _ z => by (cases z)⟩
  | inr i => exact ⟨fun z => by (cases z), fun _ z => by (cases z)⟩
theorem cr_sortedDK {X : Cx} (hcalm : X.calm = true) (hu : X.A.units + 64 < cLine) : CallR X (.builtin "sorted") rSortD := by
  intro pins s σ H xs us Q I r q
  obtain ⟨a, kvs, ex, hd, hal, q⟩ := q
  subst ex
  obtain ⟨u, eu, rx⟩ := vals1 r
  subst eu
  cases rx
  obtain ⟨z, lo, vs, rel, dd⟩ := dk_rd I.hok hd
  obtain ⟨ep, hat⟩ := dd.dictAt
  have hkeys : vs.map (·.1) = kvs.map (·.1) := rel.keys.symm
  have hl : vs.length = kvs.length := by
    have e := congrArg List.length hkeys
    rw [List.length_map, List.length_map] at e
    exact e
  have h16 : vs.length ≤ sizeLine := by rw [hl]; exact z
  refine Calls.call_function_entry PyProof.Rows.kind_sorted PyProof.Rows.plain_sorted PyProof.Rows.entry_sorted (PyProof.Rows.args_sorted1 _) ?_
  unfold Builtin.«sorted»
  refine wpAny_bind (m := checkCount "sorted" 1 1 _) (wpAny_pure ?_)
  refine wpAny_bind (PySem.W.kdu_collect (A := X.A.in1) (PySem.W.kdl_dict (knd := mixKind X.prog X.w) (kvs := vs) (ep := ep) lo) (I.ok.hd hcalm) hat h16 fun h' tk acc hk hacc => ?_)
  have hal2 : acc.toList.length = kvs.length := by rw [Array.length_toList, hacc.1, hl]
  have hvals : Vals ((kvs.map (·.1)).map kV) acc.toList := by
    have := keys_at (us := acc.toList) (vs := vs) (by rw [hal2, hl]) fun j v e => hacc.2 j v (by rw [← Array.getElem?_toList]; exact e)
    rw [← hkeys, List.map_map]
    exact this
  have I1 : Inv X pins σ H { s with heap := h', toks := tk } := I.kept hk
  refine wpAny_bind (wpAny_newList ?_ (by rw [hal2, ← hl]; exact h16))
  have hoL : (h'.push (seqObj "list" acc.toList.toArray 0)).get? h'.objs.size = some (seqObj "list" acc.toList.toArray 0) := Heap.get?_push_size _ rfl
  show wpAny _ _ _ _ _ { s with heap := h'.push (seqObj "list" acc.toList.toArray 0), toks := tk }
  have he := vals_each hvals
  refine wpAny_bind (wpAny_holding (PySem.W.list_sort_data (s := { s with heap := h'.push (seqObj "list" acc.toList.toArray 0), toks := tk }) (enc := pyK) hoL he (he.mono fun v k rv => reads_key rv) hal (sortable_keys _) (by rw [List.length_map]; rw [← hl]; exact h16) (fun k hk => ?_) fun out h1 h2 => ?_))
  · have : (pyK k).depth ≤ 1 := by cases k <;> simp [pyK, PyData.depth]
    have : X.A.in1.units ≤ X.A.units + 2 := by simp [Around.in1]
    have : X.A.in1.in1.units ≤ X.A.units + 2 := by simp [Around.in1]
    omega
  obtain ⟨e', he'⟩ := PyProof.Rows.sortedHeap_at (vs := acc.toList) (out := out.toArray) hoL
  have hlen : ((sortK (kvs.map (·.1))).map kV).length ≤ sizeLine := by
    rw [List.length_map, sortK, List.length_mergeSort, List.length_map, ← hl]
    exact h16
  refine wpAny_pure ⟨_, rfl, .ref h'.objs.size, upd H h'.objs.size (.lst ((sortK (kvs.map (·.1))).map kV)), I1.laid (t' := tk) (fun b u e => ?_) (Nat.le_refl _)
    (show ObjOk X.prog X.w _ _ _ (.lst ((sortK (kvs.map (·.1))).map kV)) from ⟨hlen, out, e', each_valsK h2, he'⟩), rfl, q _ (I1.hok.fresh (Nat.le_refl _))⟩
  have hb : b < h'.objs.size := Heap.lt_size e
  rw [PyProof.Rows.sortedHeap_old (Nat.ne_of_lt hb) (by rw [size_push']; exact Nat.lt_succ_of_lt hb)]
  exact Heap.get?_push_of_some _ e
def rSortT (K : PySem.W.Frag) : List V → Hp → VK → Prop := fun xs H Q => ∃ (a : Addr) (ns : List Int), xs = [.ref a] ∧ SqT K H a (ns.map V.int) ∧
  ∀ p, H p = none → Q (.ref p) (upd H p (.lst ((sortK (ns.map Sum.inl)).map kV)))
theorem alike_ints (ns : List Int) : PySem.W.AllAlike (((ns.map Sum.inl : List Key)).map pyK) := by
  intro d hd d' hd'
  obtain ⟨p, hp, rfl⟩ := List.mem_map.mp hd
  obtain ⟨p', hp', rfl⟩ := List.mem_map.mp hd'
  obtain ⟨q, _, rfl⟩ := List.mem_map.mp hp
  obtain ⟨q', _, rfl⟩ := List.mem_map.mp hp'
  rfl
theorem cr_sortedT {X : Cx} (hu : X.A.units + 64 < cLine) : CallR X (.builtin "sorted") (rSortT X.K) := by
  intro pins s σ H xs us Q I r q
  obtain ⟨a, ns, ex, hs, q⟩ := q
  subst ex
  obtain ⟨its, rv, ⟨o, ho, hcls, n, hdat⟩, hz⟩ := I.tuple hs
  rw [Vals.ref1 r]
  have hl : its.length = ns.length := by
    have e := rv.length
    rw [List.length_map] at e
    omega
  have h16 : its.length ≤ sizeLine := by
    rw [List.length_map] at hz
    omega
  refine Calls.call_function_entry PyProof.Rows.kind_sorted PyProof.Rows.plain_sorted PyProof.Rows.entry_sorted (PyProof.Rows.args_sorted1 _) ?_
  unfold Builtin.«sorted»
  refine wpAny_bind (m := checkCount "sorted" 1 1 _) (wpAny_pure ?_)
  refine wpAny_bind (wpAny_collect_seq (A := X.A.in1) a (.inr rfl) ho hcls hdat (fun h' hk => ?_) (hsz := by simpa using h16))
  have I1 : Inv X pins σ H { s with heap := h' } := I.kept hk
  show wpAny _ _ (newList its >>= _) _ _ _
  refine wpAny_bind (wpAny_newList ?_ h16)
  have hoL : (h'.push (seqObj "list" its.toArray 0)).get? h'.objs.size = some (seqObj "list" its.toArray 0) := Heap.get?_push_size _ rfl
  have hvals : Vals (((ns.map Sum.inl : List Key)).map kV) its := by
    rw [List.map_map]
    exact rv
  show wpAny _ _ _ _ _ { s with heap := h'.push (seqObj "list" its.toArray 0) }
  have he := vals_each hvals
  refine wpAny_bind (wpAny_holding (PySem.W.list_sort_data (s := { s with heap := h'.push (seqObj "list" its.toArray 0) }) (enc := pyK) hoL he (he.mono fun v k rv => reads_key rv) (alike_ints ns) (sortable_keys _) (by rw [List.length_map, ← hl]; exact h16) (fun k hk => ?_) fun out h1 h2 => ?_))
  · have : (pyK k).depth ≤ 1 := by cases k <;> simp [pyK, PyData.depth]
    have : X.A.in1.units ≤ X.A.units + 2 := by simp [Around.in1]
    have : X.A.in1.in1.units ≤ X.A.units + 2 := by simp [Around.in1]
    omega
  obtain ⟨e', he'⟩ := PyProof.Rows.sortedHeap_at (vs := its) (out := out.toArray) hoL
  have hlen : ((sortK (ns.map Sum.inl)).map kV).length ≤ sizeLine := by
    rw [List.length_map, sortK, List.length_mergeSort, List.length_map, ← hl]
    exact h16
  refine wpAny_pure ⟨_, rfl, .ref h'.objs.size, upd H h'.objs.size (.lst ((sortK (ns.map Sum.inl)).map kV)), I1.laid (t' := s.toks) (fun b u e => ?_) (Nat.le_refl _)
    (show ObjOk X.prog X.w _ _ _ (.lst ((sortK (ns.map Sum.inl)).map kV)) from ⟨hlen, out, e', each_valsK h2, he'⟩), rfl, q _ (I1.hok.fresh (Nat.le_refl _))⟩
  have hb : b < h'.objs.size := Heap.lt_size e
  rw [PyProof.Rows.sortedHeap_old (Nat.ne_of_lt hb) (by rw [size_push']; exact Nat.lt_succ_of_lt hb)]
  exact Heap.get?_push_of_some _ e
def dK : Key → D
  | .inl i => .int i
  | .inr s => .str s
def sortUD : List D → Option (Bool × D)
  | [.lst ds] => sortD [.lst ds]
  | [.dic kvs] => if PySem.W.AllAlike ((kvs.map (·.1)).map pyK) then some (true, .lst ((sortK (kvs.map (·.1))).map dK)) else none
  | [.tup ds] => (asInts ds).map fun ns => (true, .lst ((sortK (ns.map Sum.inl)).map dK))
  | _ => none
theorem dK_rep {K : PySem.W.Frag} {U : Addr → Prop} {H : Hp} (k : Key) : Rep K U H (dK k) (kV k) := by
  cases k with
  | inl i => exact repInt
  | inr s => exact repStr
theorem dKs_rep {K : PySem.W.Frag} {U : Addr → Prop} {H : Hp} : ∀ ks : List Key, RepL K U H (ks.map dK) (ks.map kV)
  | [] => RepL.nil
  | k :: ks => RepL.cons (dK_rep k) (dKs_rep ks)
theorem RepK.keq {K : PySem.W.Frag} {U : Addr → Prop} {H : Hp} : ∀ {ds : List (Key × D)} {vs : List (Key × V)}, RepK K U H ds vs → vs.map (·.1) = ds.map (·.1)
  | [], vs, r => by rw [r.nil_inv]; rfl
  | (k, d) :: ds, vs, r => by
    obtain ⟨v, s, rfl, h, r'⟩ := r.inv
    rw [List.map_cons, List.map_cons, RepK.keq r']
theorem prim_sortU {K : PySem.W.Frag} : Prim K (fun xs H Q => rSortA K xs H Q ∨ rSortD xs H Q ∨ rSortT K xs H Q) sortUD := by
  intro U H ds vs Q b d hU ar e post
  unfold sortUD at e
  split at e
  · exact .inl (prim_sort U H _ vs Q b d hU ar e post)
  · split at e
    · rename_i hal
      cases e
      obtain ⟨v, rfl, h1⟩ := ar1 ar
      obtain ⟨p, ws, rfl, hp, r⟩ := arDic h1
      rename_i kvs
      have hk := r.keq
      refine .inr (.inl ⟨p, ws, rfl, .inl hp, by rw [hk]; exact hal, fun q hq => ?_⟩)
      rw [hk]
      exact post _ _ (ext_new hq) (fun z => by cases z) fun _ => newLst hq (dKs_rep _)
    · cases e
  · rename_i ds
    obtain ⟨v, rfl, h1⟩ := ar1 ar
    obtain ⟨p, ws, rfl, _, hp, r⟩ := arTup h1
    cases q : asInts ds with
    | none => rw [q] at e; cases e
    | some ns =>
      rw [q] at e
      cases e
      rw [asInts_of q] at r
      rw [r.ints] at hp
      exact .inr (.inr ⟨p, ns, rfl, SqT.of hp, fun q hq => post _ _ (ext_new hq) (fun z => by cases z) fun _ => newLst hq (dKs_rep _)⟩)
  · cases e
theorem cr_sortedU {X : Cx} (hc : X.calm = true) (hu : X.A.units + 64 < cLine) : CallR X (.builtin "sorted") (fun xs H Q => rSortA X.K xs H Q ∨ rSortD xs H Q ∨ rSortT X.K xs H Q) := CallR.or (cr_sortedA hu) (CallR.or (cr_sortedDK hc hu) (cr_sortedT hu))
end PyD

namespace PyD
open PySem PySem.Spec L2 PyProof.Rows
section
variable {prog : Program} {w : World} {A : Around} {E : Value → Shared → Prop} {s : Shared} {l : Addr}
end
end PyD

namespace PyD
open PySem PySem.Spec L2 PyProof.Rows
theorem rev_idx (l : List Nat) : (Builtin.Str.strSliceIndices none none (-1) l.length).filterMap (l.toArray[·]?) = l.reverse := by
  have h1 : ¬ ((-1 : Int) > 0) := by decide
  have e : Builtin.Str.strSliceIndices none none (-1) l.length = (List.range l.length).map fun k => l.length - 1 - k := by
    unfold Builtin.Str.strSliceIndices sliceRange
    simp only [if_neg h1]
    have hc : (if ((l.length : Int) - 1) > -1 then (((l.length : Int) - 1) - -1 - -1 - 1) / (- -1) else 0).toNat = l.length := by
      by_cases hl : (l.length : Int) - 1 > -1
      · rw [if_pos hl]
        have : (((l.length : Int) - 1) - -1 - -1 - 1) / (- -1) = l.length := by
          show (((l.length : Int) - 1) - -1 - -1 - 1) / 1 = _
          rw [Int.ediv_one]
          omega
        rw [this]
        omega
      · rw [if_neg hl]
        have : l.length = 0 := by omega
        rw [this]
        rfl
    rw [hc]
    apply List.map_congr_left
    intro k hk
    have := List.mem_range.mp hk
    omega
  rw [e]
  apply List.ext_getElem?
  intro j
  have key : ∀ n, n ≤ l.length → ((List.range n).map fun k => l.length - 1 - k).filterMap (l.toArray[·]?) = l.reverse.take n := by
    intro n
    induction n with
    | zero => intro _; rfl
    | succ n ih =>
      intro hn
      rw [List.range_succ, List.map_append, List.filterMap_append, ih (by omega), List.take_succ]
      congr 1
      have h2 : l.toArray[l.length - 1 - n]? = l.reverse[n]? := by
        rw [List.getElem?_reverse (by omega)]
        simp
      show [l.length - 1 - n].filterMap (l.toArray[·]?) = _
      rw [List.filterMap_cons, h2]
      cases l.reverse[n]? <;> rfl
  rw [key l.length (Nat.le_refl _), List.take_of_length_le (by simp)]
def tRev (te : TE) (ts : TO) : TE := fun σ H Q => te σ H fun x H1 => ts σ H1 fun l H2 => ∃ z : Str, x = .str z ∧ l = some (-1) ∧ z.length ≤ sizeLine ∧ Q (.str ⟨z.cps.toList.reverse.toArray⟩) H2
theorem pe_rev {X : Cx} {te : TE} {ts : TO} {e st : Expr} {p2 pos : Pos} (he : PE X e te) (hst : PO X (some st) ts) : PE X (.Subscript e (.Slice none none (some st) p2) pos) (tRev te ts) := by
  refine ⟨fun pins s σ H Q I h => ?_⟩
  refine Subscript_ (thn (he.run pins s σ H _ I h) fun v s1 ⟨x, H1, I1, r1, q1⟩ => ?_)
  refine PySem.wpAny_Slice ?_
  rw [evalPart_none]
  refine wpAny_pure ?_
  refine wpAny_pure ?_
  refine thn (hst.run pins s1 σ H1 _ I1 q1) fun vt s2 ⟨l, H2, I2, pt, q2⟩ => ?_
  obtain ⟨z, rfl, rfl, hz, q⟩ := q2
  obtain ⟨t, rfl⟩ := r1
  obtain ⟨lt, rfl, hlt⟩ := IsPart.raw pt
  cases lt with
  | none => cases hlt
  | some lt =>
    obtain ⟨i, u⟩ := lt
    have hi : i = -1 := Option.some.inj hlt
    subst hi
    have I4 : Inv X pins σ H2 { s2 with heap := s2.heap.push { cls := .type "slice", data := .fields #[.none, .none, partValue (some (-1, u))] } } := I2.kept (t' := s2.toks) fun b ob q => Heap.get?_push_of_some _ q
    have hg : wpAny (model X.prog X.w) X.A (getItem (.str z t) (.ref s2.heap.objs.size)) (EP X pins σ Q) X.xe { s2 with heap := s2.heap.push { cls := .type "slice", data := .fields #[.none, .none, partValue (some (-1, u))] } } := by
      refine wpAny_getItem_str_slice (l := none) (u := none) (st := some (-1, u)) ⟨_, Heap.get?_push_size _ rfl, rfl, rfl⟩ rfl ?_
      have e : sliceMade z t none none (some (-1, u)) = Made.str ⟨z.cps.toList.reverse.toArray⟩ := by
        unfold sliceMade slicePicked
        show (if ((-1 : Int) == 1 && _) = true then _ else _) = _
        rw [if_neg (by simp)]
        have := rev_idx z.cps.toList
        rw [Array.length_toList] at this
        congr 3
      rw [e]
      exact ⟨by show (z.cps.toList.reverse.toArray).size ≤ _; rw [List.size_toArray, List.length_reverse, Array.length_toList]; exact hz, .str _, H2, I4.tok _, ⟨_, rfl⟩, q⟩
    show wpAny (model X.prog X.w) X.A (subscriptTail e (.Slice none none (some st) p2) (.str z t) (.ref s2.heap.objs.size)) (EP X pins σ Q) X.xe { s2 with heap := s2.heap.push { cls := .type "slice", data := .fields #[.none, .none, partValue (some (-1, u))] } }
    exact tail_any (ops := [.ref s2.heap.objs.size, .str z t]) (typeIs_str _ _ _) F.slot_str_getitem.lookup hg (by with_unfolding_all rfl)
def rRev : List V → Hp → VK → Prop := fun vs H Q => ∃ z : Str, vs = [.str z, .int (-1)] ∧ z.length ≤ sizeLine ∧ Q (.str ⟨z.cps.toList.reverse.toArray⟩) H
def revD : List D → Option (Bool × D)
  | [.str s, .int i] => if s.length ≤ sizeLine ∧ i = -1 then some (false, .str ⟨s.cps.toList.reverse.toArray⟩) else none
  | _ => none
theorem prim_rev {K : PySem.W.Frag} : Prim K rRev revD := by
  intro U H ds vs Q b d hU ar e post
  unfold revD at e
  split at e
  · split at e
    · rename_i h
      cases e
      obtain ⟨v, w, rfl, h1, h2⟩ := ar2 ar
      rw [arStr h1, arInt h2, h.2]
      exact ⟨_, rfl, h.1, post _ H (Ext.refl H) (fun _ => repStr) (fun z => by cases z)⟩
    · cases e
  · cases e
theorem e_rev {X : Cx} {W : WX} {e st : Expr} {f g : M R} {p2 pos : Pos} (he : PE X e (RdE X.K W f)) (hs : PE X st (RdE X.K W g)) : PE X (.Subscript e (.Slice none none (some st) p2) pos) (RdE X.K W (opF revD (two f g))) :=
  pe_imp (pe_rev he (po_some hs)) fun σ H Q m => by
    refine RdE.mono (fun v H1 h => ?_) (imp2 (opImp prim_rev m))
    refine RdE.mono (fun w H2 h => ?_) h
    obtain ⟨z, hz, h1, h2⟩ := h
    cases hz
    exact ⟨-1, rfl, z, rfl, rfl, h1, h2⟩
end PyD

section
set_option maxHeartbeats 4000000
namespace PyD
open PySem PySem.Spec L2 PyProof.Rows
theorem tuple_mul1 (l : Addr) (items : Array Value) (n : Nat) (dd : Option Addr) (sl : Array (Option Value)) (u : Tok) :
    Meets (Builtin.«tuple.__mul__» ⟨[.ref l, .int 1 u], []⟩) (fun _ R s => s.heap.get? l = some { cls := .type "tuple", dict := dd, data := .seq items n, slots := sl } ∧ R (.ok (.ret (Value.ref l))) s) :=
  .of_wp fun prog w A R s h => by
    obtain ⟨hp, g, d, tk, os⟩ := s
    obtain ⟨hl, h⟩ := h
    have f1 := AutoSeq1.idx_int
    have c1 : (items.isEmpty || (1 : Int) == 1) = true := by simp
    have c0 : (decide ((1 : Int) < -(2 ^ 63)) || decide ((1 : Int) ≥ 2 ^ 63)) = false := by decide
    wp_walk using wpAny_loadPart' hl
    repeat (first
      | (refine wpAny_ite_false (decide_eq_false (by rw [c0]; exact Bool.false_ne_true)) ?_; wp_walk using wpAny_loadPart' hl)
      | (refine wpAny_ite_true (decide_eq_true (by rw [c1])) ?_; wp_walk using wpAny_loadPart' hl))
    exact ⟨_, rfl, h⟩
def rRep1 (K : PySem.W.Frag) : R2 := fun x y H Q => ∃ l xs, x = .ref l ∧ y = .int 1 ∧ SqT K H l xs ∧ Q (.ref l) H
theorem op_repT1 {X : Cx} : OpR X (binaryOp .Mult) (rRep1 X.K) := by
  intro pins s σ H x y v u Q I rx ry h
  obtain ⟨l, xs, rfl, rfl, hT, q⟩ := h
  cases rx
  obtain ⟨t, rfl⟩ := ry
  obtain ⟨its, r, ⟨⟨cls, dd, data, sl⟩, ho, hc, n, hd⟩, hs⟩ := I.tuple hT
  simp only at hc hd
  subst hc hd
  refine wpAny_binaryOp_repeat_ref (T := "tuple") (U := "int") (by decide) ⟨_, ho, rfl⟩ (fun s' => typeIs_int s' 1 t) noFill_tuple_mul F.fills_int_mul F.slot_int_rmul repeat_tuple F.slot_int_index.lookup
    (call_meets F.slot_int_rmul (typeIs_int s 1 t) F.entry_int_rmul (F.args_int_rmul_2 _ _) (int_rmul_tuple 1 t l its.toArray n dd sl)
      ⟨ho, rfl, ⟨_, ho, rfl⟩, call_meets F.slot_tuple_mul ⟨_, ho, rfl⟩ F.entry_tuple_mul (F.args_tuple_mul_2 _ _) (tuple_mul1 l its.toArray n dd sl t) ⟨ho, ?_⟩⟩)
  exact ⟨.ref l, H, I, rfl, q⟩
def mulVD : List D → Option (Bool × D)
  | [.tup a, .int k] => if k = 1 then some (false, .tup a) else mulD [.tup a, .int k]
  | ds => mulD ds
def rMulV (K : PySem.W.Frag) : R2 := fun x y H Q => rMulU K x y H Q ∨ rRep1 K x y H Q
theorem op_mulV {X : Cx} : OpR X (binaryOp .Mult) (rMulV X.K) := OpR.or op_mulU op_repT1
theorem prim_mulV {K : PySem.W.Frag} : Prim K (r2 (rMulV K)) mulVD := by
  intro U H ds vs Q b d hU ar e post
  unfold mulVD at e
  split at e
  · split at e
    · rename_i hk
      cases e
      obtain ⟨v, w, rfl, h1, h2⟩ := ar2 ar
      have h1' := h1
      obtain ⟨p1, xs, rfl, n1, q1, r1⟩ := arTup h1
      rw [arInt h2, hk]
      exact ⟨_, _, rfl, .inr ⟨p1, xs, rfl, rfl, SqT.of q1, post _ H (Ext.refl H) (fun _ => h1') (fun z => by cases z)⟩⟩
    · obtain ⟨x, y, e1, q⟩ := prim_mul (K := K) U H _ vs Q b d hU ar e post
      exact ⟨x, y, e1, .inl q⟩
  · obtain ⟨x, y, e1, q⟩ := prim_mul (K := K) U H _ vs Q b d hU ar e post
    exact ⟨x, y, e1, .inl q⟩
theorem mulV_int {a b : Int} : mulVD [.int a, .int b] = if mulOk a b then some (false, .int (a * b)) else none := rfl
end PyD

end

section
set_option maxHeartbeats 4000000
namespace PyD
open PySem PySem.Spec L2
section
variable {K : PySem.W.Frag} {B : Addr → Prop} {H : Hp} {σ : L2.St} {en : En} {v : V}
end
end PyD

end

section
set_option maxHeartbeats 4000000
namespace PyD
open PySem PySem.Spec L2 PyProof.Rows
section
variable {P : Program} {w : World} {A : Around} {E : Value → Shared → Prop} {s : Shared}
end
end PyD

end

section
set_option maxHeartbeats 4000000
namespace PyD
open PySem PySem.Spec L2 PyProof.Rows
end PyD

end

namespace PyD
open PySem PySem.Spec L2 PyProof.Rows
theorem down_idx (n : Nat) : sliceRange ((n : Int) - 1) (-1) (-1) = (List.range n).map fun k => n - 1 - k := by
  have h1 : ¬ ((-1 : Int) > 0) := by decide
  unfold sliceRange
  simp only [if_neg h1]
  have hc : (if ((n : Int) - 1) > -1 then (((n : Int) - 1) - -1 - -1 - 1) / (- -1) else 0).toNat = n := by
    by_cases hl : (n : Int) - 1 > -1
    · rw [if_pos hl]
      have : (((n : Int) - 1) - -1 - -1 - 1) / (- -1) = n := by
        show (((n : Int) - 1) - -1 - -1 - 1) / 1 = _
        rw [Int.ediv_one]
        omega
      rw [this]
      omega
    · rw [if_neg hl]
      have : n = 0 := by omega
      rw [this]
      rfl
  rw [hc]
  apply List.map_congr_left
  intro k hk
  have := List.mem_range.mp hk
  omega
theorem down_pick (l : List Value) : slicePick l.toArray none none (some (-1)) = l.reverse.toArray := by
  unfold slicePick
  congr 1
  have e : sliceRange (sliceBounds none none (some (-1)) l.toArray.size).1 (sliceBounds none none (some (-1)) l.toArray.size).2.1 (sliceBounds none none (some (-1)) l.toArray.size).2.2 = (List.range l.length).map fun k => l.length - 1 - k := by
    rw [← down_idx]
    simp [sliceBounds]
  rw [e]
  have key : ∀ n, n ≤ l.length → ((List.range n).map fun k => l.length - 1 - k).filterMap (l.toArray[·]?) = l.reverse.take n := by
    intro n
    induction n with
    | zero => intro _; rfl
    | succ n ih =>
      intro hn
      rw [List.range_succ, List.map_append, List.filterMap_append, ih (by omega), List.take_succ]
      congr 1
      have h2 : l.toArray[l.length - 1 - n]? = l.reverse[n]? := by
        rw [List.getElem?_reverse (by omega)]
        simp
      show [l.length - 1 - n].filterMap (l.toArray[·]?) = _
      rw [List.filterMap_cons, h2]
      cases l.reverse[n]? <;> rfl
  rw [key l.length (Nat.le_refl _), List.take_of_length_le (by simp)]
theorem vals_rev : ∀ {xs : List V} {us : List Value}, Vals xs us → Vals xs.reverse us.reverse
  | _, _, .nil => .nil
  | _, _, .cons r rs => by
    rw [List.reverse_cons, List.reverse_cons]
    exact (vals_rev rs).append (.cons r .nil)
def tRevL (K : PySem.W.Frag) (te : TE) (ts : TO) : TE := fun σ H Q => te σ H fun x H1 => ts σ H1 fun l H2 => l = some (-1) ∧ ((∃ z : Str, x = .str z ∧ z.length ≤ sizeLine ∧ Q (.str ⟨z.cps.toList.reverse.toArray⟩) H2) ∨
  ∃ (a : Addr) (xs : List V), x = .ref a ∧ SqL K H2 a xs ∧ ∀ p, H2 p = none → Q (.ref p) (upd H2 p (.lst xs.reverse)))
theorem pe_revL {X : Cx} {te : TE} {ts : TO} {e st : Expr} {p2 pos : Pos} (he : PE X e te) (hst : PO X (some st) ts) : PE X (.Subscript e (.Slice none none (some st) p2) pos) (tRevL X.K te ts) := by
  refine ⟨fun pins s σ H Q I h => ?_⟩
  refine Subscript_ (thn (he.run pins s σ H _ I h) fun v s1 ⟨x, H1, I1, r1, q1⟩ => ?_)
  refine PySem.wpAny_Slice ?_
  rw [evalPart_none]
  refine wpAny_pure ?_
  refine wpAny_pure ?_
  refine thn (hst.run pins s1 σ H1 _ I1 q1) fun vt s2 ⟨l, H2, I2, pt, q2⟩ => ?_
  obtain ⟨rfl, q2⟩ := q2
  obtain ⟨lt, rfl, hlt⟩ := IsPart.raw pt
  cases lt with
  | none => cases hlt
  | some lt =>
    obtain ⟨i, u⟩ := lt
    have hi : i = -1 := Option.some.inj hlt
    subst hi
    have I4 : Inv X pins σ H2 { s2 with heap := s2.heap.push { cls := .type "slice", data := .fields #[.none, .none, partValue (some (-1, u))] } } := I2.kept (t' := s2.toks) fun b ob q => Heap.get?_push_of_some _ q
    rcases q2 with ⟨z, rfl, hz, q⟩ | ⟨a, xs, rfl, hs, q⟩
    · obtain ⟨t, rfl⟩ := r1
      have hg : wpAny (model X.prog X.w) X.A (getItem (.str z t) (.ref s2.heap.objs.size)) (EP X pins σ Q) X.xe { s2 with heap := s2.heap.push { cls := .type "slice", data := .fields #[.none, .none, partValue (some (-1, u))] } } := by
        refine wpAny_getItem_str_slice (l := none) (u := none) (st := some (-1, u)) ⟨_, Heap.get?_push_size _ rfl, rfl, rfl⟩ rfl ?_
        have e : sliceMade z t none none (some (-1, u)) = Made.str ⟨z.cps.toList.reverse.toArray⟩ := by
          unfold sliceMade slicePicked
          show (if ((-1 : Int) == 1 && _) = true then _ else _) = _
          rw [if_neg (by simp)]
          have := rev_idx z.cps.toList
          rw [Array.length_toList] at this
          congr 3
        rw [e]
        exact ⟨by show (z.cps.toList.reverse.toArray).size ≤ _; rw [List.size_toArray, List.length_reverse, Array.length_toList]; exact hz, .str _, H2, I4.tok _, ⟨_, rfl⟩, q⟩
      show wpAny (model X.prog X.w) X.A (subscriptTail e (.Slice none none (some st) p2) (.str z t) (.ref s2.heap.objs.size)) (EP X pins σ Q) X.xe { s2 with heap := s2.heap.push { cls := .type "slice", data := .fields #[.none, .none, partValue (some (-1, u))] } }
      exact tail_any (ops := [.ref s2.heap.objs.size, .str z t]) (typeIs_str _ _ _) F.slot_str_getitem.lookup hg (by with_unfolding_all rfl)
    · cases r1
      obtain ⟨its, r, ht, hz⟩ := I4.list hs
      have hlen := r.length
      have hg : wpAny (model X.prog X.w) X.A (getItem (.ref a) (.ref s2.heap.objs.size)) (EP X pins σ Q) X.xe { s2 with heap := s2.heap.push { cls := .type "slice", data := .fields #[.none, .none, partValue (some (-1, u))] } } := by
        refine wpAny_getItem_list_slice (vl := .none) (vu := .none) (vs := partValue (some (-1, u))) (lo := none) (hi := none) (st := some (-1)) ht.isList ⟨_, Heap.get?_push_size _ rfl, rfl, rfl⟩ .none .none pt (by decide) ?_ (by rw [List.size_toArray]; omega)
        rw [down_pick]
        refine ⟨.ref (s2.heap.push { cls := .type "slice", data := .fields #[.none, .none, partValue (some (-1, u))] }).objs.size, _, I4.laid (t' := s2.toks) (o := .lst xs.reverse) (fun b ob q => Heap.get?_push_of_some _ q) (Nat.le_refl _) ?_, rfl, q _ (I4.hok.fresh (Nat.le_refl _))⟩
        exact ⟨by rw [List.length_reverse]; exact hz, its.reverse, 0, vals_rev r, Heap.get?_push_size _ rfl⟩
      show wpAny (model X.prog X.w) X.A (subscriptTail e (.Slice none none (some st) p2) (.ref a) (.ref s2.heap.objs.size)) (EP X pins σ Q) X.xe { s2 with heap := s2.heap.push { cls := .type "slice", data := .fields #[.none, .none, partValue (some (-1, u))] } }
      exact tail_any (ops := [.ref a, .ref s2.heap.objs.size]) ht.isList.typeIs slot_list_getitem.lookup hg (by with_unfolding_all rfl)
def rRevL (K : PySem.W.Frag) : List V → Hp → VK → Prop := fun vs H Q => (∃ z : Str, vs = [.str z, .int (-1)] ∧ z.length ≤ sizeLine ∧ Q (.str ⟨z.cps.toList.reverse.toArray⟩) H) ∨
  ∃ (a : Addr) (xs : List V), vs = [.ref a, .int (-1)] ∧ SqL K H a xs ∧ ∀ p, H p = none → Q (.ref p) (upd H p (.lst xs.reverse))
def revLD : List D → Option (Bool × D)
  | [.str s, .int i] => if s.length ≤ sizeLine ∧ i = -1 then some (false, .str ⟨s.cps.toList.reverse.toArray⟩) else none
  | [.lst ds, .int i] => if i = -1 then some (true, .lst ds.reverse) else none
  | _ => none
theorem repL_rev {K : PySem.W.Frag} {U : Addr → Prop} {H : Hp} : ∀ {ds : List D} {vs : List V}, RepL K U H ds vs → RepL K U H ds.reverse vs.reverse
  | [], vs, h => by
    rw [h.nil_inv]
    exact RepL.nil
  | d :: ds, vs, h => by
    obtain ⟨v, r, rfl, h1, h2⟩ := h.inv
    rw [List.reverse_cons, List.reverse_cons]
    exact RepL.app (repL_rev h2) (RepL.cons h1 RepL.nil)
theorem prim_revL {K : PySem.W.Frag} : Prim K (rRevL K) revLD := by
  intro U H ds vs Q b d hU ar e post
  unfold revLD at e
  split at e
  · split at e
    · rename_i h
      cases e
      obtain ⟨v, w, rfl, h1, h2⟩ := ar2 ar
      rw [arStr h1, arInt h2, h.2]
      exact .inl ⟨_, rfl, h.1, post _ H (Ext.refl H) (fun _ => repStr) (fun z => by cases z)⟩
    · cases e
  · split at e
    · rename_i h
      cases e
      obtain ⟨v, w, rfl, h1, h2⟩ := ar2 ar
      obtain ⟨p, ys, rfl, hp, r⟩ := arLst h1
      rw [arInt h2, h]
      exact .inr ⟨p, ys, rfl, SqL.of hp, fun q hq => post _ _ (ext_new hq) (fun z => by cases z) (fun _ => newLst hq (repL_rev r))⟩
    · cases e
  · cases e
theorem e_revL {X : Cx} {W : WX} {e st : Expr} {f g : M R} {p2 pos : Pos} (he : PE X e (RdE X.K W f)) (hs : PE X st (RdE X.K W g)) : PE X (.Subscript e (.Slice none none (some st) p2) pos) (RdE X.K W (opF revLD (two f g))) :=
  pe_imp (pe_revL he (po_some hs)) fun σ H Q m => by
    refine RdE.mono (fun v H1 h => ?_) (imp2 (opImp prim_revL m))
    refine RdE.mono (fun w H2 h => ?_) h
    rcases h with ⟨z, hz, h1, h2⟩ | ⟨a, xs, hz, h1, h2⟩
    · cases hz
      exact ⟨-1, rfl, rfl, .inl ⟨z, rfl, h1, h2⟩⟩
    · cases hz
      exact ⟨-1, rfl, rfl, .inr ⟨a, xs, rfl, h1, h2⟩⟩
theorem revL_tx {l : List Nat} (h : l.length ≤ 16777216) : revLD [.str (tx l), .int (-1)] = some (false, .str (tx l.reverse)) := by
  show (if (tx l).length ≤ 16777216 ∧ (-1 : Int) = -1 then _ else _) = _
  rw [if_pos ⟨by rw [tx_len]; exact h, rfl⟩]
  simp [tx]
end PyD

section
set_option maxHeartbeats 4000000
namespace PySem
open Sem (wp)
open AutoSeq1 (wpAny_loadPart')
end PySem
namespace PyD
open PySem PySem.Spec L2 PyProof.Rows
end PyD

end

namespace PyD
open PySem PySem.Spec L2 PyProof.Rows
end PyD

section
set_option maxHeartbeats 4000000
namespace PyD
open PySem PySem.Spec L2 PyProof.Rows
end PyD

end

namespace PyD
open PySem PySem.Spec L2 PyProof.Rows
end PyD

section
set_option maxHeartbeats 4000000
namespace PyD
open PySem PySem.Spec L2 PyProof.Rows
def cps (kvs : List (Str × Str)) : List (TE × TE) := kvs.map fun p => (tC (.str p.1), tC (.str p.2))
end PyD

end

section
set_option maxHeartbeats 4000000
namespace PyD
open PySem PySem.Spec L2 PyProof.Rows
section
variable {P : Program} {w : World} {A : Around} {E : Value → Shared → Prop} {s : Shared}
end
end PyD

end

section
set_option maxHeartbeats 1000000
namespace PyD
open PySem PySem.Spec L2 PyProof.Rows
section
variable {P : Program} {w : World} {A : Around} {E : Value → Shared → Prop} {s : Shared}
end
end PyD

end

section
set_option maxHeartbeats 4000000
namespace PyD
open PySem PySem.Spec L2 PyProof.Rows
mutual
def pyOf : D → Option PyData
  | .non => some .none
  | .bl b => some (.bool b)
  | .int i => some (.int i)
  | .str s => some (.str s)
  | .tup ds => (pyOfL ds).map .tuple
  | .lst ds => (pyOfL ds).map .list
  | .dic _ => none
  | .obj _ _ => none
  | .scr _ => none
  | .exn _ _ => none
  | .ow _ => none
def pyOfL : List D → Option (List PyData)
  | [] => some []
  | d :: r => (pyOf d).bind fun a => (pyOfL r).map fun b => a :: b
end
mutual
theorem pyOf_nd : ∀ (d : D) (p : PyData), pyOf d = some p → p.hasDict = false
  | .non, p, h => by cases h; simp only [PyData.hasDict]
  | .bl _, p, h => by cases h; simp only [PyData.hasDict]
  | .int _, p, h => by cases h; simp only [PyData.hasDict]
  | .str _, p, h => by cases h; simp only [PyData.hasDict]
  | .tup ds, p, h => by
    unfold pyOf at h
    obtain ⟨ps, e, rfl⟩ := Option.map_eq_some_iff.mp h
    simp only [PyData.hasDict]
    exact pyOfL_nd ds ps e
  | .lst ds, p, h => by
    unfold pyOf at h
    obtain ⟨ps, e, rfl⟩ := Option.map_eq_some_iff.mp h
    simp only [PyData.hasDict]
    exact pyOfL_nd ds ps e
  | .dic _, p, h => by cases h
  | .obj _ _, p, h => by cases h
  | .scr _, p, h => by cases h
  | .exn _ _, p, h => by cases h
  | .ow _, p, h => by cases h
theorem pyOfL_nd : ∀ (ds : List D) (ps : List PyData), pyOfL ds = some ps → PyData.hasDictAll ps = false
  | [], ps, h => by cases h; simp only [PyData.hasDictAll]
  | d :: r, ps, h => by
    unfold pyOfL at h
    obtain ⟨a, e1, h⟩ := Option.bind_eq_some_iff.mp h
    obtain ⟨b, e2, rfl⟩ := Option.map_eq_some_iff.mp h
    simp only [PyData.hasDictAll, pyOf_nd d a e1, pyOfL_nd r b e2, Bool.or_self]
end
section
variable {X : Cx} {pins : List (Addr × Obj)} {σ : L2.St} {H : Hp} {s : Shared} {U : Addr → Prop}
mutual
theorem reads_of (I : Inv X pins σ H s) : ∀ (d : D) (v : V) (p : PyData) (u : Value), pyOf d = some p → Rep X.K U H d v → RelV v u → ∃ as, Reads s.heap u p as
  | .non, v, p, u, h, r, q => by
    cases h
    unfold Rep at r
    subst r
    obtain rfl : u = .none := q
    exact ⟨_, .none⟩
  | .bl b, v, p, u, h, r, q => by
    cases h
    unfold Rep at r
    subst r
    obtain rfl : u = .bool b := q
    exact ⟨_, .bool b⟩
  | .int i, v, p, u, h, r, q => by
    cases h
    unfold Rep at r
    subst r
    obtain ⟨t, rfl⟩ := q
    exact ⟨_, .int i t⟩
  | .str x, v, p, u, h, r, q => by
    cases h
    unfold Rep at r
    subst r
    obtain ⟨t, rfl⟩ := q
    exact ⟨_, .str x t⟩
  | .tup ds, v, p, u, h, r, q => by
    unfold pyOf at h
    obtain ⟨ps, e, rfl⟩ := Option.map_eq_some_iff.mp h
    unfold Rep at r
    obtain ⟨a, vs, rfl, _, ha, rl⟩ := r
    obtain rfl : u = .ref a := q
    obtain ⟨its, rv, ⟨o, ho, hcls, n, hdat⟩, hz⟩ := I.tuple (SqT.of ha)
    obtain ⟨as, rs⟩ := reads_ofL I ds vs ps its e rl rv
    exact ⟨_, .tuple ho hcls hdat rs⟩
  | .lst ds, v, p, u, h, r, q => by
    unfold pyOf at h
    obtain ⟨ps, e, rfl⟩ := Option.map_eq_some_iff.mp h
    unfold Rep at r
    obtain ⟨a, vs, rfl, _, ha, rl⟩ := r
    obtain rfl : u = .ref a := q
    obtain ⟨its, rv, pl, hz⟩ := I.list (SqL.of ha)
    obtain ⟨o, ho, hcls, n, hdat⟩ := pl.isList
    obtain ⟨as, rs⟩ := reads_ofL I ds vs ps its e rl rv
    exact ⟨_, .list ho hcls hdat rs⟩
  | .dic _, _, _, _, h, _, _ => by cases h
  | .obj _ _, _, _, _, h, _, _ => by cases h
  | .scr _, _, _, _, h, _, _ => by cases h
  | .exn _ _, _, _, _, h, _, _ => by cases h
  | .ow _, _, _, _, h, _, _ => by cases h
theorem reads_ofL (I : Inv X pins σ H s) : ∀ (ds : List D) (vs : List V) (ps : List PyData) (us : List Value), pyOfL ds = some ps → RepL X.K U H ds vs → Vals vs us → ∃ as, ReadsAll s.heap us ps as
  | [], vs, ps, us, h, r, q => by
    cases h
    rw [r.nil_inv] at q
    cases q
    exact ⟨_, .nil⟩
  | d :: ds, vs, ps, us, h, r, q => by
    unfold pyOfL at h
    obtain ⟨a, e1, h⟩ := Option.bind_eq_some_iff.mp h
    obtain ⟨b, e2, rfl⟩ := Option.map_eq_some_iff.mp h
    obtain ⟨v, vs', rfl, r1, r2⟩ := r.inv
    cases q with
    | cons q1 q2 =>
      obtain ⟨as, k1⟩ := reads_of I d v a _ e1 r1 q1
      obtain ⟨bs, k2⟩ := reads_ofL I ds vs' b _ e2 r2 q2
      exact ⟨_, .cons k1 k2⟩
end
end
end PyD

end

section
set_option maxHeartbeats 4000000
namespace PyD
open PySem PySem.Spec L2 PyProof.Rows
structure RoomG (k : Nat) (A : Around) : Prop extends Room k A where
  gd : A.guards = some []
theorem RoomG.mono {j k : Nat} {A : Around} (r : RoomG k A) (h : j ≤ k) : RoomG j A := ⟨r.toRoom.mono h, r.gd⟩
theorem RoomG.deeper {k : Nat} {A : Around} (r : RoomG (k + 1) A) (env : Env) : RoomG k (A.deeper env) := ⟨r.toRoom.deeper env, r.gd⟩
structure FnG (P : Program) (w : World) (K : PySem.W.Frag) (mg : Str → Option Value) (base : Heap) (k : Nat) (f : Addr) (fd : FuncData) (ps : List Str) (sp : Sp) : Prop where
  many : ∀ vs H Q E, sp vs H Q E → vs.length = ps.length
  goes : ∀ (A : Around) (os : List Env) (s : Shared) (H : Hp) (ar : Args) (us : List Value) (vs : List V) (Q : VK) (E : XK), RoomG k A → Env0 P w K mg base A os s H →
    BindsTo s fd ar (ps.zip us) → Vals vs us → sp vs H Q E → codeAny (model P w) A (.call (.ref f) ar) (CR (L2.CX P w) os P w H s Q E) s
section
variable {P : Program} {w : World} {K : PySem.W.Frag} {mg : Str → Option Value} {base : Heap}
theorem FnG.mono {j k : Nat} {f : Addr} {fd : FuncData} {ps : List Str} {sp : Sp} (F : FnG P w K mg base j f fd ps sp) (h : j ≤ k) : FnG P w K mg base k f fd ps sp :=
  ⟨F.many, fun A os s H ar us vs Q E hr => F.goes A os s H ar us vs Q E (hr.mono h)⟩
theorem fnG {x qual : Str} {st : Stmt} {f : Addr} {fd : FuncData} {N ps : List Str} {k : Nat} {sp : Sp} (F : Fun K x qual st f fd) (S : FnScope N ps (defScope st)) (many : ∀ vs H Q E, sp vs H Q E → vs.length = ps.length)
    (body : ∀ (cdv : Value) (A : Around) (os : List Env) (s : Shared) (H : Hp) (vs : List V) (Q : VK) (E : XK), RoomG k (A.deeper (envOfC qual (defScope st) s.heap.objs.size f cdv)) → sp vs H Q E →
      ∃ t, PSs (cxOf (L2.CX P w) P w K mg base N qual (defScope st) f cdv A os s H E) (defBody st) t ∧ t { nx := fun _ H' => Q .non H', rt := Q } (start N vs) H) : FnG P w K mg base (k + 1) f fd ps sp := by
  obtain ⟨oc, od, kV, doc, pm, an, cdv, ct, osl, rfl, lk, hcd⟩ := F.ex
  refine ⟨many, fun A os s H ar us vs Q E room e0 bs rv hq => ?_⟩
  have lenV := many _ _ _ _ hq
  have inK : K.In s.heap := e0.mod.kin.keeps fun b o e => (e0.bs b o e).1
  have noL : s.heap.NoLimit := e0.mod.nolimit.keeps fun b o e => (e0.bs b o e).1
  refine codeAny_call_function room.depth (inK _ _ lk) rfl S.co S.gen rfl (PySem.W.codeRec_of inK hcd) (bs _ _ _ _ (wpAny_newFunctionEnv_cells S.kind ?_ ?_))
  · intro ⟨n, v⟩ hy
    have q := S.par n (List.of_mem_zip hy).1
    exact q.imp id fun q => ⟨q, PySem.W.cellsFrom_some _ _ _ (.inl q)⟩
  · intro env he s1 x
    subst he
    obtain ⟨t, ht, h⟩ := body cdv A os s H vs Q E (room.deeper _) hq
    have J0 : Inv (cxOf (L2.CX P w) P w K mg base N qual (defScope st) f cdv A os s H E) [] (start N vs) H s1 := inv_start S room.hd e0 lenV rv x
    refine ⟨noL.keeps x.toInCall.keep, codeAny_func (wpAny_mono (ht.run [] s1 (start N vs) H _ J0 h) ?_ fun e s' hs => hs)⟩
    intro fl s' hs
    cases fl with
    | brk => obtain ⟨_, _, _, no⟩ := hs; exact no.elim
    | cont => obtain ⟨_, _, _, no⟩ := hs; exact no.elim
    | next => obtain ⟨σ', H', J, q⟩ := hs; exact ⟨V.non, H', J.os, J.bare, J.base, J.hok, rfl, q⟩
    | ret u => obtain ⟨v, σ', H', J, r, q⟩ := hs; exact ⟨v, H', J.os, J.bare, J.base, J.hok, r, q⟩
theorem ok_defG {x qual : Str} {st : Stmt} {f : Addr} {fd : FuncData} {N ps : List Str} {lev k : Nat} {io : List Bool} {b : En → Fl} (F : Fun K x qual st f fd) (S : FnScope N ps (defScope st)) (hps : io.length = ps.length) (hN : N.length = ps.length + k)
    (hb : ∀ (cdv : Value) (A : Around) (outer : List Env) (s : Shared) (H : Hp) (E : XK), RoomG lev (A.deeper (PyProof.Rows.envOfC qual (defScope st) s.heap.objs.size f cdv)) → PSs (cxOf (L2.CX P w) P w K mg base N qual (defScope st) f cdv A outer s H E) (defBody st) (RdS K (fun cls d _ H => E cls d H) b)) :
    FnG P w K mg base (lev + 1) f fd ps (spD K io (runF io k b)) := by
  refine fnG F S (fun vs H Q E ⟨B, ds, h1, h2, _⟩ => h2.trans hps) fun cdv A outer s H vs Q E hr h => ⟨_, hb cdv A outer s H E hr, ?_⟩
  obtain ⟨B, ds, h1, h2, G, m⟩ := h
  have hst : L2.start N vs = vs.map some ++ List.replicate k none := by
    unfold L2.start
    rw [hN, h2, hps, Nat.add_sub_cancel_left]
  rw [hst]
  refine ⟨B, _, G.app k, ?_⟩
  unfold runF at m
  cases e : b (mkE io ds ++ List.replicate k .e) with
  | nx en' =>
    rw [e] at m
    intro σ' H' g s
    obtain ⟨b1, g1, s1, un⟩ := back_to h1 h2 G g (Bx.refl B _ _ H) s
    exact m .non H' ⟨B, b1, g1, fun _ => (by unfold Rep; rfl), fun z => (by cases z)⟩ s1
  | bk en' => rw [e] at m; exact m.elim
  | ct en' => rw [e] at m; exact m.elim
  | rt r en' =>
    rw [e] at m
    intro v σ' H' ⟨B', bx, g, ra, n⟩ s
    obtain ⟨b1, g1, s1, un⟩ := back_to h1 h2 G g bx s
    cases r with
    | sh d => exact m v H' ⟨B', b1, g1, fun _ => Rep.to (fun a o x n => ⟨x, fun z => n (un a z)⟩) _ _ ra, fun z => (by cases z)⟩ s1
    | fr d =>
      obtain ⟨p, e1, bp, c⟩ := ra
      refine m v H' ⟨B', b1, g1, fun z => (by cases z), fun _ => ⟨p, e1, fun a r => ⟨?_, bp a r⟩, Cont.to (fun a o x n => ⟨x, fun z => n (un a z)⟩) (fun _ _ _ x => x) c⟩⟩ s1
      rcases n p a e1 r with q | q
      · exact q
      · obtain ⟨i, d', p2, e2, s2, _⟩ := q
        rcases app_get e2 with e2 | e2
        · obtain ⟨b2, d2, _, _, h4⟩ := mkE_get e2
          obtain ⟨_, z2, _⟩ := slIn_o h4.symm
          cases z2
        · cases e2
    | sl i => exact m.elim
  | exc x en' =>
    rw [e] at m
    intro c od σ' H' ex g s
    obtain ⟨b1, g1, s1, un⟩ := back_to h1 h2 G g (Bx.refl B _ _ H) s
    exact m c od H' (ex.mono un) g1 s1
  | bad => rw [e] at m; exact m.elim
end
section
variable {X : Cx} {k : Nat} {f : Addr} {fd : FuncData} {ps : List Str} {sp : Sp} {E : L2.St → XK} {x : Str} {p pos : Pos} {e : Expr} {es : List Expr} {t : TA}
end
section
variable {X : Cx} {W : WX} {io : List Bool} {φ : List D → Out} {fs : M (List R)}
def DefAtG (P : Program) (w : World) (K : PySem.W.Frag) (mg : Str → Option Value) (base : Heap) (x : Str) (lev : Nat) (ps : List Str) (io : List Bool) (φ : List D → Out) : Prop :=
  ∃ (f : Addr) (fd : FuncData), FnG P w K mg base lev f fd ps (spD K io φ) ∧ mg x = some (.ref f) ∧ PySem.W.keepIn K (.ref f) = true ∧ Binds K fd ps []
end
section
variable {P : Program} {w : World} {K : PySem.W.Frag} {mg : Str → Option Value} {base : Heap}
theorem DefAtG.mk {x : Str} {st : Stmt} {f : Addr} {fd : FuncData} {N ps : List Str} {lev k : Nat} {io : List Bool} {b : En → Fl} {φ : List D → Out} (F : Fun K x x st f fd) (hm : mg x = some (.ref f)) (bd : Binds K fd ps []) (S : FnScope N ps (defScope st)) (hps : io.length = ps.length) (hN : N.length = ps.length + k)
    (hb : ∀ (cdv : Value) (A : Around) (outer : List Env) (s : Shared) (H : Hp) (E : XK), RoomG lev (A.deeper (PyProof.Rows.envOfC x (defScope st) s.heap.objs.size f cdv)) → PSs (cxOf (L2.CX P w) P w K mg base N x (defScope st) f cdv A outer s H E) (defBody st) (RdS K (fun cls d _ H => E cls d H) b)) (e : φ = runF io k b) :
    DefAtG P w K mg base x (lev + 1) ps io φ := by
  subst e
  exact ⟨f, fd, ok_defG F S hps hN hb, hm, F.kp, bd⟩
theorem DefAtG.bad {x : Str} {st : Stmt} {f : Addr} {fd : FuncData} {ps : List Str} {io : List Bool} {k : Nat} (F : Fun K x x st f fd) (hm : mg x = some (.ref f)) (bd : Binds K fd ps []) : DefAtG P w K mg base x k ps io fun _ => .bad := by
  have no : ∀ vs H Q E, spD K io (fun _ => Out.bad) vs H Q E → False := fun vs H Q E h => by
    obtain ⟨_, _, _, _, _, h⟩ := h
    exact h
  exact ⟨f, fd, ⟨fun vs H Q E h => (no vs H Q E h).elim, fun A outer s H args us vs Q E hr he hb hv h => (no vs H Q E h).elim⟩, hm, F.kp, bd⟩
end
section
variable {P : Program} {w : World} {K : PySem.W.Frag} {mg mb : Str → Option Value} {k : Nat} {fa a : Addr} {fd : FuncData} {x : Str} {sp : Sp} {s₁ : Shared} {xs : List Value} {ns : List Int}
end
end PyD

end

section
set_option maxHeartbeats 4000000
namespace PyD
open PySem PySem.Spec L2 PyProof.Rows
def sgV (x : Str) : List V := x.cps.toList.map fun c => V.str ⟨#[c]⟩
theorem sg_vals {x : Str} {acc : Array Value} (h : ItemsOf (SignAt x) acc x.cps.size) : Vals (sgV x) acc.toList := by
  obtain ⟨hs, hi⟩ := h
  have key : ∀ n (us : List Value) (cs : List Nat), us.length = n → cs.length = n → (∀ i (h : i < n) (h2 : i < us.length) (h3 : i < cs.length), ∃ t, us[i] = Value.str ⟨#[cs[i]]⟩ t) → Vals (cs.map fun c => V.str ⟨#[c]⟩) us := by
    intro n
    induction n with
    | zero =>
      intro us cs h1 h2 _
      obtain rfl := List.length_eq_zero_iff.mp h1
      obtain rfl := List.length_eq_zero_iff.mp h2
      exact .nil
    | succ n ih =>
      intro us cs h1 h2 h3
      cases us with
      | nil => simp at h1
      | cons u us =>
        cases cs with
        | nil => simp at h2
        | cons c cs =>
          refine .cons (h3 0 (by omega) (by simp) (by simp)) (ih us cs (by simpa using h1) (by simpa using h2) fun i a b d => ?_)
          have := h3 (i + 1) (by omega) (by simp; omega) (by simp; omega)
          simpa using this
  refine key x.cps.size acc.toList x.cps.toList (by simpa using hs) (by simp) fun i h h2 h3 => ?_
  obtain ⟨c, t, e1, e2⟩ := hi i acc.toList[i] (by rw [← Array.getElem?_toList, List.getElem?_eq_getElem h2])
  refine ⟨t, ?_⟩
  have : x.cps.toList[i] = c := by
    rw [← Array.getElem?_toList, List.getElem?_eq_getElem h3] at e1
    exact Option.some.inj e1
  rw [this]
  exact e2
def rListS : List V → Hp → VK → Prop := fun xs H Q => ∃ x : Str, xs = [.str x] ∧ x.cps.size ≤ 16777216 ∧ ∀ l, H l = none → Q (.ref l) (upd H l (.lst (sgV x)))
theorem cr_listS {X : Cx} (hc : X.calm = true) : CallR X (.type "list") rListS := by
  intro pins s σ H xs us Q I r h
  obtain ⟨x, rfl, hx, q⟩ := h
  obtain ⟨u, rfl, ru⟩ : ∃ u, us = [u] ∧ RelV (V.str x) u := by cases r with | cons a b => cases b; exact ⟨_, rfl, a⟩
  obtain ⟨t, rfl⟩ := ru
  refine call_list_str (I.ok.hd hc) x t (fun h' tk acc' c' hk hS hacc => ?_) hx
  refine ⟨.ref s.heap.objs.size, upd H s.heap.objs.size (.lst (sgV x)), I.laid (t' := tk) hk (Nat.le_refl _) ?_, rfl, q _ (I.hok.fresh (Nat.le_refl _))⟩
  exact ⟨by unfold sgV; rw [List.length_map]; exact hx, acc'.toList, c', sg_vals hacc, by simpa using hS⟩
def listSD : List D → Option (Bool × D)
  | [.str x] => if x.cps.size ≤ 16777216 then some (true, .lst (x.cps.toList.map fun c => D.str ⟨#[c]⟩)) else none
  | _ => none
theorem sgV_rep {K : PySem.W.Frag} {U : Addr → Prop} {H : Hp} : ∀ l : List Nat, RepL K U H (l.map fun c => D.str ⟨#[c]⟩) (l.map fun c => V.str ⟨#[c]⟩)
  | [] => RepL.nil
  | _ :: r => RepL.cons repStr (sgV_rep r)
theorem prim_listS {K : PySem.W.Frag} : Prim K rListS listSD := by
  intro U H ds vs Q b d hU ar e post
  unfold listSD at e
  split at e
  · split at e
    · rename_i h
      cases e
      obtain ⟨v, rfl, h1⟩ := ar1 ar
      rw [arStr h1]
      exact ⟨_, rfl, h, fun q hq => post _ _ (ext_new hq) (fun z => by cases z) fun _ => newLst hq (sgV_rep _)⟩
    · cases e
  · cases e
theorem listS_tx {l : List Nat} (h : l.length ≤ 16777216) : listSD [.str (tx l)] = some (true, .lst (l.map fun c => D.str (tx [c]))) := by
  show (if (tx l).cps.size ≤ 16777216 then _ else _) = _
  rw [if_pos (by simpa [tx] using h)]
  simp [tx]
end PyD

end

section
set_option maxHeartbeats 4000000
namespace PyD
open PySem PySem.Spec L2 PyProof.Rows
end PyD

end

section
set_option maxHeartbeats 2000000
namespace PyD
open PySem PySem.Spec L2 PyProof.Rows
section
variable {prog : Program} {w : World} {A : Around} {E : Value → Shared → Prop} {s : Shared}
end
end PyD

end

section
set_option maxHeartbeats 2000000
namespace PyD
open PySem PySem.Spec L2 PyProof.Rows
section
variable {prog : Program} {w : World} {A : Around} {R : Result → Shared → Prop} {I : Addr} {fp wr : List Addr} {P : Nat → Value → Prop} {St : Nat → Heap → Prop}
end
section
variable {prog : Program} {w : World} {A : Around} {E : Value → Shared → Prop} {s : Shared}
end
end PyD

end

namespace PyD
open PySem PySem.Spec L2 PyProof.Rows
section
variable {K : PySem.W.Frag} {W : WX} {B B' B1 : Addr → Prop} {U U' : Addr → Prop} {H H' H1 : Hp} {σ σ' σ1 : L2.St} {en en' en1 : En} {d : D} {v : V} {i : Nat} {p : Addr} {ds : List D} {fs : M (List R)} {Q : VK} {D0 : Ends}
end
section
variable {en : En} {k : Fl → Prop}
end
end PyD

section
set_option maxHeartbeats 4000000
namespace PyD
open PySem PySem.Spec L2 PyProof.Rows
def subX (n c : XN) : Bool := decide (n = c) || decide (c = .pin)
def xclB (K : PySem.W.Frag) (n : XN) (C : Addr) : Bool :=
  decide (PySem.W.nsIn K mainGlobals n.nm = some (some (.ref C))) && (PySem.W.keepIn K (.ref C) && (decide (PySem.W.subIn K (.ref C) (.type "BaseException") = some true) && (decide (PySem.W.typeIn K (.ref C) = some (.type "type")) && ((PySem.W.clsIn K C).isSome &&
  (decide (PySem.W.findIn K (.ref C) "__getattribute__" = some (some (.builtin "BaseException.__getattribute__"))) && (decide (PySem.W.findIn K (.ref C) "__getattr__" = some none) && (decide (PySem.W.findIn K (.ref C) "__class__" = some (some (.builtin "object.__class__"))) &&
  (decide (PySem.W.specialIn K (.builtin "object.__class__") "__get__" = some (some (.builtin "getset_descriptor.__get__"))) && (decide (PySem.W.takesIn K (.builtin "object.__class__") = some true) && (decide (PySem.W.mroIn K C (.type "object") = some true) && PySem.W.hasDictIn K C))))))))))
structure XCl (K : PySem.W.Frag) (n : XN) (C : Addr) : Prop where
  ns : PySem.W.nsIn K mainGlobals n.nm = some (some (.ref C))
  kp : PySem.W.keepIn K (.ref C) = true
  be : PySem.W.subIn K (.ref C) (.type "BaseException") = some true
  ty : PySem.W.typeIn K (.ref C) = some (.type "type")
  cl : (PySem.W.clsIn K C).isSome = true
  ga : PySem.W.findIn K (.ref C) "__getattribute__" = some (some (.builtin "BaseException.__getattribute__"))
  gg : PySem.W.findIn K (.ref C) "__getattr__" = some none
  fc : PySem.W.findIn K (.ref C) "__class__" = some (some (.builtin "object.__class__"))
  sp : PySem.W.specialIn K (.builtin "object.__class__") "__get__" = some (some (.builtin "getset_descriptor.__get__"))
  tk : PySem.W.takesIn K (.builtin "object.__class__") = some true
  ob : PySem.W.mroIn K C (.type "object") = some true
  hd : PySem.W.hasDictIn K C = true
theorem XCl.of {K : PySem.W.Frag} {n : XN} {C : Addr} (h : xclB K n C = true) : XCl K n C := by
  unfold xclB at h
  simp only [Bool.and_eq_true, decide_eq_true_eq] at h
  obtain ⟨a, b, c, d, e, f, g, i, j, k, l, m⟩ := h
  exact ⟨a, b, c, d, e, f, g, i, j, k, l, m⟩
def xtB (K : PySem.W.Frag) (l : List (XN × Addr)) : Bool := l.all fun p => xclB K p.1 p.2 && (decide (PySem.W.kitOne K (.ref p.2) (.type "ValueError") = some true) && (decide (PySem.W.kitOne K (.type "NoneType") (.ref p.2) = some false) &&
  l.all fun q => decide (PySem.W.kitOne K (.ref p.2) (.ref q.2) = some (subX p.1 q.1)) && decide (PySem.W.exmOne K (.ref p.2) (.ref q.2) = some (subX p.1 q.1))))
structure XT (K : PySem.W.Frag) (l : List (XN × Addr)) : Prop where
  cl : ∀ n C, (n, C) ∈ l → XCl K n C
  ve : ∀ n C, (n, C) ∈ l → PySem.W.kitOne K (.ref C) (.type "ValueError") = some true
  no : ∀ n C, (n, C) ∈ l → PySem.W.kitOne K (.type "NoneType") (.ref C) = some false
  is : ∀ n C m D, (n, C) ∈ l → (m, D) ∈ l → PySem.W.kitOne K (.ref C) (.ref D) = some (subX n m)
  ex : ∀ n C m D, (n, C) ∈ l → (m, D) ∈ l → PySem.W.exmOne K (.ref C) (.ref D) = some (subX n m)
theorem XT.of {K : PySem.W.Frag} {l : List (XN × Addr)} (h : xtB K l = true) : XT K l := by
  unfold xtB at h
  simp only [List.all_eq_true, Bool.and_eq_true, decide_eq_true_eq] at h
  exact ⟨fun n C q => XCl.of (h _ q).1, fun n C q => (h _ q).2.1, fun n C q => (h _ q).2.2.1, fun n C m D q r => ((h _ q).2.2.2 _ r).1, fun n C m D q r => ((h _ q).2.2.2 _ r).2⟩
theorem XT.mem {K : PySem.W.Frag} {l : List (XN × Addr)} (T : XT K l) {n : XN} {c : Value} (h : (l.map (·.1)).elem n = true) (hc : ClsN K n c) : ∃ C, c = .ref C ∧ (n, C) ∈ l := by
  obtain ⟨⟨m, C⟩, h1, h2⟩ := List.mem_map.mp (List.mem_of_elem_eq_true h)
  dsimp only at h2
  subst h2
  have e1 := (T.cl m C h1).ns
  have e2 := hc.1
  rw [e1] at e2
  cases e2
  exact ⟨C, rfl, h1⟩
def rsF (n : XN) : En → Fl := fun en => .exc ⟨n, none⟩ en
def rsO (n : XN) (f : Str) (fs : M (List R)) : En → Fl := fun en => match fs en with
  | .ok [.sh d] en1 => .exc ⟨n, some (f, d)⟩ en1
  | .ok _ _ => .bad
  | .exc x en1 => .exc x en1
  | .bad => .bad
theorem s_raise1 {X : Cx} {W : WX} {n : XN} {C : Addr} {x m : Str} {j : Nat} {p p2 pos pos' : Pos} (hc : X.calm = true) (tk : Takes X W) (T : XCl X.K n C) (ei : PySem.W.excIn X.K C [.type "ValueError", .type "Exception", .type "BaseException", .type "object"] "ValueError.__new__" = true)
    (gC : X.mg x = some (.ref C)) (hg : Gl X x := by rfl) (nd : (x == ("__debug__" : Str)) = false := by decide) :
    PS X (.Raise (some (.Call (.Name x p) [.Constant (.str m) j p2] [] pos')) none pos) (RdS X.K W (rsF n)) :=
  ps_imp (ps_raise hc tk (pmk_own PySem.F.excBase_ValueError ei gC T.kp (raises_own T.be T.ty) hg nd)) fun D σ H ⟨B, en, G, m⟩ => m (.ref C) none σ H ⟨⟨T.ns, C, rfl⟩, rfl⟩ G (Stp.refl σ en H)
structure Sup (K : PySem.W.Frag) (P : Addr) : Prop where
  ga : PySem.W.specialIn K (.ref P) "__getattribute__" = some (some (.builtin "type.__getattribute__"))
  rd : PySem.W.readsIn K P (.type "type") = true
  fd : PySem.W.findCls K (.ref P) (.type "type") "__init__" = some (.val (.builtin "ValueError.__init__"))
section
variable {X : Cx} {pins : List (Addr × Obj)} {σ : L2.St} {H : Hp} {s : Shared}
theorem exT_ok {P : Program} {w : World} {h : Heap} {a : Addr} {c : Value} {od : Option Addr} {o : Obj} {vs : Array Value} (e : h.get? a = some o) (z : Zc c od o) (d : o.data = .fields vs) : ObjOk P w H h a (exT a c od) :=
  ⟨⟨o, vs, e, z, d⟩, ⟨o, e⟩, fun _ _ ⟨u, us, q, r⟩ k => ⟨u, us, k u q, r⟩⟩
theorem exT_at {P : Program} {w : World} {h : Heap} {a : Addr} {c : Value} {od : Option Addr} (ok : HOk P w H h) (e : H a = some (exT a c od)) : ∃ o vs, h.get? a = some o ∧ Zc c od o ∧ o.data = .fields vs := by
  have z : ObjOk P w H h a (.ext fun h => ∃ (o : Obj) (vs : Array Value), h.get? a = some o ∧ Zc c od o ∧ o.data = .fields vs) := ok a _ e
  exact z.1
theorem Inv.seize {a : Addr} {c : Value} {od : Option Addr} {oe : Obj} {vs : Array Value} (J : Inv X pins σ H s) (there : s.heap.get? a = some oe) (z : Zc c od oe) (d : oe.data = .fields vs) (new0 : X.s_0.heap.get? a = none) (na : H a = none) (nl : a ≠ X.env.locals)
    (np : ∀ p ∈ X.pn ++ pins, p.1 ≠ a) : Inv X pins σ (upd H a (exT a c od)) s where
  ok := J.ok
  os := J.os
  bare := J.bare
  base := {
    keep := J.base.keep
    slot := J.base.slot
    free := fun b o e n x => by
      rw [upd_ne (fun q => by rw [q, new0] at e; cases e)]
      exact J.base.free b o e n x
    there := J.base.there
    tups := fun b xs e => by
      have q := J.base.tups b xs e
      rw [upd_ne (ne_of_none q na)]
      exact q
    frzs := fun b o u e => by
      have q := J.base.frzs b o u e
      rw [upd_ne (ne_of_none q na)]
      exact q
    tbls := fun b ps e => by
      obtain ⟨m, q⟩ := J.base.tbls b ps e
      exact ⟨m, by rw [upd_ne (ne_of_none q na)]; exact q⟩ }
  loc := J.loc
  cell := J.cell
  free := by rw [upd_ne (Ne.symm nl)]; exact J.free
  freeC := fun x k e => by
    have q := J.freeC x k e
    rw [upd_ne ?_]
    · exact q
    · intro e2
      obtain ⟨v, o, ho, hd⟩ := J.cell x k e
      rw [e2, there] at ho
      cases ho
      rw [d] at hd
      cases hd
  pin := fun p hp => by
    obtain ⟨q1, q2, q3⟩ := J.pin p hp
    exact ⟨q1, by rw [upd_ne (np p hp)]; exact q2, q3⟩
  hok := J.hok.laidN (fun _ _ q => q) na (exT_ok there z d)
  len := J.len
theorem Inv.suite0 (J : Inv X pins σ H s) (a : Addr) : Inv (X.suite a (X.pn ++ pins)) [] σ H s where
  ok := J.ok.suite a _
  os := J.os
  bare := J.bare
  base := J.base
  loc := J.loc
  cell := J.cell
  free := J.free
  freeC := J.freeC
  pin := fun p hp => J.pin p (by rw [List.append_nil] at hp; exact hp)
  hok := J.hok
  len := J.len
theorem Inv.unsuite0 {a : Addr} (J : Inv (X.suite a (X.pn ++ pins)) [] σ H s) (ok : X.Ok) : Inv X pins σ H s where
  ok := ok
  os := J.os
  bare := J.bare
  base := J.base
  loc := J.loc
  cell := J.cell
  free := J.free
  freeC := J.freeC
  pin := fun p hp => J.pin p (List.mem_append_left _ hp)
  hok := J.hok
  len := J.len
end
def wTk (K : PySem.W.Frag) (c : Value) (i : Nat) (ts : TS) (Wo : WX) (D : Ends) : WX := fun k d σ H => ∃ b, PySem.W.exmOne K k c = some b ∧
  (b = true → ∀ a, H a = none → ts { nx := fun σ' H' => D.nx (σ'.set i none) H', rt := D.rt, bk := fun σ' H' => D.bk (σ'.set i none) H', ct := fun σ' H' => D.ct (σ'.set i none) H' } (σ.set i (some (.ref a))) (upd H a (exT a k d))) ∧ (b = false → Wo k d σ H)
section
variable {X : Cx} {x n : Str} {c : Value} {i : Nat} {body suite : List Stmt} {b0 : Stmt} {np pos pos' : Pos} {tb : WX → TS} {ts : TS} {Wo : WX}
theorem ps_take (st0 : X.stack = X.env :: X.outer) (fr0 : X.env.frame = some X.env.locals) (ex0 : X.ex = []) (nd : X.N.Nodup) (hi : X.N[i]? = some n) (kn : X.env.kindOf n = some .local) (nm : Names X x c) (tk : Takes X Wo)
    (bod : ∀ (W : WX) (pn : List (Addr × Obj)) (xe : Value → Shared → Prop), Takes (X.tr pn xe) W → PassesOwn (model X.prog X.w) X.A X.env xe → PSs (X.tr pn xe) body (tb W))
    (sui : ∀ (a : Addr) (pn : List (Addr × Obj)), PSs (X.suite a pn) (b0 :: suite) ts) :
    PS X (.Try body [.ExceptHandler (some (.Name x np)) (some n) (b0 :: suite) pos'] [] [] pos) (fun D σ H => tb (wTk X.K c i ts Wo D) D σ H) := by
  constructor
  intro pins s σ H D J q
  have ok := J.ok
  have fr1 : X.A.frames = some (X.env :: X.outer) := by rw [ok.frames, st0]
  have lo : Loc X.env.scope n := .inl kn
  refine wpAny_Try_except (wpAny_mono ((bod (wTk X.K c i ts Wo D) (X.pn ++ pins) (fun e s1 => wpAny (model X.prog X.w) X.A (noteFrame e X.env) (fun _ s2 => wpAny (model X.prog X.w) X.A (setFlight e none)
    (fun _ s3 => wpAny (model X.prog X.w) X.A (handleBy e X.env [.ExceptHandler (some (.Name x np)) (some n) (b0 :: suite) pos']) (SP X pins D) X.xe s3) X.xe s2) X.xe s1) ?_ PassesOwn.looking).run [] s σ H D (J.toTry _) q) ?_ (fun _ _ z => z))
  · rintro u s1 ⟨a, B, sI, pins1, σ1, H1, k, d, rfl, J1, nb, up, sky, na, os, ag, b, eb, yes, no⟩
    have J1 : Inv X pins σ1 H1 sI := J1.ofTry ok
    have sky : Sky B (X.env :: X.outer) a (Zc k d) X.env.locals s1.heap := by
      rw [← st0]
      exact sky
    refine Sky.land Zc.steady fr1 fr0 sky fun h3 fl3 up3 => ?_
    have L3 : Inv X pins σ1 H1 { s1 with heap := h3 } := J1.landed nb fl3.1 (up.trans up3) os ag
    obtain ⟨oe, vs, at3, z3, d3⟩ := fl3.there
    have nfs : a ∉ frs (X.env :: X.outer) := fun hm => by
      obtain ⟨_, o1, e1, nf1⟩ := fl3.2.2.1.mem hm
      rw [at3] at e1
      cases e1
      exact nf1 _ d3
    have nl : a ≠ X.env.locals := fun z => nfs (List.mem_filterMap.mpr ⟨X.env, List.mem_cons_self, by rw [fr0, z]⟩)
    have nB : B.get? a = none := fl3.2.1
    have notI : ∀ b o, sI.heap.get? b = some o → b ∉ frs X.stack → b ≠ a := fun b o e1 e2 e3 => by
      have e4 := nb b o e1 e2
      rw [e3, nB] at e4
      cases e4
    have nI : sI.heap.get? a = none := by
      cases e1 : sI.heap.get? a with
      | none => rfl
      | some o => exact absurd rfl (notI a o e1 (by rw [st0]; exact nfs))
    have n0 : X.s_0.heap.get? a = none := by
      cases e1 : X.s_0.heap.get? a with
      | none => rfl
      | some o =>
        obtain ⟨o2, e2⟩ := J1.base.there a o e1 (by rw [ex0]; exact fun z => nomatch z)
        rw [nI] at e2
        cases e2
    have npin : ∀ p ∈ X.pn ++ pins, p.1 ≠ a := fun p hp e1 => by
      have e2 := (J1.pin p hp).1
      rw [e1, nI] at e2
      cases e2
    have looksT : PySem.W.Looks (model X.prog X.w) h3 (typeOf (.ref a)) k := fun A' Q' E' s' kk qq => wpAny_typeOf_ref (kk _ _ at3) (by rw [z3.1]; exact qq)
    have looksM := PySem.W.exm_one (M := model X.prog X.w) L3.kIn looksT eb
    have S3 : Inv (X.suite a (X.pn ++ pins)) [] σ1 H1 { s1 with heap := h3 } := Inv.suite0 L3 a
    have asks : ∀ {Q' E' : Value → Shared → Prop}, Q' c { s1 with heap := h3 } → wpAny (model X.prog X.w) (X.A.mark (some (.ref a))) (eval (.Name x np) X.env) Q' E' { s1 with heap := h3 } := fun {Q' E'} qq => by
      rcases nm with ⟨g1, g2, g3 | ⟨g3, g4, g5⟩⟩
      · exact ld_glob (X := X.suite a (X.pn ++ pins)) S3 g1 g3 qq g2
      · exact ld_blt (X := X.suite a (X.pn ++ pins)) S3 g1 g3 g4 qq g5 g2
    refine wpAny_handleBy_cons (codeAny_handlers_test (asks (looksM.here ?_))) (by intro z; cases z)
    cases b with
    | true =>
      refine codeAny_handlers_suite_as (HandSPX.lands_againZ fl3 fun h4 fl4 up4 => ?_)
      have L4 : Inv X pins σ1 H1 { s1 with heap := h4 } := J1.landed nb fl4.1 ((up.trans up3).trans up4) os ag
      obtain ⟨o4, v4, at4, z4, d4⟩ := fl4.there
      have S4 := Inv.suite0 (Inv.seize L4 at4 z4 d4 n0 na nl npin) a
      refine store_ok (X := X.suite a (X.pn ++ pins)) (v := .ref a) S4 nd hi lo rfl (fun s5 S5 => wpAny_mono ((sui a (X.pn ++ pins)).run [] s5 _ _ _ S5 (yes rfl a na)) ?_ fun _ _ z => False.elim z) (.inr kn)
      intro f s6 hf
      have out : ∀ {σ6 : L2.St} {H6 : Hp} {Q : Shared → Prop}, Inv (X.suite a (X.pn ++ pins)) [] σ6 H6 s6 → (∀ s7, Inv X pins (σ6.set i none) H6 s7 → Q s7) →
          wpAny (model X.prog X.w) X.A (do bindName X.env n .none; unbindBehindTheSuite X.env n pos') (fun _ s7 => Q s7) X.xe s6 := fun S6 g => gone_ok (Inv.unsuite0 S6 ok) nd hi kn g
      cases f with
      | next => obtain ⟨_, _, S6, g⟩ := hf; exact out S6 fun _ J7 => ⟨_, _, J7, g⟩
      | brk => obtain ⟨_, _, S6, g⟩ := hf; exact out S6 fun _ J7 => ⟨_, _, J7, g⟩
      | cont => obtain ⟨_, _, S6, g⟩ := hf; exact out S6 fun _ J7 => ⟨_, _, J7, g⟩
      | ret u => obtain ⟨_, _, _, S6, r6, g⟩ := hf; exact out S6 fun _ J7 => ⟨_, _, _, J7, r6, g⟩
    | false =>
      refine wpAny_handleBy_nil ?_
      obtain ⟨_, _, _, o5, v5, T5, _, _, at5, _, d5, f5, _⟩ := id fl3
      unfold PySem.passOn
      refine wpAny_bind (wpAny_field at5 d5 f5 ?_)
      rw [if_neg (show ¬ ((Value.ref T5 == Value.none) = true) from by simp)]
      have on : wpAny (model X.prog X.w) X.A (setFlight (.ref a) X.env.frame) (fun _ s4 => wpAny (model X.prog X.w) X.A (throw (.ref a) : Sem Flow) (SP X pins D) X.xe s4) X.xe { s1 with heap := h3 } := by
        rw [fr0]
        exact HandSPX.setFlight_upZ fl3 fun h4 held4 up4 => wpAny_throw (tk _ _ ⟨a, B, sI, pins, σ1, H1, k, d, rfl, J1, nb, (up.trans up3).trans up4, .inr (.inr (by rw [st0]; exact held4)), na, os, ag, no rfl⟩)
      first
        | exact wpAny_bind (wpAny_pure (wpAny_bind on))
        | exact wpAny_bind on
  · intro f s1 hf
    cases f with
    | next => obtain ⟨_, _, J1, g⟩ := hf; exact wpAny_execs_nil ⟨_, _, J1.ofTry ok, g⟩
    | brk => obtain ⟨_, _, J1, g⟩ := hf; exact ⟨_, _, J1.ofTry ok, g⟩
    | cont => obtain ⟨_, _, J1, g⟩ := hf; exact ⟨_, _, J1.ofTry ok, g⟩
    | ret u => obtain ⟨_, _, _, J1, r1, g⟩ := hf; exact ⟨_, _, _, J1.ofTry ok, r1, g⟩
end
def exD (x : Ex) : D := .exn x.cls (match x.fld with | none => [] | some p => [p])
def goneF (i : Nat) : Fl → Fl
  | .nx en => (match freeAt en i with | true => .nx (en.set i .e) | false => .bad)
  | .bk en => (match freeAt en i with | true => .bk (en.set i .e) | false => .bad)
  | .ct en => (match freeAt en i with | true => .ct (en.set i .e) | false => .bad)
  | .rt (.sh d) en => (match freeAt en i with | true => .rt (.sh d) (en.set i .e) | false => .bad)
  | _ => .bad
def tryF (ns : List XN) (c : XN) (i : Nat) (fb fs : En → Fl) : En → Fl := fun en => match fb en with
  | .exc x en1 => (match ns.elem x.cls with
    | true => (match subX x.cls c with
      | true => (match freeAt en1 i with
        | true => goneF i (fs (en1.set i (.v (exD x))))
        | false => .bad)
      | false => .exc x en1)
    | false => .bad)
  | f => f
section
variable {K : PySem.W.Frag} {W : WX} {B B' B1 : Addr → Prop} {U : Addr → Prop} {H H' H1 : Hp} {σ σ' σ1 : L2.St} {en en' en1 : En} {d : D} {v : V} {i : Nat} {p : Addr} {D0 : Ends}
theorem own_gone {a : Addr} (h : Own H (σ.set i none) (en.set i .e) a) : Own H σ en a := by
  obtain ⟨j, b, d', p, e, s, r⟩ := h
  rcases set_get e with ⟨_, q, _⟩ | ⟨ne, q⟩
  · cases q
  · rw [List.getElem?_set_ne ne] at s
    exact ⟨j, b, d', p, q, s, r⟩
theorem Good.gone (G : Good K B H σ en) : Good K B H (σ.set i none) (en.set i .e) := by
  have t : ∀ a o, H a = some o → ¬ Un B H σ en a → H a = some o ∧ ¬ Un B H (σ.set i none) (en.set i .e) a := fun a o x n => ⟨x, fun z => n (z.imp id own_gone)⟩
  exact {
    len := by rw [List.length_set, List.length_set]; exact G.len
    all := G.all
    rep := fun j d' e => by
      rcases set_get e with ⟨_, q, _⟩ | ⟨ne, q⟩
      · cases q
      · obtain ⟨w, s, r⟩ := G.rep j d' q
        exact ⟨w, by rw [List.getElem?_set_ne ne]; exact s, Rep.to t d' w r⟩
    own := fun j b d' e => by
      rcases set_get e with ⟨_, q, _⟩ | ⟨ne, q⟩
      · cases q
      · obtain ⟨p, s, n, c⟩ := G.own j b d' q
        exact ⟨p, by rw [List.getElem?_set_ne ne]; exact s, n, Cont.to t (fun _ _ _ x => x) c⟩
    inj := fun j k p p' a b c d1 d2 e1 e2 s1 s2 => by
      rcases set_get e1 with ⟨_, q, _⟩ | ⟨ne1, q1⟩
      · cases q
      · rcases set_get e2 with ⟨_, q, _⟩ | ⟨ne2, q2⟩
        · cases q
        · rw [List.getElem?_set_ne ne1] at s1
          rw [List.getElem?_set_ne ne2] at s2
          exact G.inj j k p p' a b c d1 d2 q1 q2 s1 s2 }
theorem Stp.gone (hf : freeAt en i = true) : Stp σ en H (σ.set i none) (en.set i .e) H where
  len := List.length_set
  fr := fun _ _ h _ => h
  al := fun _ h => h
  ow := fun a h => .inl (own_gone h)
  of := fun a h => .inl (by
    obtain ⟨j, d', p, e, s, r⟩ := h
    rcases set_get e with ⟨_, q, _⟩ | ⟨ne, q⟩
    · cases q
    · rw [List.getElem?_set_ne ne] at s
      exact ⟨j, d', p, q, s, r⟩)
  pin := fun j d' e => by
    have ne : i ≠ j := fun z => by
      subst z
      exact (freeAt_lt hf).2 d' e
    exact ⟨by rw [List.getElem?_set_ne ne], d', by rw [List.getElem?_set_ne ne]; exact e⟩
  pb := fun j d' e => by
    rcases set_get e with ⟨_, q, _⟩ | ⟨_, q⟩
    · cases q
    · exact ⟨d', q⟩
  pr := fun j d d' p a e1 e2 _ r => by
    rcases set_get e2 with ⟨_, q, _⟩ | ⟨_, q⟩
    · cases q
    · rw [e1] at q; cases q; exact .inl r
theorem tryImp {l : List (XN × Addr)} (T : XT K l) {c : XN} {C : Addr} (hc : (c, C) ∈ l) {fb fs : En → Fl} (m : RdS K W (tryF (l.map (·.1)) c i fb fs) D0 σ H) :
    RdS K (wTk K (.ref C) i (RdS K (fun _ _ _ _ => False) fs) W D0) fb D0 σ H := by
  obtain ⟨B, en, G, m⟩ := RdS.qs m
  refine ⟨B, en, G, ?_⟩
  unfold tryF at m
  cases e : fb en with
  | nx en1 => rw [e] at m; exact m
  | bk en1 => rw [e] at m; exact m
  | ct en1 => rw [e] at m; exact m
  | rt r en1 => rw [e] at m; exact m
  | bad => rw [e] at m; exact m
  | exc x en1 =>
    rw [e] at m
    dsimp only at m ⊢
    intro k od σ1 H1 ex G1 st1
    cases q1 : (l.map (·.1)).elem x.cls with
    | false => rw [q1] at m; exact m.elim
    | true =>
      rw [q1] at m
      dsimp only at m
      obtain ⟨Ck, rfl, hk⟩ := T.mem q1 ex.1
      refine ⟨_, T.ex _ _ _ _ hk hc, fun q2 a na => ?_, fun q2 => ?_⟩
      · rw [q2] at m
        dsimp only at m
        cases q3 : freeAt en1 i with
        | false => rw [q3] at m; exact m.elim
        | true =>
          rw [q3] at m
          dsimp only at m
          have x2 : Ext H1 (upd H1 a (exT a (.ref Ck) od)) := fun b o hb => by
            rw [upd_ne (fun z => by rw [z, na] at hb; cases hb)]
            exact hb
          have G2 := G1.ext0 x2
          have st2 : Stp σ en H σ1 en1 (upd H1 a (exT a (.ref Ck) od)) := st1.trans (Stp.ext G1 x2)
          have oi := G1.ownIff (H' := upd H1 a (exT a (.ref Ck) od)) (fun a o _ => x2 a o)
          have nU : ¬ Un B (upd H1 a (exT a (.ref Ck) od)) σ1 en1 a := fun z => G1.unAt (z.imp id (oi a).mp) na
          have rep : Rep K (Un B (upd H1 a (exT a (.ref Ck) od)) σ1 en1) (upd H1 a (exT a (.ref Ck) od)) (exD x) (.ref a) := by
            unfold exD Rep
            obtain ⟨h1, h2⟩ := ex
            cases ef : x.fld with
            | none =>
              rw [ef] at h2
              exact ⟨a, .ref Ck, od, [], rfl, nU, upd_same, h1, .inl ⟨rfl, h2⟩, by unfold RepF; rfl⟩
            | some fd =>
              obtain ⟨f, d⟩ := fd
              rw [ef] at h2
              obtain ⟨dx, w, e1, n1, h3, r⟩ := h2
              refine ⟨a, .ref Ck, od, [(f, w)], rfl, nU, upd_same, h1, .inr ⟨dx, e1, fun z => n1 (z.imp id (oi dx).mp), x2 _ _ h3⟩, ?_⟩
              unfold RepF
              exact ⟨w, [], rfl, Rep.to (fun b o hb nb => ⟨x2 b o hb, fun z => nb (z.imp id (oi b).mp)⟩) _ _ r, by unfold RepF; rfl⟩
          have G3 := G2.set_v (fun _ z => z) (freeAt_lt q3).1 rep
          have st3 := st2.trans (Stp.set_v (v := .ref a) (d := exD x) q3)
          refine RdS.of (Bx.refl B σ en H) G3 st3 ?_
          cases e4 : fs (en1.set i (.v (exD x))) with
          | nx en4 =>
            rw [e4] at m
            unfold goneF at m
            dsimp only at m
            cases q4 : freeAt en4 i with
            | false => rw [q4] at m; exact m.elim
            | true => rw [q4] at m; exact fun σ' H' g s => m _ H' g.gone (s.trans (Stp.gone q4))
          | bk en4 =>
            rw [e4] at m
            unfold goneF at m
            dsimp only at m
            cases q4 : freeAt en4 i with
            | false => rw [q4] at m; exact m.elim
            | true => rw [q4] at m; exact fun σ' H' g s => m _ H' g.gone (s.trans (Stp.gone q4))
          | ct en4 =>
            rw [e4] at m
            unfold goneF at m
            dsimp only at m
            cases q4 : freeAt en4 i with
            | false => rw [q4] at m; exact m.elim
            | true => rw [q4] at m; exact fun σ' H' g s => m _ H' g.gone (s.trans (Stp.gone q4))
          | rt r en4 =>
            rw [e4] at m
            cases r with
            | fr d => exact m.elim
            | sl j => exact m.elim
            | sh d =>
              unfold goneF at m
              dsimp only at m
              cases q4 : freeAt en4 i with
              | false => rw [q4] at m; exact m.elim
              | true =>
                rw [q4] at m
                exact fun v σ' H' ⟨B4, b4, g4, r4, n4⟩ s => m v (σ'.set i none) H' ⟨B4, b4, g4.gone, Rep.to (fun b o hb nb => ⟨hb, fun z => nb (z.imp id own_gone)⟩) _ _ r4, trivial⟩ (s.trans (Stp.gone q4))
          | exc y en4 => rw [e4] at m; exact m.elim
          | bad => rw [e4] at m; exact m.elim
      · rw [q2] at m
        exact m _ od σ1 H1 ex G1 st1
end
theorem s_try {X : Cx} {W : WX} {l : List (XN × Addr)} {c : XN} {C : Addr} {x n : Str} {i : Nat} {body suite : List Stmt} {b0 : Stmt} {np pos pos' : Pos} {fb fs : En → Fl} {ns : List XN} (T : XT X.K l) (hc : (c, C) ∈ l) (nd : X.N.Nodup) (gC : X.mg x = some (.ref C)) (tk : Takes X W)
    (bod : ∀ (W' : WX) (pn : List (Addr × Obj)) (xe : Value → Shared → Prop), Takes (X.tr pn xe) W' → PassesOwn (model X.prog X.w) X.A X.env xe → PSs (X.tr pn xe) body (RdS X.K W' fb))
    (sui : ∀ (a : Addr) (pn : List (Addr × Obj)), PSs (X.suite a pn) (b0 :: suite) (RdS X.K (fun _ _ _ _ => False) fs))
    (hns : l.map (·.1) = ns := by rfl) (st0 : X.stack = X.env :: X.outer := by rfl) (fr0 : X.env.frame = some X.env.locals := by rfl) (ex0 : X.ex = [] := by rfl) (hi : X.N[i]? = some n := by rfl) (kn : X.env.kindOf n = some .local := by rfl) (hg : Gl X x := by rfl) (ndb : (x == ("__debug__" : Str)) = false := by decide) :
    PS X (.Try body [.ExceptHandler (some (.Name x np)) (some n) (b0 :: suite) pos'] [] [] pos) (RdS X.K W (tryF ns c i fb fs)) := by
  subst hns
  exact ps_imp (ps_take st0 fr0 ex0 nd hi kn ⟨hg, ndb, .inl gC⟩ tk bod sui) fun D σ H m => tryImp T hc m
section
variable {X : Cx} {pins : List (Addr × Obj)} {σ : L2.St} {H : Hp} {s : Shared}
theorem exn_inst {a C : Addr} {od : Option Addr} (J : Inv X pins σ H s) (e : H a = some (exT a (.ref C) od)) (hd : ∀ dx, od = some dx → ∃ ws, H dx = some (.xd ws)) : ∃ ox od', PySem.W.InstAt s.heap a ox C od' := by
  obtain ⟨o, vs, at1, z, dt⟩ := exT_at J.hok e
  have nc : PySem.W.notCls o := by
    unfold PySem.W.notCls
    rw [dt] <;> rfl
  cases od with
  | none => exact ⟨o, none, at1, z.1, nc, by rw [z.2]; trivial⟩
  | some dx =>
    obtain ⟨ws, e2⟩ := hd dx rfl
    obtain ⟨od', e3⟩ := objOk_get (J.hok dx _ e2)
    exact ⟨o, some od', at1, z.1, nc, by rw [z.2]; exact e3⟩
end
def rIsX (K : PySem.W.Frag) : List V → Hp → VK → Prop := fun xs H Q => ∃ (a C : Addr) (od : Option Addr) (n : XN) (c : V) (cv : Value) (b : Bool), xs = [.ref a, c] ∧ ClsV c cv ∧ H a = some (exT a (.ref C) od) ∧ (∀ dx, od = some dx → ∃ ws, H dx = some (.xd ws)) ∧ XCl K n C ∧ PySem.W.kitOne K (.ref C) cv = some b ∧ Q (.bl b) H
def rIsXT (K : PySem.W.Frag) : List V → Hp → VK → Prop := fun xs H Q => ∃ (a C : Addr) (od : Option Addr) (n : XN) (tp : Addr) (cs : List V) (us : List Value) (b : Bool), xs = [.ref a, .ref tp] ∧ H tp = some (.tup cs) ∧ Paired ClsV cs us ∧ H a = some (exT a (.ref C) od) ∧ (∀ dx, od = some dx → ∃ ws, H dx = some (.xd ws)) ∧ XCl K n C ∧ PySem.W.kitAny K (.ref C) us = some b ∧ Q (.bl b) H
theorem call_isX {X : Cx} : CallR X (.builtin "isinstance") (rIsX X.K) := by
  intro pins s σ H xs us Q J r h
  obtain ⟨a, C, od, n, c, cv, b, rfl, k, e, hd, T, kb, q⟩ := h
  obtain ⟨u1, u2, rfl, r1, r2⟩ := vals2 r
  cases (show u1 = Value.ref a from r1)
  have e2 := k.eq r2
  subst e2
  obtain ⟨ox, od', P⟩ := exn_inst J e hd
  exact PySem.W.kia_one (PySem.W.kitx_exc T.cl T.ga T.gg T.be T.fc T.sp T.tk T.ob) J.kIn P kb (fun z => nomatch z) fun tk => ⟨.bl b, H, J.tok tk, rfl, q⟩
theorem call_isXT {X : Cx} : CallR X (.builtin "isinstance") (rIsXT X.K) := by
  intro pins s σ H xs us Q J r h
  obtain ⟨a, C, od, n, tp, cs, ws, b, rfl, hT, k, e, hd, T, kb, q⟩ := h
  obtain ⟨u1, u2, rfl, r1, r2⟩ := vals2 r
  cases (show u1 = Value.ref a from r1)
  cases (show u2 = Value.ref tp from r2)
  obtain ⟨ox, od', P⟩ := exn_inst J e hd
  have tT : ObjOk X.prog X.w H s.heap tp (.tup cs) := J.hok tp _ hT
  obtain ⟨_, its, rv, ⟨oc, o2, dt, sl⟩, h1, h2, m, h3⟩ := tT
  have e3 := ClsV.all k rv
  subst e3
  dsimp only at h2 h3
  subst h2 h3
  exact PySem.W.kia_tup (PySem.W.kitx_exc T.cl T.ga T.gg T.be T.fc T.sp T.tk T.ob) J.kIn P h1 kb (fun z => nomatch z) fun tk => ⟨.bl b, H, J.tok tk, rfl, q⟩
def isxD (ns : List XN) (c : XN) : List D → Option (Bool × D)
  | [.exn m _] => (match ns.elem m with | true => some (false, .bl (subX m c)) | false => none)
  | [.non] => some (false, .bl false)
  | _ => none
def isxTD (ns : List XN) (cs : List XN) : List D → Option (Bool × D)
  | [.exn m _] => (match ns.elem m with | true => some (false, .bl (cs.any (subX m))) | false => none)
  | [.non] => some (false, .bl false)
  | _ => none
def isvD (ns : List XN) : List D → Option (Bool × D)
  | [.exn m _] => (match ns.elem m with | true => some (false, .bl true) | false => none)
  | [.non] => some (false, .bl false)
  | _ => none
section
variable {K : PySem.W.Frag} {U : Addr → Prop} {H : Hp} {v : V}
theorem arExn2 {l : List (XN × Addr)} (T : XT K l) {m : XN} {fs : List (Str × D)} (h : ARep K U H (.exn m fs) v) (hm : (l.map (·.1)).elem m = true) : ∃ a C od, v = .ref a ∧ (m, C) ∈ l ∧ H a = some (exT a (.ref C) od) ∧ (∀ dx, od = some dx → ∃ ws, H dx = some (.xd ws)) ∧ XCl K m C := by
  unfold ARep Rep at h
  obtain ⟨a, c, od, ws, e, _, ha, hc, hx, _⟩ := h
  obtain ⟨C, rfl, hC⟩ := T.mem hm hc
  refine ⟨a, C, od, e, hC, ha, fun dx e1 => ?_, T.cl m C hC⟩
  rcases hx with ⟨_, e2⟩ | ⟨dx2, e2, _, h2⟩
  · rw [e1] at e2; cases e2
  · rw [e1] at e2
    cases e2
    exact ⟨ws, h2⟩
def rIsY (K : PySem.W.Frag) : List V → Hp → VK → Prop := fun xs H Q => rIsX K xs H Q ∨ rIsi K xs H Q
theorem call_isY {X : Cx} : CallR X (.builtin "isinstance") (rIsY X.K) := CallR_or call_isX call_isi
def rIsYT (K : PySem.W.Frag) : List V → Hp → VK → Prop := fun xs H Q => rIsXT K xs H Q ∨ rIsiT K xs H Q
theorem call_isYT {X : Cx} : CallR X (.builtin "isinstance") (rIsYT X.K) := CallR_or call_isXT call_isiT
theorem prim_isx {l : List (XN × Addr)} (T : XT K l) {c : XN} {C : Addr} (hc : (c, C) ∈ l) : Prim K (fun vs H Q => ∃ x, vs = [x] ∧ rIsY K [x, .ref C] H Q) (isxD (l.map (·.1)) c) := by
  intro U H ds vs Q b d hU ar e post
  unfold isxD at e
  split at e
  · rename_i m fs
    obtain ⟨v, rfl, h1⟩ := ar1 ar
    split at e
    · rename_i hm
      cases e
      obtain ⟨a, C1, od, rfl, hC1, ha, hd, X1⟩ := arExn2 T h1 hm
      exact ⟨_, rfl, .inl ⟨a, C1, od, m, _, _, _, rfl, .own C, ha, hd, X1, T.is _ _ _ _ hC1 hc, post _ H (Ext.refl H) (fun _ => repBl) (fun z => by cases z)⟩⟩
    · cases e
  · obtain ⟨v, rfl, h1⟩ := ar1 ar
    cases e
    rw [arNon h1]
    exact ⟨_, rfl, .inr ⟨_, _, _, _, _, rfl, .own C, .base .non, T.no _ _ hc, post _ H (Ext.refl H) (fun _ => repBl) (fun z => by cases z)⟩⟩
  · cases e
theorem prim_isv {l : List (XN × Addr)} (T : XT K l) (hv : PySem.W.kitOne K (.type "NoneType") (.type "ValueError") = some false) : Prim K (fun vs H Q => ∃ x, vs = [x] ∧ rIsY K [x, .ty "ValueError"] H Q) (isvD (l.map (·.1))) := by
  intro U H ds vs Q b d hU ar e post
  unfold isvD at e
  split at e
  · rename_i m fs
    obtain ⟨v, rfl, h1⟩ := ar1 ar
    split at e
    · rename_i hm
      cases e
      obtain ⟨a, C1, od, rfl, hC1, ha, hd, X1⟩ := arExn2 T h1 hm
      exact ⟨_, rfl, .inl ⟨a, C1, od, m, _, _, _, rfl, .ty _, ha, hd, X1, T.ve _ _ hC1, post _ H (Ext.refl H) (fun _ => repBl) (fun z => by cases z)⟩⟩
    · cases e
  · obtain ⟨v, rfl, h1⟩ := ar1 ar
    cases e
    rw [arNon h1]
    exact ⟨_, rfl, .inr ⟨_, _, _, _, _, rfl, .ty _, .base .non, hv, post _ H (Ext.refl H) (fun _ => repBl) (fun z => by cases z)⟩⟩
  · cases e
inductive InTab (l : List (XN × Addr)) : List XN → List Addr → Prop where
  | nil : InTab l [] []
  | cons {c : XN} {C : Addr} {cs : List XN} {Cs : List Addr} (h : (c, C) ∈ l) (r : InTab l cs Cs) : InTab l (c :: cs) (C :: Cs)
theorem InTab.any {l : List (XN × Addr)} (T : XT K l) {m : XN} {C1 : Addr} (h1 : (m, C1) ∈ l) : ∀ {cs : List XN} {Cs : List Addr}, InTab l cs Cs → PySem.W.kitAny K (.ref C1) (Cs.map Value.ref) = some (cs.any (subX m))
  | _, _, .nil => rfl
  | _, _, .cons h r => by
    rw [List.map_cons, List.any_cons]
    refine kitAny_cons (T.is _ _ _ _ h1 h) (fun e => ?_) fun e => ?_
    · rw [e, Bool.false_or]; exact InTab.any T h1 r
    · rw [e]; rfl
theorem InTab.non {l : List (XN × Addr)} (T : XT K l) : ∀ {cs : List XN} {Cs : List Addr}, InTab l cs Cs → PySem.W.kitAny K (.type "NoneType") (Cs.map Value.ref) = some false
  | _, _, .nil => rfl
  | _, _, .cons h r => by
    rw [List.map_cons]
    exact kitAny_cons (T.no _ _ h) (fun _ => InTab.non T r) fun e => by cases e
theorem InTab.cls {l : List (XN × Addr)} : ∀ {cs : List XN} {Cs : List Addr}, InTab l cs Cs → Paired ClsV (Cs.map V.ref) (Cs.map Value.ref)
  | _, _, .nil => .nil
  | _, _, .cons h r => .cons (.own _) (InTab.cls r)
theorem prim_isxT {l : List (XN × Addr)} (T : XT K l) {cs : List XN} {Cs : List Addr} (hc : InTab l cs Cs) : Prim K (fun vs H Q => ∃ x, vs = [x] ∧ ∀ p, H p = none → rIsYT K [x, .ref p] (upd H p (.tup (Cs.map V.ref))) Q) (isxTD (l.map (·.1)) cs) := by
  intro U H ds vs Q b d hU ar e post
  have ext : ∀ {p}, H p = none → Ext H (upd H p (.tup (Cs.map V.ref))) := fun {p} hp a o h => by
    rw [upd_ne (fun z => by rw [z, hp] at h; cases h)]
    exact h
  unfold isxTD at e
  split at e
  · rename_i m fs
    obtain ⟨v, rfl, h1⟩ := ar1 ar
    split at e
    · rename_i hm
      cases e
      obtain ⟨a, C1, od, rfl, hC1, ha, hd, X1⟩ := arExn2 T h1 hm
      refine ⟨_, rfl, fun p hp => .inl ⟨a, C1, od, m, p, _, _, _, rfl, upd_same, hc.cls, ext hp _ _ ha, fun dx e1 => ?_, X1, hc.any T hC1, post _ _ (ext hp) (fun _ => repBl) (fun z => by cases z)⟩⟩
      obtain ⟨ws, h2⟩ := hd dx e1
      exact ⟨ws, ext hp _ _ h2⟩
    · cases e
  · obtain ⟨v, rfl, h1⟩ := ar1 ar
    cases e
    rw [arNon h1]
    exact ⟨_, rfl, fun p hp => .inr ⟨_, p, _, _, _, _, rfl, upd_same, hc.cls, .base .non, hc.non T, post _ _ (ext hp) (fun _ => repBl) (fun z => by cases z)⟩⟩
  · cases e
end
section
variable {X : Cx} {W : WX} {l : List (XN × Addr)} {p p2 pos : Pos} {a : Expr} {fa : M R} {x : Str}
theorem e_isx {c : XN} {C : Addr} {ns : List XN} (T : XT X.K l) (hc : (c, C) ∈ l) (gC : X.mg x = some (.ref C)) (hg : Gl X "isinstance") (hm : X.mg "isinstance" = none) (hg2 : Gl X x) (ha : PE X a (RdE X.K W fa))
    (nd : (x == ("__debug__" : Str)) = false := by decide)
    (hns : l.map (·.1) = ns := by rfl) (he : starEach [a, .Name x p2] X.env = (false, eval a X.env) :: starEach [.Name x p2] X.env := by rfl) (he2 : starEach [.Name x p2] X.env = (false, eval (.Name x p2) X.env) :: starEach [] X.env := by rfl) (hpl : (backTo pos (starEach [.Name x p2] X.env)).any (·.1) = false := by rfl) :
    PE X (.Call (.Name "isinstance" p) [a, .Name x p2] [] pos) (RdE X.K W (opF (isxD ns c) (one fa))) := by
  subst hns
  exact pe_imp (pe_callB call_isY hg hm PyProof.Rows.boot_isinstance (pa_cons ha (pa_cons (pe_glob (v := .ref C) hg2 gC rfl nd) pa_nil he2) he) (by decide) (by decide) he hpl) fun σ H Q m => by
    refine RdE.mono (fun y H1 q => ?_) (imp1 (opImp (prim_isx T hc) m))
    obtain ⟨x', e, z⟩ := q
    cases e
    exact z
theorem e_isv {ns : List XN} (T : XT X.K l) (hv : PySem.W.kitOne X.K (.type "NoneType") (.type "ValueError") = some false) (hg : Gl X "isinstance") (hm : X.mg "isinstance" = none) (hg2 : Gl X "ValueError") (hm2 : X.mg "ValueError" = none) (ha : PE X a (RdE X.K W fa))
    (hns : l.map (·.1) = ns := by rfl) (he : starEach [a, .Name "ValueError" p2] X.env = (false, eval a X.env) :: starEach [.Name "ValueError" p2] X.env := by rfl) (he2 : starEach [.Name "ValueError" p2] X.env = (false, eval (.Name "ValueError" p2) X.env) :: starEach [] X.env := by rfl) (hpl : (backTo pos (starEach [.Name "ValueError" p2] X.env)).any (·.1) = false := by rfl) :
    PE X (.Call (.Name "isinstance" p) [a, .Name "ValueError" p2] [] pos) (RdE X.K W (opF (isvD ns) (one fa))) := by
  subst hns
  exact pe_imp (pe_callB call_isY hg hm PyProof.Rows.boot_isinstance (pa_cons ha (pa_cons (pe_bltn (v := .ty "ValueError") hg2 hm2 PyProof.Rows.Boot.«ValueError» rfl (by decide) (by decide)) pa_nil he2) he) (by decide) (by decide) he hpl) fun σ H Q m => by
    refine RdE.mono (fun y H1 q => ?_) (imp1 (opImp (prim_isv T hv) m))
    obtain ⟨x', e, z⟩ := q
    cases e
    exact z
theorem pa_clsN {es : List Expr} {Cs : List Addr} {C : Addr} (gC : X.mg x = some (.ref C)) (hg : Gl X x) (h : PA X es (fun _ H Q => Q (Cs.map V.ref) H)) (nd : (x == ("__debug__" : Str)) = false := by decide)
    (he : starEach (.Name x p :: es) X.env = (false, eval (.Name x p) X.env) :: starEach es X.env := by rfl) : PA X (.Name x p :: es) (fun _ H Q => Q ((C :: Cs).map V.ref) H) :=
  pa_imp (pa_cons (pe_glob (v := .ref C) hg gC rfl nd) h he) fun σ H Q m => m
theorem pa_cls0 : PA X [] (fun _ H Q => Q (([] : List Addr).map V.ref) H) := pa_imp pa_nil fun σ H Q m => m
theorem e_isxT {cs : List XN} {Cs : List Addr} {es : List Expr} {k : Nat} {ns : List XN} (T : XT X.K l) (hc : InTab l cs Cs) (hn : PA X es (fun _ H Q => Q (Cs.map V.ref) H)) (hz : (Cs.map V.ref).length ≤ sizeLine) (hg : Gl X "isinstance") (hm : X.mg "isinstance" = none) (ha : PE X a (RdE X.K W fa))
    (hns : l.map (·.1) = ns := by rfl) (he : starEach [a, .Tuple es k p2] X.env = (false, eval a X.env) :: starEach [.Tuple es k p2] X.env := by rfl) (he2 : starEach [.Tuple es k p2] X.env = (false, eval (.Tuple es k p2) X.env) :: starEach [] X.env := by rfl) (hpl : (backTo pos (starEach [.Tuple es k p2] X.env)).any (·.1) = false := by rfl) :
    PE X (.Call (.Name "isinstance" p) [a, .Tuple es k p2] [] pos) (RdE X.K W (opF (isxTD ns cs) (one fa))) := by
  subst hns
  exact pe_imp (pe_callB call_isYT hg hm PyProof.Rows.boot_isinstance (pa_cons ha (pa_cons (pe_tup hn) pa_nil he2) he) (by decide) (by decide) he hpl) fun σ H Q m => by
    refine RdE.mono (fun y H1 q => ?_) (imp1 (opImp (prim_isxT T hc) m))
    obtain ⟨x', e, z⟩ := q
    cases e
    exact ⟨hz, fun q hq => z q hq⟩
def fldD (ns : List XN) (f : Str) : List D → Option (Bool × D)
  | [.exn m fs] => (match ns.elem m with | true => (fs.lookup f).map fun d => (false, d) | false => none)
  | _ => none
end
end PyD

end

namespace PyD
open PySem PySem.Spec L2
section
variable {α β : Type} {en en' : En} {x : Ex → En → Prop} {k : Fl → Prop}
theorem os_rs {n : XN} : okS (rsF n) en k = k (.exc ⟨n, none⟩ en) := rfl
def rsOK (n : XN) (f : Str) (en1 : En) (k : Fl → Prop) (rs : List R) (_ : Tg k := ⟨⟩) : Prop := match rs with
  | [.sh d] => k (.exc ⟨n, some (f, d)⟩ en1)
  | _ => False
theorem rsOK_sh {n : XN} {f : Str} {d : D} : rsOK n f en k [.sh d] = k (.exc ⟨n, some (f, d)⟩ en) := rfl
theorem os_rsO {n : XN} {f : Str} {fs : M (List R)} : okS (rsO n f fs) en k = okE fs en (fun rs en1 => rsOK n f en1 k rs) fun e en => k (.exc e en) := by
  unfold okS okE rsO
  cases fs en with
  | bad => rfl
  | exc e en1 => rfl
  | ok rs en1 =>
    match rs with
    | [] => rfl
    | [.sh d] => rfl
    | [.fr d] => rfl
    | [.sl d] => rfl
    | .sh _ :: _ :: _ => rfl
    | .fr _ :: _ :: _ => rfl
    | .sl _ :: _ :: _ => rfl
def goneK (i : Nat) (k : Fl → Prop) (o : Fl) (_ : Tg k := ⟨⟩) : Prop := match o with
  | .nx en => freeAt en i = true ∧ k (.nx (en.set i .e))
  | .bk en => freeAt en i = true ∧ k (.bk (en.set i .e))
  | .ct en => freeAt en i = true ∧ k (.ct (en.set i .e))
  | .rt (.sh d) en => freeAt en i = true ∧ k (.rt (.sh d) (en.set i .e))
  | _ => False
theorem goneK_nx {i : Nat} : goneK i k (.nx en) = (freeAt en i = true ∧ k (.nx (en.set i .e))) := rfl
theorem goneK_rt {i : Nat} {d : D} : goneK i k (.rt (.sh d) en) = (freeAt en i = true ∧ k (.rt (.sh d) (en.set i .e))) := rfl
def tryK (ns : List XN) (c : XN) (i : Nat) (fs : En → Fl) (k : Fl → Prop) (o : Fl) (_ : Tg k := ⟨⟩) : Prop := match o with
  | .exc e en1 => ns.elem e.cls = true ∧ bi (subX e.cls c) (freeAt en1 i = true ∧ okS fs (en1.set i (.v (exD e))) fun o => goneK i k o) (k (.exc e en1))
  | .bad => False
  | o => k o
theorem tryK_nx {ns : List XN} {c : XN} {i : Nat} {fs : En → Fl} : tryK ns c i fs k (.nx en) = k (.nx en) := rfl
theorem tryK_rt {ns : List XN} {c : XN} {i : Nat} {fs : En → Fl} {r : R} : tryK ns c i fs k (.rt r en) = k (.rt r en) := rfl
theorem tryK_exc {ns : List XN} {c : XN} {i : Nat} {fs : En → Fl} {n : XN} {fl : Option (Str × D)} : tryK ns c i fs k (.exc ⟨n, fl⟩ en) = (ns.elem n = true ∧ bi (subX n c) (freeAt en i = true ∧ okS fs (en.set i (.v (exD ⟨n, fl⟩))) fun o => goneK i k o) (k (.exc ⟨n, fl⟩ en))) := rfl
theorem os_try {ns : List XN} {c : XN} {i : Nat} {fb fs : En → Fl} : okS (tryF ns c i fb fs) en k = okS fb en fun o => tryK ns c i fs k o := by
  unfold okS tryF
  cases fb en with
  | exc e en1 =>
    dsimp only [tryK]
    cases h1 : ns.elem e.cls with
    | false => simp
    | true =>
      cases h2 : subX e.cls c with
      | false => simp [bi]
      | true =>
        cases h3 : freeAt en1 i with
        | false => simp [bi]
        | true =>
          simp only [bi_true, true_and, okS]
          cases fs (en1.set i (.v (exD e))) with
          | nx en2 => dsimp only [goneF, goneK]; cases freeAt en2 i <;> simp
          | bk en2 => dsimp only [goneF, goneK]; cases freeAt en2 i <;> simp
          | ct en2 => dsimp only [goneF, goneK]; cases freeAt en2 i <;> simp
          | rt r en2 =>
            cases r with
            | sh d => dsimp only [goneF, goneK]; cases freeAt en2 i <;> simp
            | fr d => rfl
            | sl d => rfl
          | exc e2 en2 => rfl
          | bad => rfl
  | _ => rfl
theorem os_endTr {ms : List Bool} {ns : List XN} {c : XN} {i : Nat} {fb fs : En → Fl} : okS (endF ms (tryF ns c i fb fs)) en k = okS (tryF ns c i fb fs) en fun o => endK ms k o := os_end
theorem exD_none {n : XN} : exD ⟨n, none⟩ = .exn n [] := rfl
theorem exD_some {n : XN} {f : Str} {d : D} : exD ⟨n, some (f, d)⟩ = .exn n [(f, d)] := rfl
theorem exF_none {n : XN} : excFlat ⟨n, none⟩ = true := rfl
theorem exF_some {n : XN} {f : Str} {d : D} : excFlat ⟨n, some (f, d)⟩ = flatD d := rfl
theorem isx_non {ns : List XN} {c : XN} : isxD ns c [.non] = some (false, .bl false) := rfl
theorem isxT_non {ns : List XN} {cs : List XN} : isxTD ns cs [.non] = some (false, .bl false) := rfl
theorem isv_non {ns : List XN} : isvD ns [.non] = some (false, .bl false) := rfl
variable {k2 : Bool × D → Prop}
theorem okL_isx {ns : List XN} {c m : XN} {fs : List (Str × D)} : okL (isxD ns c [.exn m fs]) k2 = (ns.elem m = true ∧ k2 (false, .bl (subX m c))) := by
  unfold isxD
  dsimp only
  generalize ns.elem m = b
  cases b <;> simp [okL]
theorem okL_isxT {ns : List XN} {cs : List XN} {m : XN} {fs : List (Str × D)} : okL (isxTD ns cs [.exn m fs]) k2 = (ns.elem m = true ∧ k2 (false, .bl (cs.any (subX m)))) := by
  unfold isxTD
  dsimp only
  generalize ns.elem m = b
  cases b <;> simp [okL]
theorem okL_isv {ns : List XN} {m : XN} {fs : List (Str × D)} : okL (isvD ns [.exn m fs]) k2 = (ns.elem m = true ∧ k2 (false, .bl true)) := by
  unfold isvD
  dsimp only
  generalize ns.elem m = b
  cases b <;> simp [okL]
theorem okL_fld {ns : List XN} {m : XN} {f : Str} {d : D} : okL (fldD ns f [.exn m [(f, d)]]) k2 = (ns.elem m = true ∧ k2 (false, d)) := by
  unfold fldD
  dsimp only
  generalize ns.elem m = b
  cases b <;> simp [okL]
theorem is_xn {n : Bool} {m : XN} {fs : List (Str × D)} : isOp n [.exn m fs, .non] = some (false, .bl (false != n)) := rfl
end
end PyD

section
set_option maxHeartbeats 4000000
namespace PyD
open PySem PySem.Spec L2 PyProof.Rows PySem.Froz
section
variable {P : Program} {w : World} {A : Around} {E : Value → Shared → Prop} {s : Shared}
end
end PyD

end

namespace PyD
open PySem PySem.Spec L2
def strUD : List D → Option (Bool × D)
  | [.int i] => if i.natAbs.log2 < 1920 then some (false, .str (toString i)) else none
  | [.str s] => some (false, .str s)
  | _ => none
theorem str_int {i : Int} : strUD [.int i] = if i.natAbs.log2 < 1920 then some (false, .str (toString i)) else none := rfl
theorem str_str {s : Str} : strUD [.str s] = some (false, .str s) := rfl
def chkF (c : D → Bool) (f : M R) : M R := fun en => match f en with
  | .ok r en1 => (match rsl en1 r with
    | some d => (match c d with
      | true => .ok r en1
      | false => .bad)
    | none => .bad)
  | .exc x en1 => .exc x en1
  | .bad => .bad
section
variable {K : PySem.W.Frag} {W : WX} {σ : L2.St} {H : Hp} {Q : VK}
end
def isI : D → Bool
  | .int i => decide (i.natAbs.log2 < 1920) && decide ((toString i : Str).length ≤ 1000000)
  | _ => false
theorem ok_chk {c : D → Bool} {f : M R} {en : En} {k : R → En → Prop} {x : Ex → En → Prop} : okE (chkF c f) en k x = okE f en (fun r en1 => okL (rsl en1 r) fun d => c d = true ∧ k r en1) x := by
  unfold okE chkF
  cases f en with
  | ok r en1 =>
    dsimp only
    unfold okL
    cases rsl en1 r with
    | none => rfl
    | some d =>
      dsimp only
      cases c d <;> simp
  | exc x en1 => rfl
  | bad => rfl
theorem isI_int {i : Int} : isI (.int i) = (decide (i.natAbs.log2 < 1920) && decide ((toString i : Str).length ≤ 1000000)) := rfl
end PyD

namespace PyD
open PySem PySem.Spec L2
structure OCl (K : PySem.W.Frag) (n : ON) (C : Addr) : Prop where
  nm : ClsO K n C
  cl : Cls K C
def isObj (n : ON) (m : Str) : D → Bool
  | .obj k fs => decide (k = n) && (fs.lookup m).isNone
  | .ow (.obj k fs) => decide (k = n) && (fs.lookup m).isNone
  | _ => false
def methF (n : ON) (m : Str) (io : List Bool) (φ : List D → Out) (fo : M R) (fs : M (List R)) : M R := callF io φ (consF (chkF (isObj n m) fo) fs)
section
variable {X : Cx} {pins : List (Addr × Obj)} {σ : L2.St} {H : Hp} {s : Shared} {CX : CXT} {k : Nat} {f C : Addr} {fd : FuncData} {ps : List Str} {sp : Sp} {E : L2.St → XK} {m : Str} {pos apos : Pos} {e o : Expr} {es : List Expr} {ta : TE} {t : TA}
end
theorem RepF.none {K : PySem.W.Frag} {U : Addr → Prop} {H : Hp} {f : Str} : ∀ {fs : List (Str × D)} {ws : List (Str × V)}, RepF K U H fs ws → fs.lookup f = Option.none → ws.lookup f = Option.none
  | [], _, r, _ => by
    unfold RepF at r
    rw [r]
    rfl
  | (g, d1) :: fs, ws, r, e => by
    unfold RepF at r
    obtain ⟨v, s, rfl, h1, h2⟩ := r
    rw [List.lookup_cons] at e ⊢
    cases q : f == g with
    | true => rw [q] at e; cases e
    | false =>
      rw [q] at e
      exact RepF.none h2 e
def fldoD (n : ON) (f : Str) : List D → Option (Bool × D)
  | [.obj k fs] => if k = n then (fs.lookup f).map fun d => (false, d) else none
  | _ => none
def putFD (f : Str) (d : D) : List (Str × D) → List (Str × D)
  | [] => [(f, d)]
  | (g, x) :: r => if g = f then (g, d) :: r else (g, x) :: putFD f d r
theorem RepF.put {K : PySem.W.Frag} {U : Addr → Prop} {H : Hp} {f : Str} {d : D} {v : V} (hv : Rep K U H d v) : ∀ {fs : List (Str × D)} {ws : List (Str × V)}, RepF K U H fs ws → RepF K U H (putFD f d fs) (putF f v ws)
  | [], ws, r => by
    unfold RepF at r
    subst r
    show RepF K U H [(f, d)] [(f, v)]
    unfold RepF
    exact ⟨v, [], rfl, hv, by unfold RepF; rfl⟩
  | (g, x) :: fs, ws, r => by
    unfold RepF at r
    obtain ⟨u, s, rfl, h1, h2⟩ := r
    unfold putFD putF
    by_cases q : g = f
    · rw [if_pos q, if_pos q]
      unfold RepF
      exact ⟨v, s, rfl, hv, h2⟩
    · rw [if_neg q, if_neg q]
      unfold RepF
      exact ⟨u, _, rfl, h1, RepF.put hv h2⟩
theorem RepF.len {K : PySem.W.Frag} {U : Addr → Prop} {H : Hp} : ∀ {fs : List (Str × D)} {ws : List (Str × V)}, RepF K U H fs ws → ws.length = fs.length
  | [], ws, r => by
    unfold RepF at r
    rw [r]
    rfl
  | (g, x) :: fs, ws, r => by
    unfold RepF at r
    obtain ⟨u, s, rfl, h1, h2⟩ := r
    rw [List.length_cons, List.length_cons, RepF.len h2]
def fldS (i : Nat) (n : ON) (f : Str) (fv : M R) : En → Fl := fun en => match fv en with
  | .ok r en1 => (match stoD r with
    | some d => (match en1[i]? with
      | some (.o b (.obj k fs)) => if k = n ∧ fs.length < 1000 then .nx (en1.set i (.o b (.obj k (putFD f d fs)))) else .bad
      | _ => .bad)
    | none => .bad)
  | .exc x en1 => .exc x en1
  | .bad => .bad
section
variable {K : PySem.W.Frag} {W : WX} {σ : L2.St} {H : Hp} {Q : VK} {D0 : Ends} {i : Nat}
end
def mkF (n : ON) (φ : List D → Out) : M R := fun en => match φ [.obj n []] with
  | .ret _ .non [.obj k fs] => .ok (.fr (.obj k fs)) en
  | _ => .bad
end PyD

namespace PyD
open PySem PySem.Spec L2
section
variable {en : En} {k : R → En → Prop} {x : Ex → En → Prop} {ks : Fl → Prop}
theorem ok_meth {n : ON} {m : Str} {io : List Bool} {φ : List D → Out} {fo : M R} {fs : M (List R)} : okE (methF n m io φ fo fs) en k x = okE (callF io φ (consF (chkF (isObj n m) fo) fs)) en k x := rfl
def mkK (en : En) (k : R → En → Prop) (o : Out) (_ : Tg k := ⟨⟩) : Prop := match o with
  | .ret _ .non [.obj k1 fs] => k (.fr (.obj k1 fs)) en
  | _ => False
theorem mkK_obj {b : Bool} {n : ON} {fs : List (Str × D)} : mkK en k (.ret b .non [.obj n fs]) = k (.fr (.obj n fs)) en := rfl
theorem ok_mk {n : ON} {φ : List D → Out} : okE (mkF n φ) en k x = okO (φ [.obj n []]) fun o => mkK en k o := by
  unfold okE mkF okO mkK
  cases φ [.obj n []] with
  | bad => rfl
  | exc y outs => rfl
  | ret b d outs =>
    cases d with
    | non =>
      cases outs with
      | nil => rfl
      | cons o r =>
        cases r with
        | nil => cases o <;> rfl
        | cons _ _ => cases o <;> rfl
    | _ => rfl
def fldK (i : Nat) (n : ON) (f : Str) (en1 : En) (d : D) (k : Fl → Prop) (o : Option Sl) (_ : Tg k := ⟨⟩) : Prop := match o with
  | some (.o b (.obj k1 fs)) => (k1 = n ∧ fs.length < 1000) ∧ k (.nx (en1.set i (.o b (.obj k1 (putFD f d fs)))))
  | _ => False
theorem fldK_o {i : Nat} {n k1 : ON} {f : Str} {d : D} {b : Bool} {fs : List (Str × D)} : fldK i n f en d ks (some (.o b (.obj k1 fs))) = ((k1 = n ∧ fs.length < 1000) ∧ ks (.nx (en.set i (.o b (.obj k1 (putFD f d fs)))))) := rfl
theorem os_fld {i : Nat} {n : ON} {f : Str} {fv : M R} : okS (fldS i n f fv) en ks = okE fv en (fun r en1 => okL (stoD r) fun d => fldK i n f en1 d ks en1[i]?) fun e en => ks (.exc e en) := by
  unfold okE okS fldS
  cases fv en with
  | bad => rfl
  | exc e en1 => rfl
  | ok r en1 =>
    dsimp only
    unfold okL
    cases stoD r with
    | none => rfl
    | some d =>
      dsimp only
      unfold fldK
      cases en1[i]? with
      | none => rfl
      | some s =>
        cases s with
        | e => rfl
        | v _ => rfl
        | o b d0 =>
          cases d0 with
          | obj k1 fs =>
            dsimp only
            by_cases h : k1 = n ∧ fs.length < 1000
            · rw [if_pos h]; simp [h]
            · rw [if_neg h]; simp [h]
          | _ => rfl
theorem os_endFl {ms : List Bool} {i : Nat} {n : ON} {f : Str} {fv : M R} : okS (endF ms (fldS i n f fv)) en ks = okS (fldS i n f fv) en fun o => endK ms ks o := os_end
theorem is_on {n : Bool} {m : ON} {fs : List (Str × D)} : isOp n [.obj m fs, .non] = some (false, .bl (false != n)) := rfl
end
theorem gro0 {s : D} : putFD "signs" s [] = [(("signs" : Str), s)] := rfl
theorem gro1 {s n : D} : putFD "number" n [(("signs" : Str), s)] = [(("signs" : Str), s), (("number" : Str), n)] := rfl
theorem gro2 {s n t : D} : putFD "signs" t [(("signs" : Str), s), (("number" : Str), n)] = [(("signs" : Str), t), (("number" : Str), n)] := rfl
theorem gro3 {s n t : D} : putFD "number" t [(("signs" : Str), s), (("number" : Str), n)] = [(("signs" : Str), s), (("number" : Str), t)] := rfl
theorem gro_s {s n : D} : fldoD .growing "signs" [.obj .growing [(("signs" : Str), s), (("number" : Str), n)]] = some (false, s) := rfl
theorem gro_n {s n : D} : fldoD .growing "number" [.obj .growing [(("signs" : Str), s), (("number" : Str), n)]] = some (false, n) := rfl
theorem isg_put {s n : D} : isObj .growing "put" (.obj .growing [(("signs" : Str), s), (("number" : Str), n)]) = true := rfl
theorem isg_text {s n : D} : isObj .growing "text" (.obj .growing [(("signs" : Str), s), (("number" : Str), n)]) = true := rfl
theorem isg_many {s n : D} : isObj .growing "many" (.obj .growing [(("signs" : Str), s), (("number" : Str), n)]) = true := rfl
theorem isg_parts {s n : D} : isObj .growing "parts" (.obj .growing [(("signs" : Str), s), (("number" : Str), n)]) = true := rfl
theorem isg_pins {s n : D} : isObj .growing "pins" (.obj .growing [(("signs" : Str), s), (("number" : Str), n)]) = true := rfl
theorem isg_bound {s n : D} : isObj .growing "bound" (.obj .growing [(("signs" : Str), s), (("number" : Str), n)]) = true := rfl
end PyD

namespace PyD
open PySem PySem.Spec L2
end PyD

section
set_option maxHeartbeats 4000000
namespace PyD
open PySem PySem.Spec L2 PyProof.Rows
theorem draws_str {prog : Program} {w : World} {A : Around} (hh : A.handled = none) (it : Addr) (x : Str) (t : Tok) :
    Draws prog w A it [it] x.cps.size (fun i v => ∃ c u, x.cps[i]? = some c ∧ v = .str ⟨#[c]⟩ u) (fun i h => h.IsStrIter it (strIterType x) x t i) := by
  unfold strIterType
  split
  · exact Draws.strAscii hh it x t
  · exact Draws.strWide hh it x t
theorem done_enumS {prog : Program} {w : World} {A : Around} {E : Value → Shared → Prop} {s : Shared} {e it : Addr} {i : Nat} {x : Str} {t : Tok} {old : Value} {Q : Option Value → Shared → Prop} (hh : A.handled = none)
    (he : IsEnum s.heap e it i old) (hit : s.heap.IsStrIter it (strIterType x) x t i) (hx : x.cps[i]? = none)
    (q : ∀ g, Heap.ExtBut it s.heap g → Q none { s with heap := g }) : wpAny (model prog w) A (pyNext (.ref e)) Q E s := by
  have hh1 : A.in1.handled = none := by simp [hh]
  have D : Draws prog w A.in1 it [it] i (fun _ _ => True) (fun j h => j = i ∧ h.IsStrIter it (strIterType x) x t i) :=
    { live := fun _ _ st => let ⟨o, ho, _⟩ := st.2; ⟨o, ho⟩
      frame := fun _ _ _ st hk => let ⟨e, o, ho, r⟩ := st; ⟨e, o, hk it (by simp) o ho, r⟩
      item := fun j s Q E hj st hQ => absurd st.1 (Nat.ne_of_lt hj)
      done := fun s Q E st hE => by
        have st := st.2
        unfold strIterType at st
        split at st
        · exact wpAny_nextOf_ascii_end hh1 st hx hE
        · exact wpAny_nextOf_wide_end hh1 st hx hE }
  exact wpAny_pyNext_enum_endD D he ⟨rfl, hit⟩ q
def IteS (x : Str) : It :=
  ⟨fun i _ => i < x.cps.size, fun i H v H' => ∃ T c, v = .ref T ∧ H T = none ∧ H' = upd H T (.tup [.int (i : Nat), .str ⟨#[c]⟩]) ∧ x.cps[i]? = some c, fun i _ => x.cps.size ≤ i⟩
theorem turn_enumS {P : Program} {w : World} {K : PySem.W.Frag} {elts : List Expr} {kk : Nat} {tpos : Pos} (x : Str) (t : Tok) (e it : Addr) :
    Turn P w K (.Tuple elts kk tpos) (IteS x) [e, it] e (fun i h => (∃ old, IsEnum h e it ((i : Nat) : Int) old) ∧ h.IsStrIter it (strIterType x) x t i ∧ e ≠ it) where
  mem := by simp
  obj := fun i h st b hb => by
    obtain ⟨⟨old, he⟩, ⟨o, ho, hc, hd⟩, _⟩ := st
    have e' : b = e ∨ b = it := by simpa using hb
    rcases e' with z | z
    · rw [z]; exact ⟨_, he, fun v q => nomatch q⟩
    · rw [z]; exact ⟨o, ho, fun v q => by rw [hd] at q; cases q⟩
  keep := fun i h h' st k => let ⟨⟨old, he⟩, hi, hne⟩ := st; ⟨⟨old, k e (by simp) _ he⟩, let ⟨o, ho, r⟩ := hi; ⟨o, k it (by simp) o ho, r⟩, hne⟩
  item := by
    intro X hP hw hK hc i pins s σ H E I hf st hg
    subst hP hw hK
    obtain ⟨⟨old, he⟩, hit, hne⟩ := st
    have hel : e < s.heap.objs.size := Heap.lt_size he
    have hil : it < s.heap.objs.size := by obtain ⟨_, q, _⟩ := hit; exact Heap.lt_size q
    have hh : X.A.in1.handled = none := by
      have := I.ok.hd hc
      simp [this]
    refine wpAny_pyNext_enum_itemD (draws_str (prog := X.prog) (w := X.w) hh it x t) he hit hg hne (fun z => hne (List.mem_singleton.mp z)) fun y h' tk hy ho st' hT hsz hk => ?_
    obtain ⟨c, u, hcx, rfl⟩ := hy
    refine ⟨_, rfl, wpAny_letOwnedTupleGo_enum (s := { s with heap := h', toks := tk + 1 }) ho fun h'' he' sb => ?_⟩
    have hT2 : h''.get? s.heap.objs.size = some { cls := .type "tuple", data := .seq #[.int i tk, .str ⟨#[c]⟩ u] } := (sb.2 _ (Nat.ne_of_gt hel)).trans hT
    have new : ObjOk X.prog X.w (upd H s.heap.objs.size (.tup [.int (i : Nat), .str ⟨#[c]⟩])) h'' s.heap.objs.size (.tup [.int (i : Nat), .str ⟨#[c]⟩]) :=
      ⟨by show 2 ≤ sizeLine; decide, [.int i tk, .str ⟨#[c]⟩ u], .cons ⟨_, rfl⟩ (.cons ⟨_, rfl⟩ .nil), ⟨_, hT2, rfl, _, rfl⟩⟩
    have I1 : Inv X pins σ (upd H s.heap.objs.size (.tup [.int (i : Nat), .str ⟨#[c]⟩])) { s with heap := h'', toks := tk + 1 } :=
      I.turnedNew (ch := [e, it]) (fun b ob hb q => (sb.2 b (fun z => hb (by simp [z]))).trans (hk b ob (fun z => hb (by simp [z])) (fun z => hb (by simp [z])) q)) hf (Nat.le_refl _) new
    refine ⟨.ref s.heap.objs.size, _, I1, rfl, ⟨_, c, rfl, I.hok.fresh (Nat.le_refl _), rfl, hcx⟩, ⟨⟨.str ⟨#[c]⟩ u, ?_⟩, (let ⟨o, ho, r⟩ := st'; ⟨o, (sb.2 it (Ne.symm hne)).trans ho, r⟩), hne⟩, fun b hb => ?_⟩
    · rw [show ((i + 1 : Nat) : Int) = (i : Int) + 1 by omega]; exact he'
    · have hb' : b < s.heap.objs.size := by
        have e' : b = e ∨ b = it := by simpa using hb
        rcases e' with z | z
        · rw [z]; exact hel
        · rw [z]; exact hil
      rw [upd_ne (Nat.ne_of_lt hb')]
      exact (hf b hb).1
  done := by
    intro X hP hw hK hc i pins s σ H E I hf st hg
    subst hP hw hK
    obtain ⟨⟨old, he⟩, hit, hne⟩ := st
    obtain ⟨f0, f1, f2, f3, f4, f5⟩ := hf it (by simp)
    exact done_enumS (I.ok.hd hc) he hit (Array.getElem?_eq_none hg) fun h' eb => ⟨rfl, I.turned (t' := s.toks) (fun b o hb q => eb b o hb q) f0 f1 f3 f4 f5⟩
  self := fun A i s Q E st h => let ⟨⟨_, he⟩, _⟩ := st; wpAny_pyIter_enum he h
def iEnumS (K : PySem.W.Frag) (ta : TA) : TI := fun σ H R => ta σ H fun vs H1 => ∃ x, vs = [.str x] ∧ R (IteS x) H1
theorem pi_enumS {X : Cx} {e : Expr} {ta : TA} {p pos tpos : Pos} {elts : List Expr} {kk : Nat} (hg : Gl X "enumerate") (hm : X.mg "enumerate" = none) (ha : PA X [e] ta) (hs : starEach [e] X.env = [(false, eval e X.env)] := by rfl) :
    PI X (.Tuple elts kk tpos) (.Call (.Name "enumerate" p) [e] [] pos) (iEnumS X.K ta) := by
  refine ⟨fun pins s σ H R I h => ?_⟩
  refine Call_ (ld_blt I hg hm boot_enumerate (PyProof.Rows.callWith_type1 (thn (ha.run pos pins s σ H _ I h) fun us s1 ⟨vs, H1, I1, r1, q1⟩ => ?_) hs rfl))
  obtain ⟨x, rfl, q⟩ := q1
  have two : ∀ b, b ∈ [s1.heap.objs.size + 1, s1.heap.objs.size] → s1.heap.objs.size ≤ b := fun b hb => by
    have e' : b = s1.heap.objs.size + 1 ∨ b = s1.heap.objs.size := by simpa using hb
    rcases e' with z | z
    · rw [z]; exact Nat.le_add_right _ _
    · rw [z]; exact Nat.le_refl _
  cases r1 with
  | cons r rr =>
    cases rr
    obtain ⟨t, rfl⟩ := r
    refine call_enumerate_str fun g he hit hsz hk => wpAny_pyIter_enum he ?_
    exact ⟨s1.heap.objs.size + 1, [s1.heap.objs.size + 1, s1.heap.objs.size], _, _, H1, rfl, I1.kept (t' := s1.toks) hk, turn_enumS x t (s1.heap.objs.size + 1) s1.heap.objs.size, ⟨⟨.none, he⟩, hit, Nat.succ_ne_self _⟩, fun b hb => I1.fpOk (two b hb) (I1.hok.fresh (two b hb)), q⟩
theorem wd_enumS {K : PySem.W.Frag} {U : Addr → Prop} {H : Hp} {z : Str} : WalkD K U H (IteS z) (enumL (sgnL z)) where
  go := fun i H1 k hi => by
    show i < z.cps.size
    simpa [enumL, sgnL] using hi
  stop := fun H1 k => by show z.cps.size ≤ _; simp [enumL, sgnL]
  yld := fun i H1 x H2 d k e y => by
    obtain ⟨T, c, rfl, hT, rfl, y⟩ := y
    obtain ⟨d0, e0, rfl⟩ := enumL_get e
    rw [sgnL, List.getElem?_map, Array.getElem?_toList, y] at e0
    cases e0
    exact ⟨ext_new hT, fun U1 h1 h2 => pair_rep hT h2 repInt (by simp [Rep])⟩
def enumSD : List D → Option (List D)
  | [.str z] => some (enumL (sgnL z))
  | _ => none
def rEnumS (K : PySem.W.Frag) : List V → Hp → (It → Hp → Prop) → Prop := fun vs H1 R => ∃ x, vs = [.str x] ∧ R (IteS x) H1
theorem prim_enumS {K : PySem.W.Frag} : PrimI K (rEnumS K) enumSD := by
  intro U H ds vs out Rr hU rl e q
  unfold enumSD at e
  split at e
  · obtain ⟨v, rfl, r⟩ := rl1 rl
    unfold Rep at r
    cases e
    exact ⟨_, by rw [r], q _ wd_enumS⟩
  · cases e
theorem i_enumS {X : Cx} {W : WX} {e : Expr} {fs : M (List R)} {p pos tpos : Pos} {elts : List Expr} {kk : Nat} (hg : Gl X "enumerate") (hm : X.mg "enumerate" = none) (ha : PA X [e] (RdA X.K W fs)) (hs : starEach [e] X.env = [(false, eval e X.env)] := by rfl) :
    PI X (.Tuple elts kk tpos) (.Call (.Name "enumerate" p) [e] [] pos) (RdI X.K W (itA enumSD fs)) :=
  pi_imp (pi_enumS hg hm ha hs) fun σ H Rr m => itAImp prim_enumS m
theorem enum_tx {l : List Nat} : enumSD [.str (tx l)] = some (enumL (l.map fun c => .str (tx [c]))) := by
  simp only [enumSD, sgnL, tx_list]
  rfl
end PyD

end

namespace PyD
open PySem PySem.Spec L2
section
variable {K : PySem.W.Frag} {W : WX} {B B' B1 B2 S T : Addr → Prop} {U U' : Addr → Prop} {H H' H1 H2 : Hp} {σ σ' σ1 σx : L2.St} {en en' en1 enx eA eB : En} {d d0 d1 c : D} {v : V} {i : Nat} {p q : Addr} {b : Bool}
theorem own_append (hl : σ.length = en.length) {a : Addr} : Own H (σ ++ σx) (en ++ enx) a ↔ Own H σ en a ∨ Own H σx enx a := by
  constructor
  · rintro ⟨i, b, d, p, e, s, r⟩
    by_cases hi : i < en.length
    · rw [List.getElem?_append_left hi] at e
      rw [List.getElem?_append_left (by omega)] at s
      exact .inl ⟨i, b, d, p, e, s, r⟩
    · rw [List.getElem?_append_right (by omega)] at e
      rw [List.getElem?_append_right (by omega), hl] at s
      exact .inr ⟨i - en.length, b, d, p, e, s, r⟩
  · rintro (⟨i, b, d, p, e, s, r⟩ | ⟨i, b, d, p, e, s, r⟩)
    · exact ⟨i, b, d, p, get_app e, get_app s, r⟩
    · refine ⟨en.length + i, b, d, p, ?_, ?_, r⟩
      · rw [List.getElem?_append_right (by omega), Nat.add_sub_cancel_left]; exact e
      · rw [List.getElem?_append_right (by omega), hl, Nat.add_sub_cancel_left]; exact s
theorem Good.push (G : Good K B' H σ en) (up : ∀ a, B a → B' a) (hp : ∀ a, Rch H c q a → B' a) (nb : ∀ a, Rch H c q a → ¬ B a) (hc : Cont K (Un B' H σ en) H c q) : Good K B H (σ ++ [some (.ref q)]) (en ++ [.o b c]) := by
  have G1 := G.app 1
  have un : ∀ a, Un B' H (σ ++ List.replicate 1 none) (en ++ List.replicate 1 .e) a → Un B' H σ en a := fun a h => h.imp id (own_app G.len)
  have G2 := Good.set_o (i := en.length) (fb := b) G1 up (by simp) hp nb (Cont.to (fun a o x n => ⟨x, fun z => n (un a z)⟩) (fun _ _ _ x => x) hc)
  have e1 : (σ ++ List.replicate 1 none).set en.length (some (.ref q)) = σ ++ [some (.ref q)] := by
    rw [← G.len, List.set_append_right _ _ (Nat.le_refl _)]
    simp
  have e2 : (en ++ List.replicate 1 Sl.e).set en.length (.o b c) = en ++ [.o b c] := by
    rw [List.set_append_right _ _ (Nat.le_refl _)]
    simp
  rw [e1, e2] at G2
  exact G2
structure Hid (K : PySem.W.Frag) (B : Addr → Prop) (H : Hp) (σ : L2.St) (en : En) (i : Nat) (b : Bool) (d0 : D) (p : Addr) (S : Addr → Prop) (σx : L2.St) (enx : En) : Prop where
  G : Good K B H σ en
  e : en[i]? = some (.o b d0)
  s : σ[i]? = some (some (.ref p))
  lx : σx.length = enx.length
  bb : ∀ (j : Nat) (bj : Bool) (dj : D), enx[j]? = some (.o bj dj) → bj = b
  rc : ∀ a, Rch H d0 p a ↔ S a ∨ Own H σx enx a
  gh : Good K (fun a => B a ∨ S a) H (σ ++ σx) (en.set i .e ++ enx)
variable (h : Hid K B H σ en i b d0 p S σx enx)
theorem Hid.len0 (h : Hid K B H σ en i b d0 p S σx enx) : σ.length = (en.set i .e).length := by rw [List.length_set]; exact h.G.len
theorem Hid.nb (h : Hid K B H σ en i b d0 p S σx enx) {a : Addr} (hs : S a) : ¬ B a := fun z => h.G.ownNB ⟨i, b, d0, p, h.e, h.s, (h.rc a).mpr (.inl hs)⟩ z
theorem Hid.own (h : Hid K B H σ en i b d0 p S σx enx) {a : Addr} (z : Own H (σ ++ σx) (en.set i .e ++ enx) a) : Own H σ en a := by
  rcases (own_append h.len0).mp z with z | z
  · exact own_set_e z
  · exact ⟨i, b, d0, p, h.e, h.s, (h.rc a).mpr (.inr z)⟩
theorem Hid.un (h : Hid K B H σ en i b d0 p S σx enx) {a : Addr} (z : Un (fun a => B a ∨ S a) H (σ ++ σx) (en.set i .e ++ enx) a) : Un B H σ en a := by
  rcases z with (z | z) | z
  · exact .inl z
  · exact .inr ⟨i, b, d0, p, h.e, h.s, (h.rc a).mpr (.inl z)⟩
  · exact .inr (h.own z)
theorem Hid.to (h : Hid K B H σ en i b d0 p S σx enx) : ∀ a o, H a = some o → ¬ Un B H σ en a → H a = some o ∧ ¬ Un (fun a => B a ∨ S a) H (σ ++ σx) (en.set i .e ++ enx) a := fun a o x n => ⟨x, fun z => n (h.un z)⟩
structure Unh (K : PySem.W.Frag) (H : Hp) (σ : L2.St) (en : En) (i : Nat) (b : Bool) (p : Addr) (S : Addr → Prop) (σx : L2.St) (enx : En) (B2 : Addr → Prop) (H2 : Hp) (eA eB : En) (d1 : D) : Prop where
  bx : ∀ a, S a → B2 a
  g2 : Good K B2 H2 (σ ++ σx) (eA ++ eB)
  st : Stp (σ ++ σx) (en.set i .e ++ enx) H (σ ++ σx) (eA ++ eB) H2
  la : eA.length = en.length
  lb : eB.length = enx.length
  bb : ∀ (j : Nat) (bj : Bool) (dj : D), eB[j]? = some (.o bj dj) → bj = b
  rc : ∀ a, Rch H2 d1 p a ↔ S a ∨ Own H2 σx eB a
  ct : Cont K (Un (fun a => B2 a ∨ Own H2 σx eB a) H2 σ eA) H2 d1 p
theorem Unh.l0 (h : Hid K B H σ en i b d0 p S σx enx) (u : Unh K H σ en i b p S σx enx B2 H2 eA eB d1) : σ.length = eA.length := by rw [u.la]; exact h.G.len
theorem Unh.own (h : Hid K B H σ en i b d0 p S σx enx) (u : Unh K H σ en i b p S σx enx B2 H2 eA eB d1) {a : Addr} (z : Own H2 σ (eA.set i (.o b d1)) a) : S a ∨ Own H2 (σ ++ σx) (eA ++ eB) a := by
  obtain ⟨j, b', d', p', e, s, r⟩ := z
  rcases set_get e with ⟨ej, q, _⟩ | ⟨_, q⟩
  · subst ej
    cases q
    rw [h.s] at s
    cases s
    rcases (u.rc a).mp r with z | z
    · exact .inl z
    · exact .inr ((own_append (u.l0 h)).mpr (.inr z))
  · exact .inr ((own_append (u.l0 h)).mpr (.inl ⟨j, b', d', p', q, s, r⟩))
theorem Unh.un (h : Hid K B H σ en i b d0 p S σx enx) (u : Unh K H σ en i b p S σx enx B2 H2 eA eB d1) {a : Addr} (z : Un (fun a => B2 a ∧ ¬ S a) H2 σ (eA.set i (.o b d1)) a) : Un B2 H2 (σ ++ σx) (eA ++ eB) a := by
  rcases z with z | z
  · exact .inl z.1
  · rcases u.own h z with z | z
    · exact .inl (u.bx a z)
    · exact .inr z
end
end PyD

namespace PyD
open PySem PySem.Spec L2
inductive Sel where
  | ix (k : Nat) | fd (f : Str)
def chD : D → Sel → Option D
  | .lst ds, .ix k => match ds[k]? with
    | some (.ow c) => some c
    | _ => none
  | .obj _ fs, .fd f => match fs.lookup f with
    | some (.ow c) => some c
    | _ => none
  | _, _ => none
def putC : D → Sel → D → D
  | .lst ds, .ix k, c => .lst (ds.set k c)
  | .obj n fs, .fd f, c => .obj n (putFD f c fs)
  | d, _, _ => d
def chV (H : Hp) (p : Addr) : Sel → V → Prop
  | .ix k, v => ∃ vs, H p = some (.lst vs) ∧ vs[k]? = some v
  | .fd f, v => ∃ C dx ws, H p = some (.ins C dx ws) ∧ ws.lookup f = some v
section
variable {K : PySem.W.Frag} {U U' U2 : Addr → Prop} {H H' H2 : Hp} {p q : Addr} {c c' d : D} {v : V}
theorem ConL.split : ∀ {ds : List D} {vs : List V} {k : Nat}, ConL K U H p ds vs → ds[k]? = some (.ow c) → ∃ q, vs[k]? = some (.ref q) ∧ Con K U H c q ∧ ∀ a, Rch H c q a → RcL H ds vs a ∧ a ≠ p
  | [], vs, k, _, e => by cases e
  | d :: ds, vs, 0, h, e => by
    cases e
    unfold ConL at h
    obtain ⟨v, us, rfl, h1, h2, h3⟩ := h
    unfold ConV at h1
    obtain ⟨q, rfl, h1⟩ := h1
    refine ⟨q, rfl, h1, fun a r => ?_⟩
    have rv : RcV H (.ow c) (.ref q) a := by unfold RcV; exact ⟨q, rfl, r⟩
    exact ⟨by unfold RcL; exact ⟨_, _, rfl, .inl rv⟩, (h3 a rv).1⟩
  | d :: ds, vs, k + 1, h, e => by
    unfold ConL at h
    obtain ⟨v, us, rfl, h1, h2, h3⟩ := h
    obtain ⟨q, e1, c1, r1⟩ := ConL.split (k := k) h2 e
    exact ⟨q, e1, c1, fun a r => ⟨by unfold RcL; exact ⟨_, _, rfl, .inr (r1 a r).1⟩, (r1 a r).2⟩⟩
theorem ConF.split {f : Str} : ∀ {ds : List (Str × D)} {vs : List (Str × V)}, ConF K U H p ds vs → ds.lookup f = some (.ow c) → ∃ q, vs.lookup f = some (.ref q) ∧ Con K U H c q ∧ ∀ a, Rch H c q a → RcF H ds vs a ∧ a ≠ p
  | [], vs, _, e => by cases e
  | (g, d) :: ds, vs, h, e => by
    unfold ConF at h
    obtain ⟨v, us, rfl, h1, h2, h3⟩ := h
    rw [List.lookup_cons] at e ⊢
    cases z : f == g with
    | true =>
      rw [z] at e
      cases e
      unfold ConV at h1
      obtain ⟨q, rfl, h1⟩ := h1
      refine ⟨q, rfl, h1, fun a r => ?_⟩
      have rv : RcV H (.ow c) (.ref q) a := by unfold RcV; exact ⟨q, rfl, r⟩
      exact ⟨by unfold RcF; exact ⟨_, _, _, rfl, .inl rv⟩, (h3 a rv).1⟩
    | false =>
      rw [z] at e
      obtain ⟨q, e1, c1, r1⟩ := ConF.split h2 e
      exact ⟨q, e1, c1, fun a r => ⟨by unfold RcF; exact ⟨_, _, _, rfl, .inr (r1 a r).1⟩, (r1 a r).2⟩⟩
theorem ConL.join {x' : D} (t : ∀ a o, H a = some o → ¬ U a → H2 a = some o ∧ ¬ U2 a) : ∀ {ds : List D} {vs : List V} {k : Nat}, ConL K U H p ds vs → ds[k]? = some (.ow c) → vs[k]? = some (.ref q) → (∀ a o, RcL H ds vs a → ¬ Rch H c q a → H a = some o → H2 a = some o) → ConV K U2 H2 x' (.ref q) → (∀ a, RcV H2 x' (.ref q) a → a ≠ p ∧ ¬ (RcL H ds vs a ∧ ¬ Rch H c q a)) →
    ConL K U2 H2 p (ds.set k x') vs ∧ ∀ a, RcL H2 (ds.set k x') vs a ↔ (RcL H ds vs a ∧ ¬ Rch H c q a) ∨ RcV H2 x' (.ref q) a
  | [], vs, k, _, e, _, _, _, _ => by cases e
  | d :: ds, vs, 0, h, e, ev, kp, c2, dj => by
    cases e
    unfold ConL at h
    obtain ⟨v, us, rfl, h1, h2, h3⟩ := h
    cases ev
    have rv : ∀ a, RcV H (.ow c) (.ref q) a ↔ Rch H c q a := fun a => by
      unfold RcV
      exact ⟨fun ⟨q', e, r⟩ => by cases e; exact r, fun r => ⟨q, rfl, r⟩⟩
    have rest : ∀ a, RcL H ds us a → ¬ Rch H c q a := fun a r z => (h3 a ((rv a).mpr z)).2 r
    have inl : ∀ {a}, RcL H ds us a → RcL H (.ow c :: ds) (.ref q :: us) a := fun {a} r => by unfold RcL; exact ⟨_, _, rfl, .inr r⟩
    have k2 : ∀ a o, RcL H ds us a → H a = some o → H2 a = some o := fun a o r => kp a o (inl r) (rest a r)
    have cl := ConL.to t h2 k2
    have rl := ConL.rcl h2 k2
    rw [List.set_cons_zero]
    refine ⟨?_, fun a => ?_⟩
    · unfold ConL
      exact ⟨_, _, rfl, c2, cl, fun a r => ⟨(dj a r).1, fun z => (dj a r).2 ⟨inl ((rl a).mp z), rest a ((rl a).mp z)⟩⟩⟩
    · constructor
      · intro r
        unfold RcL at r
        obtain ⟨v', us', e', r⟩ := r
        cases e'
        rcases r with r | r
        · exact .inr r
        · exact .inl ⟨inl ((rl a).mp r), rest a ((rl a).mp r)⟩
      · rintro (⟨r, n⟩ | r)
        · unfold RcL at r ⊢
          obtain ⟨v', us', e', r⟩ := r
          cases e'
          refine ⟨_, _, rfl, ?_⟩
          rcases r with r | r
          · exact absurd ((rv a).mp r) n
          · exact .inr ((rl a).mpr r)
        · unfold RcL
          exact ⟨_, _, rfl, .inl r⟩
  | d :: ds, vs, k + 1, h, e, ev, kp, c2, dj => by
    unfold ConL at h
    obtain ⟨v, us, rfl, h1, h2, h3⟩ := h
    have ev' : us[k]? = some (.ref q) := ev
    have e' : ds[k]? = some (.ow c) := e
    obtain ⟨q', eq', _, sp⟩ := ConL.split h2 e'
    rw [ev'] at eq'
    cases eq'
    have inl : ∀ {a}, RcL H ds us a → RcL H (d :: ds) (v :: us) a := fun {a} r => by unfold RcL; exact ⟨_, _, rfl, .inr r⟩
    have inv : ∀ {a}, RcV H d v a → RcL H (d :: ds) (v :: us) a := fun {a} r => by unfold RcL; exact ⟨_, _, rfl, .inl r⟩
    have hd : ∀ a, RcV H d v a → ¬ Rch H c q a := fun a r z => (h3 a r).2 (sp a z).1
    obtain ⟨j1, j2⟩ := ConL.join (x' := x') t h2 e' ev' (fun a o r => kp a o (inl r)) c2 (fun a r => ⟨(dj a r).1, fun z => (dj a r).2 ⟨inl z.1, z.2⟩⟩)
    have kv : ∀ a o, RcV H d v a → H a = some o → H2 a = some o := fun a o r => kp a o (inv r) (hd a r)
    have cv := ConV.to t h1 kv
    have rv := ConV.rcv h1 kv
    rw [List.set_cons_succ]
    refine ⟨?_, fun a => ?_⟩
    · unfold ConL
      refine ⟨_, _, rfl, cv, j1, fun a r => ?_⟩
      have r' := (rv a).mp r
      refine ⟨(h3 a r').1, fun z => ?_⟩
      rcases (j2 a).mp z with z | z
      · exact (h3 a r').2 z.1
      · exact (dj a z).2 ⟨inv r', hd a r'⟩
    · constructor
      · intro r
        unfold RcL at r
        obtain ⟨v', us', e', r⟩ := r
        cases e'
        rcases r with r | r
        · exact .inl ⟨inv ((rv a).mp r), hd a ((rv a).mp r)⟩
        · rcases (j2 a).mp r with z | z
          · exact .inl ⟨inl z.1, z.2⟩
          · exact .inr z
      · rintro (⟨r, n⟩ | r)
        · unfold RcL at r ⊢
          obtain ⟨v', us', e', r⟩ := r
          cases e'
          refine ⟨_, _, rfl, ?_⟩
          rcases r with r | r
          · exact .inl ((rv a).mpr r)
          · exact .inr ((j2 a).mpr (.inl ⟨r, n⟩))
        · unfold RcL
          exact ⟨_, _, rfl, .inr ((j2 a).mpr (.inr r))⟩
theorem ConF.join {x' : D} {f : Str} (t : ∀ a o, H a = some o → ¬ U a → H2 a = some o ∧ ¬ U2 a) : ∀ {ds : List (Str × D)} {vs : List (Str × V)}, ConF K U H p ds vs → ds.lookup f = some (.ow c) → vs.lookup f = some (.ref q) → (∀ a o, RcF H ds vs a → ¬ Rch H c q a → H a = some o → H2 a = some o) → ConV K U2 H2 x' (.ref q) → (∀ a, RcV H2 x' (.ref q) a → a ≠ p ∧ ¬ (RcF H ds vs a ∧ ¬ Rch H c q a)) →
    ConF K U2 H2 p (putFD f x' ds) vs ∧ ∀ a, RcF H2 (putFD f x' ds) vs a ↔ (RcF H ds vs a ∧ ¬ Rch H c q a) ∨ RcV H2 x' (.ref q) a
  | [], vs, _, e, _, _, _, _ => by cases e
  | (g, d) :: ds, vs, h, e, ev, kp, c2, dj => by
    unfold ConF at h
    obtain ⟨v, us, rfl, h1, h2, h3⟩ := h
    rw [List.lookup_cons] at e ev
    unfold putFD
    by_cases hg : g = f
    · subst hg
      rw [beq_self_eq_true] at e ev
      cases e
      cases ev
      rw [if_pos rfl]
      have rv : ∀ a, RcV H (.ow c) (.ref q) a ↔ Rch H c q a := fun a => by
        unfold RcV
        exact ⟨fun ⟨q', e, r⟩ => by cases e; exact r, fun r => ⟨q, rfl, r⟩⟩
      have rest : ∀ a, RcF H ds us a → ¬ Rch H c q a := fun a r z => (h3 a ((rv a).mpr z)).2 r
      have inl : ∀ {a}, RcF H ds us a → RcF H ((g, .ow c) :: ds) ((g, .ref q) :: us) a := fun {a} r => by unfold RcF; exact ⟨_, _, _, rfl, .inr r⟩
      have k2 : ∀ a o, RcF H ds us a → H a = some o → H2 a = some o := fun a o r => kp a o (inl r) (rest a r)
      have cl := ConF.to t h2 k2
      have rl := ConF.rcf h2 k2
      refine ⟨?_, fun a => ?_⟩
      · unfold ConF
        exact ⟨_, _, rfl, c2, cl, fun a r => ⟨(dj a r).1, fun z => (dj a r).2 ⟨inl ((rl a).mp z), rest a ((rl a).mp z)⟩⟩⟩
      · constructor
        · intro r
          unfold RcF at r
          obtain ⟨k', v', us', e', r⟩ := r
          cases e'
          rcases r with r | r
          · exact .inr r
          · exact .inl ⟨inl ((rl a).mp r), rest a ((rl a).mp r)⟩
        · rintro (⟨r, n⟩ | r)
          · unfold RcF at r ⊢
            obtain ⟨k', v', us', e', r⟩ := r
            cases e'
            refine ⟨_, _, _, rfl, ?_⟩
            rcases r with r | r
            · exact absurd ((rv a).mp r) n
            · exact .inr ((rl a).mpr r)
          · unfold RcF
            exact ⟨_, _, _, rfl, .inl r⟩
    · rw [if_neg hg]
      have hb : (f == g) = false := by
        cases z : f == g with
        | true => exact absurd (eq_of_beq z).symm hg
        | false => rfl
      rw [hb] at e ev
      dsimp only at e ev
      obtain ⟨q', eq', _, sp⟩ := ConF.split h2 e
      rw [ev] at eq'
      cases eq'
      have inl : ∀ {a}, RcF H ds us a → RcF H ((g, d) :: ds) ((g, v) :: us) a := fun {a} r => by unfold RcF; exact ⟨_, _, _, rfl, .inr r⟩
      have inv : ∀ {a}, RcV H d v a → RcF H ((g, d) :: ds) ((g, v) :: us) a := fun {a} r => by unfold RcF; exact ⟨_, _, _, rfl, .inl r⟩
      have hd : ∀ a, RcV H d v a → ¬ Rch H c q a := fun a r z => (h3 a r).2 (sp a z).1
      obtain ⟨j1, j2⟩ := ConF.join (x' := x') t h2 e ev (fun a o r => kp a o (inl r)) c2 (fun a r => ⟨(dj a r).1, fun z => (dj a r).2 ⟨inl z.1, z.2⟩⟩)
      have kv : ∀ a o, RcV H d v a → H a = some o → H2 a = some o := fun a o r => kp a o (inv r) (hd a r)
      have cv := ConV.to t h1 kv
      have rv := ConV.rcv h1 kv
      refine ⟨?_, fun a => ?_⟩
      · unfold ConF
        refine ⟨_, _, rfl, cv, j1, fun a r => ?_⟩
        have r' := (rv a).mp r
        refine ⟨(h3 a r').1, fun z => ?_⟩
        rcases (j2 a).mp z with z | z
        · exact (h3 a r').2 z.1
        · exact (dj a z).2 ⟨inv r', hd a r'⟩
      · constructor
        · intro r
          unfold RcF at r
          obtain ⟨k', v', us', e', r⟩ := r
          cases e'
          rcases r with r | r
          · exact .inl ⟨inv ((rv a).mp r), hd a ((rv a).mp r)⟩
          · rcases (j2 a).mp r with z | z
            · exact .inl ⟨inl z.1, z.2⟩
            · exact .inr z
        · rintro (⟨r, n⟩ | r)
          · unfold RcF at r ⊢
            obtain ⟨k', v', us', e', r⟩ := r
            cases e'
            refine ⟨_, _, _, rfl, ?_⟩
            rcases r with r | r
            · exact .inl ((rv a).mpr r)
            · exact .inr ((j2 a).mpr (.inl ⟨r, n⟩))
          · unfold RcF
            exact ⟨_, _, _, rfl, .inr ((j2 a).mpr (.inr r))⟩
theorem chD_cases {s : Sel} (e : chD d s = some c) : (∃ ds k, d = .lst ds ∧ s = .ix k ∧ ds[k]? = some (.ow c)) ∨ ∃ n fs f, d = .obj n fs ∧ s = .fd f ∧ fs.lookup f = some (.ow c) := by
  unfold chD at e
  split at e
  · rename_i ds k
    split at e
    · rename_i c' e'
      cases e
      exact .inl ⟨ds, k, rfl, rfl, e'⟩
    · cases e
  · rename_i n fs f
    split at e
    · rename_i c' e'
      cases e
      exact .inr ⟨n, fs, f, rfl, rfl, e'⟩
    · cases e
  · cases e
theorem ConN.split {s : Sel} (h : ConN K U H d p) (e : chD d s = some c) : ∃ q, chV H p s (.ref q) ∧ Cont K U H c q ∧ ∀ a, Rch H c q a → RcN H d p a ∧ a ≠ p := by
  rcases chD_cases e with ⟨ds, k, rfl, rfl, e9⟩ | ⟨n, fs, f, rfl, rfl, e9⟩
  · unfold ConN at h
    obtain ⟨vs, hp, h⟩ := h
    obtain ⟨q, e1, c1, r1⟩ := ConL.split h e9
    exact ⟨q, ⟨vs, hp, e1⟩, con_iff.mp c1, fun a r => ⟨by unfold RcN; exact ⟨vs, hp, (r1 a r).1⟩, (r1 a r).2⟩⟩
  · unfold ConN at h
    obtain ⟨C, dx, ws, hp, hc, h⟩ := h
    obtain ⟨q, e1, c1, r1⟩ := ConF.split h e9
    exact ⟨q, ⟨C, dx, ws, hp, e1⟩, con_iff.mp c1, fun a r => ⟨by unfold RcN; exact ⟨C, dx, ws, hp, (r1 a r).1⟩, (r1 a r).2⟩⟩
theorem chV_uniq {s : Sel} {v w : V} (h : chV H p s v) (h' : chV H p s w) : v = w := by
  cases s with
  | ix k =>
    obtain ⟨vs, e1, e2⟩ := h
    obtain ⟨us, e3, e4⟩ := h'
    rw [e1] at e3
    cases e3
    rw [e2] at e4
    cases e4
    rfl
  | fd f =>
    obtain ⟨C, dx, ws, e1, e2⟩ := h
    obtain ⟨C', dx', us, e3, e4⟩ := h'
    rw [e1] at e3
    cases e3
    rw [e2] at e4
    cases e4
    rfl
theorem ConN.join {s : Sel} {x' : D} (t : ∀ a o, H a = some o → ¬ U a → H2 a = some o ∧ ¬ U2 a) (h : ConN K U H d p) (e : chD d s = some c) (hq : chV H p s (.ref q)) (kp : ∀ a o, (a = p ∨ RcN H d p a) → ¬ Rch H c q a → H a = some o → H2 a = some o) (c2 : ConV K U2 H2 x' (.ref q)) (dj : ∀ a, RcV H2 x' (.ref q) a → a ≠ p ∧ ¬ (RcN H d p a ∧ ¬ Rch H c q a)) :
    ConN K U2 H2 (putC d s x') p ∧ ∀ a, (a = p ∨ RcN H2 (putC d s x') p a) ↔ ((a = p ∨ RcN H d p a) ∧ ¬ Rch H c q a) ∨ RcV H2 x' (.ref q) a := by
  obtain ⟨q', hq', _, sp⟩ := h.split e
  have eq := chV_uniq hq' hq
  cases eq
  have np : ¬ Rch H c q p := fun z => (sp p z).2 rfl
  rcases chD_cases e with ⟨ds, k, rfl, rfl, e9⟩ | ⟨n, fs, f, rfl, rfl, e9⟩
  · unfold ConN at h
    obtain ⟨vs, hp, h⟩ := h
    obtain ⟨vs', hp', ev⟩ := hq
    rw [hp] at hp'
    cases hp'
    have rn : ∀ a, RcN H (.lst ds) p a ↔ RcL H ds vs a := fun a => by
      unfold RcN
      exact ⟨fun ⟨us, e1, r⟩ => by rw [hp] at e1; cases e1; exact r, fun r => ⟨vs, hp, r⟩⟩
    have hp2 := kp p _ (.inl rfl) np hp
    obtain ⟨j1, j2⟩ := ConL.join t h e9 ev (fun a o r => kp a o (.inr ((rn a).mpr r))) c2 (fun a r => ⟨(dj a r).1, fun z => (dj a r).2 ⟨(rn a).mpr z.1, z.2⟩⟩)
    refine ⟨?_, fun a => ?_⟩
    · show ConN K U2 H2 (.lst (ds.set k x')) p
      unfold ConN
      exact ⟨vs, hp2, j1⟩
    · show (a = p ∨ RcN H2 (.lst (ds.set k x')) p a) ↔ _
      have rn2 : RcN H2 (.lst (ds.set k x')) p a ↔ RcL H2 (ds.set k x') vs a := by
        unfold RcN
        exact ⟨fun ⟨us, e1, r⟩ => by rw [hp2] at e1; cases e1; exact r, fun r => ⟨vs, hp2, r⟩⟩
      rw [rn2, j2 a, rn a]
      constructor
      · rintro (rfl | ⟨r, n⟩ | r)
        · exact .inl ⟨.inl rfl, np⟩
        · exact .inl ⟨.inr r, n⟩
        · exact .inr r
      · rintro (⟨rfl | r, n⟩ | r)
        · exact .inl rfl
        · exact .inr (.inl ⟨r, n⟩)
        · exact .inr (.inr r)
  · unfold ConN at h
    obtain ⟨C, dx, ws, hp, hc, h⟩ := h
    obtain ⟨C', dx', ws', hp', ev⟩ := hq
    rw [hp] at hp'
    cases hp'
    have rn : ∀ a, RcN H (.obj n fs) p a ↔ RcF H fs ws a := fun a => by
      unfold RcN
      exact ⟨fun ⟨_, _, us, e1, r⟩ => by rw [hp] at e1; cases e1; exact r, fun r => ⟨C, dx, ws, hp, r⟩⟩
    have hp2 := kp p _ (.inl rfl) np hp
    obtain ⟨j1, j2⟩ := ConF.join t h e9 ev (fun a o r => kp a o (.inr ((rn a).mpr r))) c2 (fun a r => ⟨(dj a r).1, fun z => (dj a r).2 ⟨(rn a).mpr z.1, z.2⟩⟩)
    refine ⟨?_, fun a => ?_⟩
    · show ConN K U2 H2 (.obj n (putFD f x' fs)) p
      unfold ConN
      exact ⟨C, dx, ws, hp2, hc, j1⟩
    · show (a = p ∨ RcN H2 (.obj n (putFD f x' fs)) p a) ↔ _
      have rn2 : RcN H2 (.obj n (putFD f x' fs)) p a ↔ RcF H2 (putFD f x' fs) ws a := by
        unfold RcN
        exact ⟨fun ⟨_, _, us, e1, r⟩ => by rw [hp2] at e1; cases e1; exact r, fun r => ⟨C, dx, ws, hp2, r⟩⟩
      rw [rn2, j2 a, rn a]
      constructor
      · rintro (rfl | ⟨r, n⟩ | r)
        · exact .inl ⟨.inl rfl, np⟩
        · exact .inl ⟨.inr r, n⟩
        · exact .inr r
      · rintro (⟨rfl | r, n⟩ | r)
        · exact .inl rfl
        · exact .inr (.inl ⟨r, n⟩)
        · exact .inr (.inr r)
end
end PyD

namespace PyD
open PySem PySem.Spec L2
section
variable {K : PySem.W.Frag} {W : WX} {B B' B1 B2 S T : Addr → Prop} {U U' : Addr → Prop} {H H' H1 H2 : Hp} {σ σ' σ1 σx : L2.St} {en en' en1 en2 enx eA eB : En} {d d0 d1 c c' : D} {v : V} {i : Nat} {p q : Addr} {b : Bool} {s : Sel} {Q : VK} {io : List Bool} {φ : List D → Out}
end
end PyD

namespace PyD
open PySem PySem.Spec L2
def unC (n i : Nat) (b : Bool) (d : D) (s : Sel) (en : En) : Option En := match en[n]? with
  | some (.o b' c') => if b' = b then some ((en.take n).set i (.o b (.ow (putC d s (.ow c'))))) else none
  | _ => none
section
variable {K : PySem.W.Frag} {W : WX} {B B' B1 B2 S T : Addr → Prop} {U U' : Addr → Prop} {H H' H1 H2 : Hp} {σ σ' σ1 σx : L2.St} {en en' en1 en2 enx eA eB : En} {d d0 d1 c c' : D} {v : V} {i : Nat} {p q : Addr} {b : Bool} {s : Sel} {Q : VK} {io : List Bool} {φ : List D → Out} {fs : M (List R)}
def RdP (K : PySem.W.Frag) (W : WX) (i : Nat) (sm : M Sel) : TE := fun σ H Q => ∃ B en, Good K B H σ en ∧ match sm en with
  | .ok s en' => ∀ v H', (∃ B', Bx B B' σ en H ∧ Good K B' H' σ en' ∧ ∃ b d p c, en'[i]? = some (.o b (.ow d)) ∧ σ[i]? = some (some (.ref p)) ∧ chD d s = some c ∧ chV H' p s v) → Stp σ en H σ en' H' → Q v H'
  | .exc x en' => ∀ c od H', ExR K (Un B H' σ en') H' x c od → Good K B H' σ en' → Stp σ en H σ en' H' → W c od σ H'
  | .bad => False
theorem ArgR.frame (ha : ∀ (j : Nat) (v : V), σ[j]? = some (some v) → σ'[j]? = some (some v)) (hu : ∀ a, Un B' H σ' en' a → Un B H σ en a) : ∀ {r : R} {v : V}, (∀ a, RcR H r v a → B a → B' a) → ArgR K B σ en H r v → ArgR K B' σ' en' H r v
  | .sh d, v, _, h => Rep.to (fun a o x n => ⟨x, fun z => n (hu a z)⟩) _ _ h
  | .sl j, v, _, h => ha j v h
  | .fr d, v, hb, ⟨p, e, bp, c⟩ => ⟨p, e, fun a r => hb a ⟨p, e, r⟩ (bp a r), Cont.to (fun a o x n => ⟨x, fun z => n (hu a z)⟩) (fun _ _ _ x => x) c⟩
theorem ArgRs.frame (ha : ∀ (j : Nat) (v : V), σ[j]? = some (some v) → σ'[j]? = some (some v)) (hu : ∀ a, Un B' H σ' en' a → Un B H σ en a) : ∀ {rs : List R} {vs : List V}, (∀ a, RcRs H rs vs a → B a → B' a) → ArgRs K B σ en H rs vs → ArgRs K B' σ' en' H rs vs
  | [], vs, _, h => h
  | r :: rs, vs, hb, ⟨v, us, e, h1, h2, h3⟩ => by
    subst e
    exact ⟨v, us, rfl, ArgR.frame ha hu (fun a z => hb a (.inl z)) h1, ArgRs.frame ha hu (fun a z => hb a (.inr z)) h2, h3⟩
theorem ExR.un {x : Ex} {cl : Value} {od : Option Addr} (h : ∀ a, U' a → U a) (e : ExR K U H x cl od) : ExR K U' H x cl od := e.mono h
end
end PyD

namespace PyD
open PySem PySem.Spec L2
section
variable {K : PySem.W.Frag} {W : WX} {B B' B1 B2 : Addr → Prop} {H H' H1 H2 : Hp} {σ σ' σ1 : L2.St} {en en' en1 en2 : En} {d d0 d1 c c' : D} {v : V} {i j : Nat} {p q : Addr} {b : Bool} {s : Sel} {Q : VK} {io : List Bool} {φ : List D → Out} {fs : M (List R)} {sm : M Sel}
theorem RdP.mono {Q Q' : VK} (h : ∀ v H, Q v H → Q' v H) (m : RdP K W i sm σ H Q) : RdP K W i sm σ H Q' := by
  obtain ⟨B, en, G, m⟩ := m
  refine ⟨B, en, G, ?_⟩
  revert m
  cases sm en with
  | ok s en' => exact fun m v H' a b => h v H' (m v H' a b)
  | exc x en' => exact fun m => m
  | bad => exact fun m => m
end
section
variable {X : Cx} {W : WX} {i j : Nat} {io : List Bool} {φ : List D → Out} {fs : M (List R)} {sm : M Sel} {pos p p2 apos : Pos} {e o ix : Expr} {es : List Expr} {x : Str}
end
end PyD

namespace PyD
open PySem PySem.Spec L2
section
variable {K : PySem.W.Frag} {W : WX} {B B' B1 B2 : Addr → Prop} {U U' : Addr → Prop} {H H' H1 H2 H3 : Hp} {σ σ' σ1 : L2.St} {en en' en1 en2 : En} {d d0 d1 c c' : D} {v : V} {i j : Nat} {p q : Addr} {b : Bool} {s : Sel} {Q : VK} {fs : M (List R)} {sm : M Sel} {D0 : Ends}
end
section
variable {X : Cx} {W : WX} {pos p2 : Pos} {e o : Expr} {es : List Expr} {fi fv : M R} {fs : M (List R)} {i : Nat} {name : Str} {apos cpos : Pos} {T id : String} {sm : M Sel}
end
end PyD

namespace PyD
open PySem PySem.Spec L2
section
variable {K : PySem.W.Frag} {W : WX} {B B' B1 B2 : Addr → Prop} {U U' : Addr → Prop} {H H' H1 H2 H3 : Hp} {σ σ' σ1 : L2.St} {en en' en1 en2 : En} {d d0 d1 c c' : D} {v : V} {i j : Nat} {p q : Addr} {b : Bool} {s : Sel} {Q : VK} {fs : M (List R)} {sm : M Sel} {D0 : Ends}
theorem ConF.put {f : Str} {x' : D} {w : V} (t : ∀ a o, H a = some o → ¬ U a → H2 a = some o ∧ ¬ U' a) (hx : ConV K U' H2 x' w) : ∀ {fs : List (Str × D)} {ws : List (Str × V)}, ConF K U H p fs ws → (∀ a o, RcF H fs ws a → H a = some o → H2 a = some o) → (∀ a, RcV H2 x' w a → a ≠ p ∧ ¬ RcF H fs ws a) →
    ConF K U' H2 p (putFD f x' fs) (putF f w ws) ∧ ∀ a, RcF H2 (putFD f x' fs) (putF f w ws) a → RcF H fs ws a ∨ RcV H2 x' w a
  | [], ws, h, kp, dj => by
    unfold ConF at h
    subst h
    have e1 : putFD f x' [] = [(f, x')] := rfl
    have e2 : putF f w [] = [(f, w)] := rfl
    rw [e1, e2]
    refine ⟨?_, fun a r => ?_⟩
    · unfold ConF
      exact ⟨w, [], rfl, hx, by unfold ConF; rfl, fun a r => ⟨(dj a r).1, fun z => by unfold RcF at z; exact z⟩⟩
    · unfold RcF at r
      obtain ⟨k, v, us, e, r⟩ := r
      cases e
      rcases r with r | r
      · exact .inr r
      · unfold RcF at r; exact r.elim
  | (g, d) :: fs, ws, h, kp, dj => by
    unfold ConF at h
    obtain ⟨v, us, rfl, h1, h2, h3⟩ := h
    have inl : ∀ {a}, RcF H fs us a → RcF H ((g, d) :: fs) ((g, v) :: us) a := fun {a} r => by unfold RcF; exact ⟨_, _, _, rfl, .inr r⟩
    have inv : ∀ {a}, RcV H d v a → RcF H ((g, d) :: fs) ((g, v) :: us) a := fun {a} r => by unfold RcF; exact ⟨_, _, _, rfl, .inl r⟩
    have k1 : ∀ a o, RcV H d v a → H a = some o → H2 a = some o := fun a o r => kp a o (inv r)
    have k2 : ∀ a o, RcF H fs us a → H a = some o → H2 a = some o := fun a o r => kp a o (inl r)
    by_cases hg : g = f
    · have e1 : putFD f x' ((g, d) :: fs) = (g, x') :: fs := by unfold putFD; rw [if_pos hg]
      have e2 : putF f w ((g, v) :: us) = (g, w) :: us := by unfold putF; rw [if_pos hg]
      rw [e1, e2]
      have rl := ConF.rcf h2 k2
      refine ⟨?_, fun a r => ?_⟩
      · unfold ConF
        exact ⟨w, us, rfl, hx, ConF.to t h2 k2, fun a r => ⟨(dj a r).1, fun z => (dj a r).2 (inl ((rl a).mp z))⟩⟩
      · unfold RcF at r
        obtain ⟨k, v', us', e, r⟩ := r
        cases e
        rcases r with r | r
        · exact .inr r
        · exact .inl (inl ((rl a).mp r))
    · have e1 : putFD f x' ((g, d) :: fs) = (g, d) :: putFD f x' fs := by
        show (if g = f then _ else _) = _
        rw [if_neg hg]
      have e2 : putF f w ((g, v) :: us) = (g, v) :: putF f w us := by
        show (if g = f then _ else _) = _
        rw [if_neg hg]
      rw [e1, e2]
      obtain ⟨q1, q2⟩ := ConF.put (f := f) t hx h2 k2 (fun a r => ⟨(dj a r).1, fun z => (dj a r).2 (inl z)⟩)
      have rv := ConV.rcv h1 k1
      refine ⟨?_, fun a r => ?_⟩
      · unfold ConF
        refine ⟨v, _, rfl, ConV.to t h1 k1, q1, fun a r => ?_⟩
        have r' := (rv a).mp r
        refine ⟨(h3 a r').1, fun z => ?_⟩
        rcases q2 a z with z | z
        · exact (h3 a r').2 z
        · exact (dj a z).2 (inv r')
      · unfold RcF at r
        obtain ⟨k, v', us', e, r⟩ := r
        cases e
        rcases r with r | r
        · exact .inl (inv ((rv a).mp r))
        · rcases q2 a r with z | z
          · exact .inl (inl z)
          · exact .inr z
end
section
variable {X : Cx} {W : WX} {pos pos' p p2 : Pos} {e o : Expr} {es : List Expr} {fs : M (List R)} {fv : M R} {i : Nat} {sm : M Sel} {n : ON} {C : Addr} {f : Str}
end
end PyD

namespace PyD
open PySem PySem.Spec L2
section
variable {K : PySem.W.Frag} {W : WX} {B B' B1 : Addr → Prop} {U U' : Addr → Prop} {H H' H1 H2 : Hp} {σ σ' σ1 : L2.St} {en en' en1 : En} {d : D} {v : V} {i : Nat} {p : Addr} {ds : List D} {Q : VK}
theorem ConL.snoc {y : D} {w : V} : ∀ {ds : List D} {vs : List V}, ConL K U H p ds vs → ConV K U H y w → (∀ a, RcV H y w a → a ≠ p ∧ ¬ RcL H ds vs a) → ConL K U H p (ds ++ [y]) (vs ++ [w]) ∧ ∀ a, RcL H (ds ++ [y]) (vs ++ [w]) a ↔ RcL H ds vs a ∨ RcV H y w a
  | [], vs, h, hy, dj => by
    unfold ConL at h
    subst h
    show ConL K U H p [y] [w] ∧ ∀ a, RcL H [y] [w] a ↔ _
    refine ⟨?_, fun a => ?_⟩
    · unfold ConL
      exact ⟨w, [], rfl, hy, by unfold ConL; rfl, fun a r => ⟨(dj a r).1, fun z => by unfold RcL at z; exact z⟩⟩
    · constructor
      · intro z
        unfold RcL at z
        obtain ⟨v, us, e, z⟩ := z
        cases e
        rcases z with z | z
        · exact .inr z
        · unfold RcL at z; exact z.elim
      · rintro (z | z)
        · unfold RcL at z; exact z.elim
        · unfold RcL
          exact ⟨w, [], rfl, .inl z⟩
  | d :: ds, vs, h, hy, dj => by
    unfold ConL at h
    obtain ⟨v, us, rfl, h1, h2, h3⟩ := h
    obtain ⟨q1, q2⟩ := ConL.snoc h2 hy fun a r => ⟨(dj a r).1, fun z => (dj a r).2 (by unfold RcL; exact ⟨_, _, rfl, .inr z⟩)⟩
    show ConL K U H p (d :: (ds ++ [y])) (v :: (us ++ [w])) ∧ ∀ a, RcL H (d :: (ds ++ [y])) (v :: (us ++ [w])) a ↔ _
    refine ⟨?_, fun a => ?_⟩
    · unfold ConL
      refine ⟨v, _, rfl, h1, q1, fun a r => ⟨(h3 a r).1, fun z => ?_⟩⟩
      rcases (q2 a).mp z with z | z
      · exact (h3 a r).2 z
      · exact (dj a z).2 (by unfold RcL; exact ⟨_, _, rfl, .inl r⟩)
    · constructor
      · intro z
        unfold RcL at z
        obtain ⟨v', us', e, z⟩ := z
        cases e
        rcases z with z | z
        · exact .inl (by unfold RcL; exact ⟨_, _, rfl, .inl z⟩)
        · rcases (q2 a).mp z with z | z
          · exact .inl (by unfold RcL; exact ⟨_, _, rfl, .inr z⟩)
          · exact .inr z
      · rintro (z | z)
        · unfold RcL at z
          obtain ⟨v', us', e, z⟩ := z
          cases e
          unfold RcL
          exact ⟨v, _, rfl, z.imp id fun z => (q2 a).mpr (.inl z)⟩
        · unfold RcL
          exact ⟨v, _, rfl, .inr ((q2 a).mpr (.inr z))⟩
end
section
variable {X : Cx} {W : WX} {elt tg iter c : Expr} {ifs : List Expr} {scope : Scope} {own : List (Str × Nat)} {pos spos : Pos} {it : M (List D)} {g : D → M Unit} {gt : TG} {is : List Nat} {tt : M Bool} {te : M R}
variable {i : Nat} {y : Str} {py : Pos}
end
end PyD

namespace PyD
open PySem PySem.Spec L2 PyProof.Rows
section
variable {K : PySem.W.Frag} {W : WX} {B B' B1 B2 : Addr → Prop} {U U' : Addr → Prop} {H H' H1 H2 H3 : Hp} {σ σ' σ1 : L2.St} {en en' en1 en2 : En} {d d0 d1 c c' : D} {v : V} {i j : Nat} {p q : Addr} {b : Bool} {s : Sel} {Q : VK} {fs : M (List R)} {sm : M Sel} {D0 : Ends}
end
section
variable {K : PySem.W.Frag} {W : WX} {H : Hp} {σ : L2.St} {Q : VK}
end
section
variable {X : Cx} {K : PySem.W.Frag} {U : Addr → Prop} {H : Hp}
end
end PyD

namespace PyD
open PySem PySem.Spec L2
def inK (k : Int → Prop) (d : D) (_ : Tg k := ⟨⟩) : Prop := match d with
  | .int i => k i
  | _ => False
section
variable {en : En} {k : R → En → Prop} {x : Ex → En → Prop} {ks : Fl → Prop} {i j : Nat} {sm : M Sel} {io : List Bool} {φ : List D → Out} {fs : M (List R)}
end
end PyD

namespace PyD
open PySem PySem.Spec L2
section
variable {K : PySem.W.Frag} {W : WX} {B B' B1 : Addr → Prop} {U U' : Addr → Prop} {H H' H1 H2 : Hp} {σ σ' σ1 : L2.St} {en en' en1 : En} {d : D} {v : V} {i : Nat} {p : Addr} {ds : List D} {Q : VK}
structure WalkA (K : PySem.W.Frag) (U : Addr → Prop) (H0 : Hp) (J : It) (ds : List D) : Prop where
  go : ∀ i H1, Kp U H0 H1 → i < ds.length → J.go i H1
  stop : ∀ H1, Kp U H0 H1 → J.stop ds.length H1
  yld : ∀ i H1 x H2 d, Kp U H0 H1 → ds[i]? = some d → J.yld i H1 x H2 → Ext H1 H2 ∧ ∀ U1 : Addr → Prop, Rep K U1 H2 d x
end
section
variable {X : Cx} {W : WX} {elt tg c : Expr} {ifs : List Expr} {scope : Scope} {own : List (Str × Nat)} {pos spos pn : Pos} {g : D → M Unit} {gt : TG} {is : List Nat} {tt : M Bool} {te : M R} {j : Nat} {x : Str}
variable {i : Nat} {y : Str} {py : Pos}
end
end PyD

section
set_option maxHeartbeats 4000000
namespace PySem
namespace HandSPX
open Builtin Builtin.ObjectAttr
section
variable {P : Program} {w : World} {Z : Around} {R : Result → Shared → Prop} {ho : Heap} {gs : Array GenState} {dr : Drawn} {tk : Nat} {om : OsState}
variable {nm qn : Str} {C N : Addr} {bs bm bmB : List Value} {hdct : Bool} {sn : List Str} {sub : List Value} {ab : Bool} {col : Option Bool} {dd : Option Addr} {k0 k1 k2 k3 k5 : Option Value} {B newId initId : String} {kw : List (Str × Value)}
end
end HandSPX
end PySem
namespace PyD
open PySem PySem.Spec L2 PyProof.Rows
section
variable {X : Cx} {pins : List (Addr × Obj)} {σ : L2.St} {H : Hp} {s : Shared}
variable {CX : CXT} {x f : Str} {C fI : Addr} {k : Nat} {fd : FuncData} {ps : List Str} {e : Expr} {es : List Expr} {ta tk : TA} {p pos : Pos} {kws : List Keyword}
end
end PyD
namespace PyD
open PySem PySem.Spec L2 PyProof.Rows
section
variable {X : Cx} {pins : List (Addr × Obj)} {σ : L2.St} {H : Hp} {s : Shared}
end
end PyD
namespace PyD
open PySem PySem.Spec L2 PyProof.Rows
section
variable {X : Cx} {W : WX} {n : XN} {C : Addr} {k : Nat} {x f : Str} {e : Expr} {fa : M R} {p pos kpos : Pos}
end
end PyD

end

namespace PyD
open PySem PySem.Spec L2 PyProof.Rows
def PEt (X : Cx) (e : Expr) (t : TE) : Prop := ∀ (pins : List (Addr × Obj)) (s : Shared) (σ : L2.St) (H : Hp) (Q : VK), Inv X pins σ H s → t σ H Q → wpAny (model X.prog X.w) X.A (eval e X.env) (fun v s1 => 1 ≤ s1.toks ∧ EP X pins σ Q v s1) X.xe s
section
variable {X : Cx} {W : WX} {a b e : Expr} {es : List Expr} {ta tb te : TE} {t : TA} {pos : Pos} {op : Operator} {r : R2} {fa fb f : M R} {fs : M (List R)} {g : List D → Option (Bool × D)}
theorem et_imp {t t' : TE} (h : PEt X e t) (hi : ∀ σ H Q, t' σ H Q → t σ H Q) : PEt X e t' := fun pins s σ H Q I q => h pins s σ H Q I (hi σ H Q q)
theorem et_strC {x : Str} {j : Nat} : PEt X (.Constant (.str x) j pos) (tC (.str x)) := fun pins s σ H Q I h => Calls.Constant_str ⟨by show 1 ≤ s.toks + 1; omega, .str x, H, I.tok _, ⟨_, rfl⟩, h⟩
theorem et_opL (ho : OpR X (binaryOp op) r) (ha : PEt X a ta) (hb : PE X b tb) : PEt X (.BinOp a op b pos) (tOp r ta tb) := by
  intro pins s σ H Q I h
  refine wpAny_BinOp (thn (ha pins s σ H _ I h) fun v s1 ⟨k0, x, H1, I1, r1, q1⟩ => ?_)
  refine wpAny_mono (PySem.wpAny_toks (hb.run pins s1 σ H1 _ I1 q1)) (fun u s2 ⟨k1, y, H2, I2, r2, q2⟩ => ?_) fun _ _ z => z.2
  exact wpAny_mono (PySem.wpAny_toks (ho pins s2 σ H2 x y v u Q I2 r1 r2 q2)) (fun w s3 ⟨k2, q⟩ => ⟨by omega, q⟩) fun _ _ z => z.2
theorem et_opR (ho : OpR X (binaryOp op) r) (ha : PE X a ta) (hb : PEt X b tb) : PEt X (.BinOp a op b pos) (tOp r ta tb) := by
  intro pins s σ H Q I h
  refine wpAny_BinOp (thn (ha.run pins s σ H _ I h) fun v s1 ⟨x, H1, I1, r1, q1⟩ => ?_)
  refine thn (hb pins s1 σ H1 _ I1 q1) fun u s2 ⟨k1, y, H2, I2, r2, q2⟩ => ?_
  exact wpAny_mono (PySem.wpAny_toks (ho pins s2 σ H2 x y v u Q I2 r1 r2 q2)) (fun w s3 ⟨k2, q⟩ => ⟨by omega, q⟩) fun _ _ z => z.2
theorem et_str {x y : Str} {j : Nat} (h : x = y) : PEt X (.Constant (.str x) j pos) (RdE X.K W (cF (.str y))) := by
  subst h
  refine et_imp et_strC fun σ H Q ⟨B, en, G, m⟩ => ?_
  exact m (.str x) H ⟨B, Bx.refl B σ en H, G, show Rep X.K (Un B H σ en) H (.str x) (.str x) from by unfold Rep; rfl, trivial⟩ (Stp.refl σ en H)
theorem et_L (ho : OpR X (binaryOp op) r) (hp : Prim X.K (r2 r) g) (ha : PEt X a (RdE X.K W fa)) (hb : PE X b (RdE X.K W fb)) : PEt X (.BinOp a op b pos) (RdE X.K W (opF g (two fa fb))) := et_imp (et_opL ho ha hb) fun σ H Q m => impOp hp m
theorem et_R (ho : OpR X (binaryOp op) r) (hp : Prim X.K (r2 r) g) (ha : PE X a (RdE X.K W fa)) (hb : PEt X b (RdE X.K W fb)) : PEt X (.BinOp a op b pos) (RdE X.K W (opF g (two fa fb))) := et_imp (et_opR ho ha hb) fun σ H Q m => impOp hp m
theorem pa_consT (ha : PEt X e te) (hr : PAT X es t) (hs : starEach (e :: es) X.env = (false, eval e X.env) :: starEach es X.env := by rfl) : PA X (e :: es) (tCons te t) := by
  refine ⟨fun pos pins s σ H Q I h => ?_⟩
  rw [hs]
  show wpAny _ _ (spliced ((false, eval e X.env) :: backTo pos (starEach es X.env))) _ _ s
  refine Calls.spliced_cons (thn (ha pins s σ H _ I h) fun u s1 ⟨k, x, H1, I1, r1, q1⟩ => ?_)
  exact thn (hr pos pins s1 σ H1 _ k I1 q1) fun us s2 ⟨xs, H2, I2, r2, q2⟩ => ⟨x :: xs, H2, I2, .cons r1 r2, q2⟩
theorem a_consT (ha : PEt X e (RdE X.K W f)) (hr : PAT X es (RdA X.K W fs)) (hs : starEach (e :: es) X.env = (false, eval e X.env) :: starEach es X.env := by rfl) : PA X (e :: es) (RdA X.K W (consF f fs)) := pa_imp (pa_consT ha hr hs) fun σ H Q q => consImp q
theorem at_of (h : PA X es (RdA X.K W fs)) : PAT X es (RdA X.K W fs) := fun pos pins s σ H Q _ I q => h.run pos pins s σ H Q I q
theorem at_cons (ha : PET X e (RdE X.K W f)) (hr : PAT X es (RdA X.K W fs)) (hs : starEach (e :: es) X.env = (false, eval e X.env) :: starEach es X.env := by rfl) : PAT X (e :: es) (RdA X.K W (consF f fs)) := fun pos pins s σ H Q k I q => pat_cons ha hr hs pos pins s σ H Q k I (consImp q)
end
def replF (y z : Str) (fo : M R) : M R := fun en => match fo en with
  | .ok r en1 => (match rsl en1 r with
    | some (.str x) => (match decide (x.length + (x.length + 1) * z.length ≤ 16777216) with
      | true => .ok (.sh (.str (Txt.replace x y z))) en1
      | false => .bad)
    | _ => .bad)
  | .exc x en1 => .exc x en1
  | .bad => .bad
theorem et_repl {X : Cx} {W : WX} {o : Expr} {fo : M R} {y z y' z' : Str} {j k : Nat} {c0 c1 apos pos : Pos} (hy : y = y') (hz : z = z') (ho : PE X o (RdE X.K W fo)) (hyz : (y == z) = false := by decide)
    (hst : starEach [.Constant (.str y) j c0, .Constant (.str z) k c1] X.env = [(false, eval (.Constant (.str y) j c0) X.env), (false, eval (.Constant (.str z) k c1) X.env)] := by rfl)
    (hbase : attributeBase o "replace" X.env (eval o X.env) = eval o X.env := by rfl) (hline : (apos.endLine == pos.line) = true := by rfl) :
    PET X (.Call (.Attribute o "replace" apos) [.Constant (.str y) j c0, .Constant (.str z) k c1] [] pos) (RdE X.K W (replF y' z' fo)) := by
  subst hy
  subst hz
  intro pins s σ H Q h0 I h
  refine CwR.pet_replC ho hyz hst hbase hline pins s σ H Q h0 I ?_
  obtain ⟨B, en, G, m⟩ := h
  refine ⟨B, en, G, ?_⟩
  unfold replF at m
  cases e1 : fo en with
  | bad => rw [e1] at m; exact m
  | exc x en1 => rw [e1] at m; exact m
  | ok r en1 =>
    rw [e1] at m
    dsimp only at m ⊢
    intro v H1 ⟨B1, b1, G1, ra, fn⟩ st1
    cases e2 : rsl en1 r with
    | none => rw [e2] at m; exact m.elim
    | some d0 =>
      rw [e2] at m
      cases d0 with
      | str x =>
        dsimp only at m
        cases e3 : decide (x.length + (x.length + 1) * z.length ≤ 16777216) with
        | false => rw [e3] at m; exact m.elim
        | true =>
          rw [e3] at m
          dsimp only at m
          refine ⟨x, arStr (ArgR.arep G1 ra e2), of_decide_eq_true e3, ?_⟩
          exact m _ H1 ⟨B1, b1, G1, show Rep X.K (Un B1 H1 σ en1) H1 (.str (Txt.replace x y z)) (.str (Txt.replace x y z)) from by unfold Rep; rfl, trivial⟩ st1
      | _ => exact m.elim
def repK (y z : Str) (d : Option D) (j : D → Prop) : Prop := match d with
  | some (.str x) => x.length + (x.length + 1) * z.length ≤ 16777216 ∧ j (.str (Txt.replace x y z))
  | _ => False
theorem ok_repl {y z : Str} {fo : M R} {en : En} {k : R → En → Prop} {x : Ex → En → Prop} : okE (replF y z fo) en k x = okE fo en (fun r en1 => repK y z (rsl en1 r) fun d => k (.sh d) en1) x := by
  unfold okE replF
  cases fo en with
  | bad => rfl
  | exc _ _ => rfl
  | ok r en1 =>
    dsimp only
    unfold repK
    cases rsl en1 r with
    | none => rfl
    | some d =>
      cases d <;> try rfl
      rename_i s
      dsimp only
      by_cases h : s.length + (s.length + 1) * z.length ≤ 16777216
      · rw [decide_eq_true h]
        simp [h]
      · rw [decide_eq_false h]
        simp [h]
end PyD

namespace PyD
open PySem PySem.Spec L2
def gSt (i : Nat) (fi : M R) (u : D → D → D → Option D) : D → M Unit := fun d en => match en[i]? with
  | some (.o _ _) => (match fi en with
    | .ok ri en2 => (match rsl en2 ri with
      | some di => (match en2[i]? with
        | some (.o b d0) => (match u d0 di d with
          | some d1 => .ok () (en2.set i (.o b d1))
          | none => .bad)
        | _ => .bad)
      | none => .bad)
    | _ => .bad)
  | _ => .bad
def gTwo (g1 g2 : D → M Unit) : D → M Unit := fun d en => match d with
  | .tup [a, b] => (match g1 a en with
    | .ok _ en1 => g2 b en1
    | _ => .bad)
  | _ => .bad
section
variable {K : PySem.W.Frag} {W : WX} {B B' B1 : Addr → Prop} {U U' : Addr → Prop} {H H' H1 : Hp} {σ σ' σ1 : L2.St} {en en' en1 : En} {d : D} {v : V} {i : Nat} {p : Addr} {Q : L2.St → Hp → Prop}
theorem gStImp {fi : M R} {u : D → D → D → Option D} {t : TSet} [fg : FlatS u] (hp : PrimS K t u) (m : RdG K (gSt i fi u) v σ H Q) : gSub (tVar i) (RdE K W fi) t v σ H Q := by
  obtain ⟨B, en, d, G, r, m⟩ := m
  unfold gSt at m
  cases e3 : en[i]? with
  | none => rw [e3] at m; exact m.elim
  | some s3 =>
    rw [e3] at m
    cases s3 with
    | e => exact m.elim
    | v _ => exact m.elim
    | o b0 dd =>
      dsimp only at m
      obtain ⟨p, s, n, c⟩ := G.own i b0 dd e3
      refine ⟨.ref p, s, B, en, G, ?_⟩
      cases e4 : fi en with
      | bad => rw [e4] at m; exact m.elim
      | exc x en2 => rw [e4] at m; exact m.elim
      | ok ri en2 =>
        rw [e4] at m
        dsimp only at m ⊢
        intro vi H2 ⟨B2, b2, G2, ri', fn2⟩ st2
        cases e5 : rsl en2 ri with
        | none => rw [e5] at m; exact m.elim
        | some di =>
          rw [e5] at m
          dsimp only at m
          cases e6 : en2[i]? with
          | none => rw [e6] at m; exact m.elim
          | some s6 =>
            rw [e6] at m
            cases s6 with
            | e => exact m.elim
            | v _ => exact m.elim
            | o b d0 =>
              dsimp only at m
              cases e7 : u d0 di d with
              | none => rw [e7] at m; exact m.elim
              | some d1 =>
                rw [e7] at m
                have G2' := G2.mono b2.up
                obtain ⟨p', s', n', c'⟩ := G2'.own i b d0 e6
                rw [s] at s'
                cases s'
                have ai : ARep K (Un B H2 σ en2) H2 di vi := by
                  have := ARepL.mono (K := K) (H := H2) (ds := [di]) (vs := [vi]) (fun a z => Un.mono b2.up z) ⟨vi, [], rfl, ArgR.arep G2 ri' e5, rfl⟩
                  obtain ⟨v', us, e8, h8, _⟩ := this
                  cases e8
                  exact h8
                refine hp (Un B H2 σ en2) H2 d0 di d p vi v _ d1 (fun a => G2'.unAt) (.inr ⟨i, b, d0, p, e6, s, Rch.self⟩) c' ai (Rep.step st2 (Bx.refl B σ en H) r) e7 fun H3 k1 k2 k3 => ?_
                obtain ⟨f0, f1⟩ := fg.fl _ _ _ _ e7
                obtain ⟨g2, s2, _⟩ := G2'.mut e6 s f0 f1 k1 k2 k3
                exact m σ H3 g2 (st2.trans s2)
theorem gTwoImp {g1 g2 : D → M Unit} {t1 t2 : TG} (h1 : ∀ {v σ H Q}, RdG K g1 v σ H Q → t1 v σ H Q) (h2 : ∀ {v σ H Q}, RdG K g2 v σ H Q → t2 v σ H Q) (m : RdG K (gTwo g1 g2) v σ H Q) : gTup K 2 (gCons t1 (gCons t2 gNil)) v σ H Q := by
  obtain ⟨B, en, d, G, r, m⟩ := m
  unfold gTwo at m
  cases d with
  | tup ds =>
    match ds, r, m with
    | [], _, m => exact m.elim
    | [_], _, m => exact m.elim
    | _ :: _ :: _ :: _, _, m => exact m.elim
    | [a, b], r, m =>
      dsimp only at m
      unfold Rep at r
      obtain ⟨p, vs, e1, nu, ha, r⟩ := r
      obtain ⟨va, vb, rfl, ra, rb⟩ := rl2 r
      cases e : g1 a en with
      | exc x en2 => rw [e] at m; exact m.elim
      | bad => rw [e] at m; exact m.elim
      | ok u en1 =>
        rw [e] at m
        dsimp only at m
        refine ⟨p, _, e1, SqT.of ha, rfl, va, _, rfl, h1 ⟨B, en, a, G, ra, ?_⟩⟩
        rw [e]
        intro σ1 H1 G1 st1
        refine ⟨vb, _, rfl, h2 ⟨B, en1, b, G1, Rep.step st1 (Bx.refl B σ en H) rb, ?_⟩⟩
        cases e2 : g2 b en1 with
        | exc x en2 => rw [e2] at m; exact m.elim
        | bad => rw [e2] at m; exact m.elim
        | ok u2 en2 =>
          rw [e2] at m
          exact fun σ2 H2 G2 st2 => ⟨rfl, m σ2 H2 G2 (st1.trans st2)⟩
  | _ => exact m.elim
end
section
variable {X : Cx} {W : WX} {i : Nat} {fi : M R} {u : D → D → D → Option D} {t : TSet} {o ix : Expr} {tpos pos : Pos} {k : Nat} {t1 t2 : Expr} {g1 g2 : D → M Unit}
theorem g_st [FlatS u] (hS : PSet X t) (hp : PrimS X.K t u) (ho : PE X o (tVar i)) (hi : PE X ix (RdE X.K W0 fi))
    (ha : ∀ v, assign (.Subscript o ix tpos) X.env v = (do
      let ov ← holding [v] (eval o X.env)
      let iv ← holding [v, ov] (eval ix X.env)
      standAt tpos
      holding [v, ov, iv] (setItem ov iv v)
      release [v, ov, iv] []) := by intro _; rfl) : PG X (.Subscript o ix tpos) (RdG X.K (gSt i fi u)) := pg_imp (pg_sub ho hi hS ha) fun v σ H Q m => gStImp hp m
theorem g_two (hc : X.calm = true) (h1 : PG X t1 (RdG X.K g1)) (h2 : PG X t2 (RdG X.K g2)) (e1 : (assignEach [t1, t2] X.env).map (·.2) = assign t1 X.env :: (assignEach [t2] X.env).map (·.2) := by rfl) (e2 : (assignEach [t2] X.env).map (·.2) = assign t2 X.env :: (assignEach [] X.env).map (·.2) := by rfl)
    (hn : (assignEach [t1, t2] X.env).length = 2 := by rfl) (hst : (assignEach [t1, t2] X.env).findIdx? (·.1) = none := by rfl) : PG X (.Tuple [t1, t2] k pos) (RdG X.K (gTwo g1 g2)) :=
  pg_imp (pg_tup hc (pgs_cons h1 (pgs_cons h2 pgs_nil e2) e1) hn hst) fun v σ H Q m => gTwoImp (fun z => z) (fun z => z) m
end
def gstK (i : Nat) (en : En) (j : Bool → D → Prop) : Prop := match en[i]? with
  | some (.o b d) => j b d
  | _ => False
theorem ok_gSt {i : Nat} {fi : M R} {u : D → D → D → Option D} {d : D} {en : En} {k : Unit → En → Prop} {x : Ex → En → Prop} : okE (gSt i fi u d) en k x = gstK i en fun _ _ => okE fi en (fun ri en2 => okL (rsl en2 ri) fun di => gstK i en2 fun b d0 => okL (u d0 di d) fun d1 => k () (en2.set i (.o b d1))) fun _ _ => False := by
  unfold okE gSt gstK
  cases en[i]? with
  | none => rfl
  | some s =>
    cases s with
    | e => rfl
    | v _ => rfl
    | o b d0 =>
      dsimp only
      cases fi en with
      | bad => rfl
      | exc _ _ => rfl
      | ok ri en2 =>
        dsimp only
        cases rsl en2 ri with
        | none => rfl
        | some di =>
          show _ = (match en2[i]? with
            | some (.o b d) => _
            | _ => False)
          dsimp only
          cases en2[i]? with
          | none => rfl
          | some s2 =>
            cases s2 with
            | e => rfl
            | v _ => rfl
            | o b2 d2 =>
              dsimp only
              cases u d2 di d <;> rfl
theorem ok_gTwo {g1 g2 : D → M Unit} {a b : D} {en : En} {k : Unit → En → Prop} {x : Ex → En → Prop} : okE (gTwo g1 g2 (.tup [a, b])) en k x = okE (g1 a) en (fun _ en1 => okE (g2 b) en1 k x) fun _ _ => False := by
  unfold okE gTwo
  dsimp only
  cases g1 a en <;> rfl
end PyD

namespace PyD
open PySem PySem.Spec L2 PyProof.Rows
def sgK (x : Str) : List Key := x.cps.toList.map fun c => Sum.inr ⟨#[c]⟩
theorem sgK_v (x : Str) : (sgK x).map kV = sgV x := by
  unfold sgK sgV
  rw [List.map_map]
  rfl
theorem alike_sgT (x : Str) : PySem.W.AllAlike ((sgK x).map pyK) := by
  intro d hd d' hd'
  obtain ⟨p, hp, rfl⟩ := List.mem_map.mp hd
  obtain ⟨p', hp', rfl⟩ := List.mem_map.mp hd'
  obtain ⟨q, _, rfl⟩ := List.mem_map.mp hp
  obtain ⟨q', _, rfl⟩ := List.mem_map.mp hp'
  rfl
def rSortS : List V → Hp → VK → Prop := fun xs H Q => ∃ x : Str, xs = [.str x] ∧ x.cps.size ≤ 16777216 ∧ ∀ p, H p = none → Q (.ref p) (upd H p (.lst ((sortK (sgK x)).map kV)))
theorem cr_sortedS {X : Cx} (hc : X.calm = true) (hu : X.A.units + 64 < cLine) : CallR X (.builtin "sorted") rSortS := by
  intro pins s σ H xs us Q I r h
  obtain ⟨x, rfl, hx, q⟩ := h
  obtain ⟨u, rfl, ru⟩ : ∃ u, us = [u] ∧ RelV (V.str x) u := by cases r with | cons a b => cases b; exact ⟨_, rfl, a⟩
  obtain ⟨t, rfl⟩ := ru
  have hkl : (sgK x).length = x.cps.size := by simp [sgK]
  have hx16 : x.cps.size ≤ sizeLine := hx
  refine Calls.call_function_entry PyProof.Rows.kind_sorted PyProof.Rows.plain_sorted PyProof.Rows.entry_sorted (PyProof.Rows.args_sorted1 _) ?_
  unfold Builtin.«sorted»
  refine wpAny_bind (m := checkCount "sorted" 1 1 _) (wpAny_pure ?_)
  refine wpAny_bind (wpAny_collect_str (A := X.A.in1) (I.ok.hd hc) x t (fun s' acc hk e1 e2 e3 hacc => ?_) hx16)
  obtain ⟨h0, g, dr, tk0, os⟩ := s
  obtain ⟨h', g', dr', tk, os'⟩ := s'
  dsimp only at e1 e2 e3 hk
  subst e1
  subst e2
  subst e3
  have I1 : Inv X pins σ H ⟨h', g', dr', tk, os'⟩ := I.kept (t' := tk) hk
  have hvals : Vals ((sgK x).map kV) acc.toList := by
    rw [sgK_v]
    exact sg_vals hacc
  have hal : acc.toList.length = x.cps.size := by
    rw [← hvals.length, List.length_map, hkl]
  have h16 : acc.toList.length ≤ sizeLine := by rw [hal]; exact hx16
  refine wpAny_bind (wpAny_newList ?_ h16)
  have hoL : (h'.push (seqObj "list" acc.toList.toArray 0)).get? h'.objs.size = some (seqObj "list" acc.toList.toArray 0) := Heap.get?_push_size _ rfl
  show wpAny _ _ _ _ _ ⟨h'.push (seqObj "list" acc.toList.toArray 0), g', dr', tk, os'⟩
  have he := vals_each hvals
  refine wpAny_bind (wpAny_holding (PySem.W.list_sort_data (s := ⟨h'.push (seqObj "list" acc.toList.toArray 0), g', dr', tk, os'⟩) (enc := pyK) hoL he (he.mono fun v k rv => reads_key rv) (alike_sgT x) (sortable_keys _) (by rw [hkl]; exact hx16) (fun k hk => ?_) fun out h1 h2 => ?_))
  · have : (pyK k).depth ≤ 1 := by cases k <;> simp [pyK, PyData.depth]
    have : X.A.in1.units ≤ X.A.units + 2 := by simp [Around.in1]
    have : X.A.in1.in1.units ≤ X.A.units + 2 := by simp [Around.in1]
    omega
  obtain ⟨e', he'⟩ := PyProof.Rows.sortedHeap_at (vs := acc.toList) (out := out.toArray) hoL
  have hlen : ((sortK (sgK x)).map kV).length ≤ sizeLine := by
    rw [List.length_map, sortK, List.length_mergeSort, hkl]
    exact hx16
  refine wpAny_pure ⟨_, rfl, .ref h'.objs.size, upd H h'.objs.size (.lst ((sortK (sgK x)).map kV)), I1.laid (t' := tk) (fun b u e => ?_) (Nat.le_refl _)
    (show ObjOk X.prog X.w _ _ _ (.lst ((sortK (sgK x)).map kV)) from ⟨hlen, out, e', each_valsK h2, he'⟩), rfl, q _ (I1.hok.fresh (Nat.le_refl _))⟩
  have hb : b < h'.objs.size := Heap.lt_size e
  rw [PyProof.Rows.sortedHeap_old (Nat.ne_of_lt hb) (by rw [size_push']; exact Nat.lt_succ_of_lt hb)]
  exact Heap.get?_push_of_some _ e
def sortTD : List D → Option (Bool × D)
  | [.str x] => if x.cps.size ≤ 16777216 then some (true, .lst ((sortK (sgK x)).map dK)) else none
  | _ => none
theorem prim_sortT {K : PySem.W.Frag} : Prim K rSortS sortTD := by
  intro U H ds vs Q b d hU ar e post
  unfold sortTD at e
  split at e
  · split at e
    · rename_i h
      cases e
      obtain ⟨v, rfl, h1⟩ := ar1 ar
      rw [arStr h1]
      exact ⟨_, rfl, h, fun q hq => post _ _ (ext_new hq) (fun z => by cases z) fun _ => newLst hq (dKs_rep _)⟩
    · cases e
  · cases e
theorem sortT_tx {l : List Nat} (h : l.length ≤ 16777216) : ∃ r : List Nat, r.Perm l ∧ sortTD [.str (tx l)] = some (true, .lst (r.map fun c => D.str (tx [c]))) := by
  have hp : (sortK (sgK (tx l))).Perm (sgK (tx l)) := List.mergeSort_perm _ _
  have hk : ∀ k ∈ sortK (sgK (tx l)), ∃ c, k = Sum.inr ⟨#[c]⟩ := fun k hk => by
    obtain ⟨c, _, rfl⟩ := List.mem_map.mp (hp.mem_iff.mp hk)
    exact ⟨c, rfl⟩
  let f : Key → Nat := fun k => match k with
    | .inr s => s.cps.toList.headD 0
    | .inl _ => 0
  refine ⟨(sortK (sgK (tx l))).map f, ?_, ?_⟩
  · have := hp.map f
    rw [show (sgK (tx l)).map f = l by
      unfold sgK
      rw [List.map_map, show (tx l).cps.toList = l from by simp [tx]]
      conv => rhs; rw [← List.map_id l]
      rfl] at this
    exact this
  · show (if (tx l).cps.size ≤ 16777216 then _ else _) = _
    rw [if_pos (by simpa [tx] using h), List.map_map]
    congr 3
    refine List.map_congr_left fun k hk2 => ?_
    obtain ⟨c, rfl⟩ := hk k hk2
    rfl
end PyD

namespace PyD.S
open PySem PySem.Spec L2
def b_order_of : En → Fl :=
  (seqF (asV 1 (opF addD (two (nmF 0) (cF (.str (tx [46]))))))
  (seqF (asV 2 (opF sortUD (consF (lcF (itA rg1D (consF (opF lenD (consF (nmF 1) nilF)) nilF)) (gNm 4) yesT (tupF (consF (opF addD (two (slF slD (nmF 1) (some (nmF 4)) none) (slF slD (nmF 1) none (some (nmF 4))))) (consF (nmF 4) nilF))) [4]) nilF)))
  (rtF (lcF (itA itD (one (nmF 2))) (gTp [3, 4]) yesT (nmF 4) [3, 4]))))
def phi_order_of : List D → Out := runF [false] 4 b_order_of
end PyD.S

namespace PyD.S
open PySem PySem.Spec L2
def b_turned : En → Fl :=
  (seqF (asV 1 (opF addD (two (nmF 0) (cF (.str (tx [46]))))))
  (rtF (bmF isStr joinD (cF (.str (tx []))) (consF (lcF (itA itD (one (callF [false] phi_order_of (consF (nmF 0) nilF)))) (gNm 2) yesT (opF ixUD (two (nmF 1) (opF subD (two (nmF 2) (cF (.int 1)))))) [2]) nilF))))
def phi_turned : List D → Out := runF [false] 2 b_turned
end PyD.S

namespace PyD.S
open PySem PySem.Spec L2
def b_turned_back_v2 : En → Fl :=
  (seqF (ifS (tstB (opF (eqOp true) (two (bmF isStr countD (nmF 0) (consF (cF (.str (tx [46]))) nilF)) (cF (.int 1))))) (rsF .noturned) skF)
  (seqF (asV 1 (opF sortUD (consF (lcF (itA enumSD (consF (nmF 0) nilF)) (gTp [3, 6]) yesT (tupF (consF (nmF 6) (consF (nmF 3) nilF))) [3, 6]) nilF)))
  (seqF (asO 2 (lstF nilF))
  (seqF (asV 3 (opF ixUD (two (opF ixUD (two (nmF 1) (cF (.int 0)))) (cF (.int 1)))))
  (seqF (endF [false, true, false, true, true] (frF (itA rg1D (consF (opF subD (two (opF lenD (consF (nmF 0) nilF)) (cF (.int 1)))) nilF)) (gNm 4) (bodF [false, false, false, false, true, false, true]
  (seqF (asG (gTp [6, 3]) (opF ixUD (two (nmF 1) (nmF 3))))
  (drF (mutF true 2 isLst appM (consF (nmF 6) nilF)))))))
  (seqF (asV 5 (bmF isStr joinD (cF (.str (tx []))) (consF (nmF 2) nilF)))
  (seqF (endF [false, false, true] (ifS (orT (tstB (opF (inUD false) (two (cF (.str (tx [46]))) (nmF 5)))) (tstB (opF (eqOp true) (two (callF [false] phi_turned (consF (nmF 5) nilF)) (nmF 0))))) (rsF .noturned) skF))
  (rtF (nmF 5)))))))))
def phi_turned_back_v2 : List D → Out := runF [false] 6 b_turned_back_v2
end PyD.S

namespace PyD.S
open PySem PySem.Spec L2
def b_lback : En → Fl :=
  (seqF (ifS (tstB (opF (eqOp true) (two (bmF isStr countD (nmF 0) (consF (cF (.str (tx [46]))) nilF)) (cF (.int 1))))) (rtF (cF .non)) skF)
  (seqF (asO 1 (lstF nilF))
  (seqF (endF [false, false, true, true] (frF (itA enumSD (consF (nmF 0) nilF)) (gTp [2, 3]) (bodF [false, false, true, true]
  (drF (mutF true 1 isLst appM (consF (opF addD (two (opF lenD (consF (lcF (itA itD (one (nmF 0))) (gNm 6) (tstB (opF ltD (two (nmF 6) (nmF 3)))) (nmF 6) [6]) nilF)) (bmF isStr countD (slF slD (nmF 0) none (some (nmF 2))) (consF (nmF 3) nilF)))) nilF))))))
  (seqF (asV 2 (cF (.int 0)))
  (seqF (asO 4 (lstF nilF))
  (seqF (endF [false, true, false, false, false, true] (frF (itA rg1D (consF (opF subD (two (opF lenD (consF (nmF 0) nilF)) (cF (.int 1)))) nilF)) (gNm 5) (seqF (drF (mutF true 4 isLst appM (consF (opF ixUD (two (nmF 0) (nmF 2))) nilF)))
  (seqF (asV 2 (opF ixUD (two (nmF 1) (nmF 2))))
  (endF [false, false, false, false, false, true] (ifS (tstB (opF (eqOp false) (two (nmF 2) (cF (.int 0))))) (rtF (cF .non)) skF))))))
  (rtF (ifF (tstB (opF (eqOp false) (two (opF ixUD (two (nmF 0) (nmF 2))) (cF (.str (tx [46])))))) (opF revLD (two (bmF isStr joinD (cF (.str (tx []))) (consF (nmF 4) nilF)) (opF negD (one (cF (.int 1)))))) (cF .non)))))))))
def phi_lback : List D → Out := runF [false] 6 b_lback
end PyD.S

namespace PyD.S
open PySem PySem.Spec L2
def b_lright_v11 : En → Fl :=
  (seqF (asV 1 (callF [false] phi_lback (consF (nmF 0) nilF)))
  (seqF (asV 2 (cF .non))
  (seqF (asV 3 (cF .non))
  (seqF (endF [false, false, false, false, true] (tryF [.pin, .many, .noturned, .norow, .round, .missed, .notext] .pin 4
  (asV 2 (callF [false] phi_turned_back_v2 (consF (nmF 0) nilF)))
  (asV 3 (nmF 4))))
  (seqF (endF [false, true, true] (ifS (tstB (opF (isOp true) (two (nmF 1) (cF .non)))) (rtF (andF (opF (isiD "str") (one (nmF 2))) (opF (eqOp false) (two (nmF 2) (nmF 1))))) skF))
  (seqF (ifS (tstF (opF (isxTD [.pin, .many, .noturned, .norow, .round, .missed, .notext] [.round, .missed, .norow, .notext, .many]) (one (nmF 3)))) (rtF (cF (.bl false))) skF)
  (rtF (andF (opF (isxD [.pin, .many, .noturned, .norow, .round, .missed, .notext] .noturned) (one (nmF 3))) (opF (isvD [.pin, .many, .noturned, .norow, .round, .missed, .notext]) (one (nmF 3)))))))))))
def phi_lright_v11 : List D → Out := runF [false] 4 b_lright_v11
end PyD.S

namespace PyD.S
open PySem PySem.Spec L2
def b_lpick : En → Fl :=
  (seqF (asV 2 (opF modD (two (opF ixUD (two (nmF 0) (cF (.int 0)))) (nmF 1))))
  (seqF (stF 0 (cF (.int 0)) (opF fdvD (two (opF ixUD (two (nmF 0) (cF (.int 0)))) (nmF 1))) setD)
  (rtF (nmF 2))))
def phi_lpick : List D → Out := runF [true, false] 1 b_lpick
end PyD.S

namespace PyD.S
open PySem PySem.Spec L2
def b_lbent_v6 : En → Fl :=
  (seqF (asV 2 (callF [true, false] phi_lpick (consF (nmF 0) (consF (opF lenD (consF (nmF 1) nilF)) nilF))))
  (seqF (asV 3 (callF [true, false] phi_lpick (consF (nmF 0) (consF (opF lenD (consF (nmF 1) nilF)) nilF))))
  (seqF (asV 4 (opF ixUD (two (cF (.str (tx [97, 98, 119, 122, 46]))) (callF [true, false] phi_lpick (consF (nmF 0) (consF (cF (.int 5)) nilF))))))
  (seqF (asO 5 (opF listSD (consF (nmF 1) nilF)))
  (seqF (asG (gTwo (gSt 5 (nmF 2) setD) (gSt 5 (nmF 3) setD)) (tupF (consF (opF ixUD (two (nmF 5) (nmF 3))) (consF (opF ixUD (two (nmF 5) (nmF 2))) nilF))))
  (seqF (asO 6 (lstF (consF (opF addD (two (slF slD (nmF 1) none (some (nmF 2))) (slF slD (nmF 1) (some (opF addD (two (nmF 2) (cF (.int 1))))) none))) (consF (opF addD (two (opF addD (two (slF slD (nmF 1) none (some (nmF 2))) (opF ixUD (two (nmF 1) (nmF 2))))) (slF slD (nmF 1) (some (nmF 2)) none))) (consF (opF addD (two (opF addD (two (slF slD (nmF 1) none (some (nmF 2))) (nmF 4))) (slF slD (nmF 1) (some (opF addD (two (nmF 2) (cF (.int 1))))) none))) nilF)))))
  (seqF (drF (mutF true 6 isLst appM (consF (bmF isStr joinD (cF (.str (tx []))) (consF (nmF 5) nilF)) nilF)))
  (seqF (asO 6 (opF addD (two (nmF 6) (lstF (consF (opF addD (two (opF addD (two (slF slD (nmF 1) none (some (nmF 2))) (cF (.str (tx [46]))))) (slF slD (nmF 1) (some (nmF 2)) none))) (consF (replF (tx [46]) (tx []) (nmF 1)) (consF (opF revD (two (nmF 1) (opF negD (one (cF (.int 1)))))) (consF (opF addD (two (slF slD (nmF 1) (some (nmF 2)) none) (slF slD (nmF 1) none (some (nmF 2))))) nilF))))))))
  (seqF (drF (mutF true 6 isLst appM (consF (bmF isStr joinD (cF (.str (tx []))) (consF (opF sortTD (consF (nmF 1) nilF)) nilF)) nilF)))
  (rtF (opF ixUD (two (nmF 6) (callF [true, false] phi_lpick (consF (nmF 0) (consF (cF (.int 9)) nilF)))))))))))))))
def phi_lbent_v6 : List D → Out := runF [true, false] 5 b_lbent_v6
end PyD.S

namespace PyD.S
open PySem PySem.Spec L2
def b_ltext_v3 : En → Fl :=
  (seqF (asV 2 (opF ixUD (two (lstF (consF (cF (.str (tx [97]))) (consF (cF (.str (tx [97, 98]))) (consF (cF (.str (tx [98, 97, 99]))) (consF (cF (.str (tx [122, 121, 120, 119]))) nilF))))) (callF [true, false] phi_lpick (consF (nmF 0) (consF (cF (.int 4)) nilF))))))
  (seqF (ifS (tstF (opF ixUD (two (nmF 0) (cF (.int 1))))) (asV 2 (cF (.str (tx [113, 97, 122, 119, 115, 120, 101, 100, 99, 114, 102, 118, 116, 103, 98, 121, 104, 110, 117, 106, 109, 105, 107, 111, 108, 112])))) skF)
  (seqF (asV 3 (callF [true, false] phi_lpick (consF (nmF 0) (consF (opF addD (two (nmF 1) (cF (.int 1)))) nilF))))
  (seqF (asV 4 (callF [true, false] phi_lpick (consF (nmF 0) (consF (cF (.int 5)) nilF))))
  (seqF (asV 5 (lcF (itA rg1D (consF (opF addD (two (cF (.int 1)) (callF [true, false] phi_lpick (consF (nmF 0) (consF (cF (.int 5)) nilF))))) nilF)) (gNm 10) yesT (opF ixUD (two (nmF 2) (callF [true, false] phi_lpick (consF (nmF 0) (consF (opF lenD (consF (nmF 2) nilF)) nilF))))) [10]))
  (seqF (asV 6 (bmF isStr joinD (cF (.str (tx []))) (consF (nmF 5) nilF)))
  (seqF (endF [false, false, false, false, false, true] (ifS (tstB (opF (eqOp false) (two (nmF 4) (cF (.int 1))))) (asV 6 (opF mulVD (two (nmF 6) (opF addD (two (nmF 1) (cF (.int 1))))))) skF))
  (seqF (endF [false, false, false, false, false, false, false, true] (ifS (tstB (opF (eqOp false) (two (nmF 4) (cF (.int 2))))) (seqF (endF [false, false, false, false, false, false, true] (asP 7 8 (consF (nmF 6) (consF (opF ixUD (two (nmF 2) (opF negD (one (cF (.int 1)))))) nilF))))
  (seqF (endF [false, false, false, false, false, false, false, false, true] (whF (tstB (opF ltD (two (opF lenD (consF (nmF 7) nilF)) (nmF 3)))) (asP 7 8 (consF (opF addD (two (nmF 7) (nmF 8))) (consF (nmF 7) nilF))) 100000))
  (asV 6 (nmF 7)))) skF))
  (seqF (whF (andT (tstB (opF gtD (two (nmF 4) (cF (.int 2))))) (tstB (opF ltD (two (opF lenD (consF (nmF 6) nilF)) (nmF 3))))) (bodF [false, false, false, false, false, false, false, false, false, true]
  (seqF (asV 9 (callF [true, false] phi_lpick (consF (nmF 0) (consF (opF lenD (consF (nmF 6) nilF)) nilF))))
  (asV 6 (opF addD (two (opF addD (two (nmF 6) (slF slD (nmF 6) (some (nmF 9)) (some (opF addD (two (opF addD (two (nmF 9) (cF (.int 1)))) (callF [true, false] phi_lpick (consF (nmF 0) (consF (cF (.int 6)) nilF))))))))) (opF ixUD (two (nmF 2) (callF [true, false] phi_lpick (consF (nmF 0) (consF (opF lenD (consF (nmF 2) nilF)) nilF)))))))))) 100000)
  (seqF (endF [false, false, true, false, true] (whF (andT (tstB (opF (eqOp false) (two (nmF 4) (cF (.int 0))))) (tstB (opF ltD (two (opF lenD (consF (nmF 6) nilF)) (nmF 3))))) (asV 6 (opF addD (two (nmF 6) (opF ixUD (two (nmF 2) (callF [true, false] phi_lpick (consF (nmF 0) (consF (opF lenD (consF (nmF 2) nilF)) nilF)))))))) 100000))
  (rtF (slF slD (nmF 6) none (some (nmF 3))))))))))))))
def phi_ltext_v3 : List D → Out := runF [true, false] 9 b_ltext_v3
end PyD.S

namespace PyD.S
open PySem PySem.Spec L2
def b_lreel_v2 : En → Fl :=
  (seqF (asV 2 (opF addD (two (opF mulVD (two (cF (.int 6)) (nmF 1))) (cF (.int 5)))))
  (seqF (ifS (tstB (opF ltD (two (nmF 1) (opF lenD (consF (nmF 0) nilF))))) (asV 2 (opF ixUD (two (nmF 0) (nmF 1)))) skF)
  (seqF (ifS (tstB (opF (eqOp false) (two (opF modD (two (nmF 2) (cF (.int 5)))) (cF (.int 2))))) (rtF (lstF (consF (opF fdvD (two (nmF 2) (cF (.int 5)))) (consF (opF (eqOp false) (two (opF modD (two (opF lenD (consF (nmF 0) nilF)) (cF (.int 8)))) (cF (.int 5)))) nilF)))) skF)
  (seqF (asV 3 (opF modD (two (opF addD (two (opF addD (two (opF mulVD (two (opF modD (two (nmF 2) (cF (.int 2147483423)))) (cF (.int 60013)))) (opF mulVD (two (cF (.int 811)) (nmF 1))))) (cF (.int 23)))) (cF (.int 2147483423)))))
  (seqF (endF [false, false, true] (asV 4 (cF (.int 0))))
  (seqF (endF [false, false, false, true, false, true] (frF (itA rg1D (consF (cF (.int 60)) nilF)) (gNm 5) (bodF [false, false, false, false, false, true]
  (seqF (asV 3 (opF modD (two (opF addD (two (opF addD (two (opF addD (two (opF mulVD (two (nmF 3) (nmF 3))) (opF mulVD (two (cF (.int 70001)) (nmF 3))))) (opF mulVD (two (cF (.int 31)) (nmF 5))))) (cF (.int 9)))) (cF (.int 2147483423)))))
  (asV 4 (opF addD (two (opF mulVD (two (nmF 4) (cF (.int 2147483423)))) (nmF 3))))))))
  (rtF (lstF (consF (nmF 4) (consF (opF (eqOp false) (two (opF modD (two (opF lenD (consF (nmF 0) nilF)) (cF (.int 8)))) (cF (.int 5)))) nilF))))))))))
def phi_lreel_v2 : List D → Out := runF [false, false] 4 b_lreel_v2
end PyD.S

namespace PyD.S
open PySem PySem.Spec L2
def b_law_k34 : En → Fl :=
  (seqF (endF [false, true] (frF (itA itD (one (lstF (consF (cF (.str (tx []))) (consF (cF (.str (tx [46]))) (consF (cF (.str (tx [46, 46]))) (consF (cF (.str (tx [97]))) (consF (cF (.str (tx [97, 46]))) (consF (cF (.str (tx [46, 97]))) (consF (cF (.str (tx [97, 97, 46]))) (consF (cF (.str (tx [97, 46, 97]))) (consF (cF (.str (tx [46, 97, 97]))) (consF (cF (.str (tx [97, 98, 46]))) nilF))))))))))))) (gNm 1) (endF [false, true] (ifS (notT (tstF (callF [false] phi_lright_v11 (consF (nmF 1) nilF)))) (rtF (cF (.bl false))) skF))))
  (seqF (endF [false, false, true] (frF (itA rg1D (consF (opF max2D (consF (cF (.int 2)) (consF (opF min2D (consF (cF (.int 6)) (consF (opF lenD (consF (nmF 0) nilF)) nilF))) nilF))) nilF)) (gNm 2) (seqF (asO 3 (callF [false, false] phi_lreel_v2 (consF (nmF 0) (consF (nmF 2) nilF))))
  (seqF (asV 4 (callF [true, false] phi_ltext_v3 (consF (nmF 3) (consF (opF ixUD (two (lstF (consF (cF (.int 40)) (consF (cF (.int 150)) nilF))) (opF intD (consF (andF (opF ixUD (two (nmF 3) (cF (.int 1)))) (opF (eqOp false) (two (nmF 2) (cF (.int 0))))) nilF)))) nilF))))
  (seqF (asV 1 (callF [false] phi_turned (consF (nmF 4) nilF)))
  (seqF (endF [false, false, true, false, true] (ifS (orT (tstB (opF (eqOp true) (two (callF [false] phi_turned_back_v2 (consF (nmF 1) nilF)) (nmF 4)))) (notT (tstF (callF [false] phi_lright_v11 (consF (nmF 1) nilF))))) (rtF (cF (.bl false))) skF))
  (seqF (endF [false, true, false, false, false, true] (frF (itA rg1D (consF (cF (.int 6)) nilF)) (gNm 5) (endF [false, false, false, false, false, true] (ifS (notT (tstF (callF [false] phi_lright_v11 (consF (callF [true, false] phi_lbent_v6 (consF (nmF 3) (consF (nmF 1) nilF))) nilF)))) (rtF (cF (.bl false))) skF))))
  (seqF (asV 6 (bmF isStr joinD (cF (.str (tx []))) (consF (lcF (itA rg1D (consF (callF [true, false] phi_lpick (consF (nmF 3) (consF (cF (.int 8)) nilF))) nilF)) (gNm 5) yesT (opF ixUD (two (cF (.str (tx [46, 97, 98]))) (callF [true, false] phi_lpick (consF (nmF 3) (consF (cF (.int 3)) nilF))))) [5]) nilF)))
  (endF [false, false, false, true, false, false, true] (ifS (notT (tstF (callF [false] phi_lright_v11 (consF (nmF 6) nilF)))) (rtF (cF (.bl false))) skF))))))))))
  (rtF (cF (.bl true)))))
def phi_law_k34 : List D → Out := runF [false] 6 b_law_k34
end PyD.S

section
set_option maxHeartbeats 2000000
namespace PyD.k34
open PySem PySem.Spec L2 PyD.S
def topS (i : Nat) : Stmt := PySem.Challenge.pw_touchpin_k34_turned_back_or_none.main.body.getD i (.Pass ⟨0, 0, 0, 0⟩)
theorem lit_ : ("" : Str) = (tx []) := by decide +kernel
theorem lit_2e : ("." : Str) = (tx [46]) := by decide +kernel
theorem lit_2e_2e : (".." : Str) = (tx [46, 46]) := by decide +kernel
theorem lit_2e_61 : (".a" : Str) = (tx [46, 97]) := by decide +kernel
theorem lit_2e_61_61 : (".aa" : Str) = (tx [46, 97, 97]) := by decide +kernel
theorem lit_2e_61_62 : (".ab" : Str) = (tx [46, 97, 98]) := by decide +kernel
theorem lit_61 : ("a" : Str) = (tx [97]) := by decide +kernel
theorem lit_61_2e : ("a." : Str) = (tx [97, 46]) := by decide +kernel
theorem lit_61_2e_61 : ("a.a" : Str) = (tx [97, 46, 97]) := by decide +kernel
theorem lit_61_61_2e : ("aa." : Str) = (tx [97, 97, 46]) := by decide +kernel
theorem lit_61_62 : ("ab" : Str) = (tx [97, 98]) := by decide +kernel
theorem lit_61_62_2e : ("ab." : Str) = (tx [97, 98, 46]) := by decide +kernel
theorem lit_61_62_77_7a_2e : ("abwz." : Str) = (tx [97, 98, 119, 122, 46]) := by decide +kernel
theorem lit_62_61_63 : ("bac" : Str) = (tx [98, 97, 99]) := by decide +kernel
theorem lit_71f766a1888f : ("qazwsxedcrfvtgbyhnujmikolp" : Str) = (tx [113, 97, 122, 119, 115, 120, 101, 100, 99, 114, 102, 118, 116, 103, 98, 121, 104, 110, 117, 106, 109, 105, 107, 111, 108, 112]) := by decide +kernel
theorem lit_7a_79_78_77 : ("zyxw" : Str) = (tx [122, 121, 120, 119]) := by decide +kernel
abbrev st_order_of : Stmt := topS 10
theorem sc_order_of : FnScope ["text", "whole", "turns", "turn", "place"] ["text"] (defScope st_order_of) := ⟨rfl, rfl, rfl, by decide +kernel, rfl, by decide +kernel, by decide +kernel⟩
theorem ok_order_of {P : Program} {w : World} {K : PySem.W.Frag} {mg : Str → Option Value} {base : Heap} {f : Addr} {fd : FuncData} (m_len : mg "len" = none) (m_range : mg "range" = none) (m_sorted : mg "sorted" = none) (c_POINT : ∃ t, mg "POINT" = some (.str "." t)) (F : Fun K "order_of" "order_of" st_order_of f fd) (hm : mg "order_of" = some (.ref f)) :
    DefAt P w K mg base "order_of" 1 ["text"] [false] phi_order_of := by
  refine DefAt.mk (lev := 0) (k := 4) F hm (F.binds (ps := ["text"]) fun _ _ _ _ _ _ us hl => match us, hl with | [_], _ => rfl) sc_order_of rfl rfl (fun cdv A outer s H E hr => ?_) rfl
  have sc := sc_order_of
  have tk : Takes (cxOf (L2.CX P w) P w K mg base ["text", "whole", "turns", "turn", "place"] "order_of" (defScope st_order_of) f cdv A outer s H E) (fun cls d _ H => E cls d H) := takes_of rfl rfl rfl rfl
  have ps : PassesOwn (model P w) (cxOf (L2.CX P w) P w K mg base ["text", "whole", "turns", "turn", "place"] "order_of" (defScope st_order_of) f cdv A outer s H E).A (cxOf (L2.CX P w) P w K mg base ["text", "whole", "turns", "turn", "place"] "order_of" (defScope st_order_of) f cdv A outer s H E).env (cxOf (L2.CX P w) P w K mg base ["text", "whole", "turns", "turn", "place"] "order_of" (defScope st_order_of) f cdv A outer s H E).xe := passes_of rfl
  exact ((s_cons (s_asV (i := 1) sc.nd (e_bin op_addU prim_add (e_nm 0) (e_gsT lit_2e c_POINT (by rfl))))
    (s_cons (s_asV (i := 2) sc.nd (e_callB (cr_sortedU rfl hr.units) prim_sortU (by rfl) m_sorted PyProof.Rows.boot_sorted (a_cons (e_lc (own := [("place", 4)]) (tgNm 4) rfl sc.nd (i_rg1 (by rfl) m_range (a_cons (e_callB cr_lenU prim_len (by rfl) m_len PySem.boot_len (a_cons (e_nm 1) a_nil)) a_nil)) (blkOk_by (by rfl)) (fun _ _ _ _ _ => (pg_name sc.nd rfl (by first | exact .inl rfl | exact .inr rfl))) (fun _ _ _ _ _ => pts_0) (fun _ _ _ _ _ => (e_tupD (a_cons (e_bin op_addU prim_add (e_slice sl_U prim_sl (e_nm 1) (o_some (e_nm 4)) o_none) (e_slice sl_U prim_sl (e_nm 1) o_none (o_some (e_nm 4)))) (a_cons (e_nm 4) a_nil))))) a_nil)))
    (s_one (s_ret (e_lc (own := [("turn", 3), ("place", 4)]) (tgTp [3, 4]) rfl sc.nd (i_seq (e_nm 2)) (blkOk_by (by rfl)) (fun _ _ _ _ _ => (pg_tup rfl (pgs_cons (pg_name (i := 3) sc.nd rfl (by first | exact .inl rfl | exact .inr rfl)) (pgs_cons (pg_name (i := 4) sc.nd rfl (by first | exact .inl rfl | exact .inr rfl)) pgs_nil)))) (fun _ _ _ _ _ => pts_0) (fun _ _ _ _ _ => (e_nm 4))))))))
abbrev st_turned : Stmt := topS 11
theorem sc_turned : FnScope ["text", "whole", "place"] ["text"] (defScope st_turned) := ⟨rfl, rfl, rfl, by decide +kernel, rfl, by decide +kernel, by decide +kernel⟩
theorem ok_turned {P : Program} {w : World} {K : PySem.W.Frag} {mg : Str → Option Value} {base : Heap} {f : Addr} {fd : FuncData} (c_POINT : ∃ t, mg "POINT" = some (.str "." t)) (g_order_of : DefAt P w K mg base "order_of" 1 ["text"] [false] phi_order_of) (F : Fun K "turned" "turned" st_turned f fd) (hm : mg "turned" = some (.ref f)) :
    DefAt P w K mg base "turned" 2 ["text"] [false] phi_turned := by
  refine DefAt.mk (lev := 1) (k := 2) F hm (F.binds (ps := ["text"]) fun _ _ _ _ _ _ us hl => match us, hl with | [_], _ => rfl) sc_turned rfl rfl (fun cdv A outer s H E hr => ?_) rfl
  have sc := sc_turned
  have tk : Takes (cxOf (L2.CX P w) P w K mg base ["text", "whole", "place"] "turned" (defScope st_turned) f cdv A outer s H E) (fun cls d _ H => E cls d H) := takes_of rfl rfl rfl rfl
  have ps : PassesOwn (model P w) (cxOf (L2.CX P w) P w K mg base ["text", "whole", "place"] "turned" (defScope st_turned) f cdv A outer s H E).A (cxOf (L2.CX P w) P w K mg base ["text", "whole", "place"] "turned" (defScope st_turned) f cdv A outer s H E).env (cxOf (L2.CX P w) P w K mg base ["text", "whole", "place"] "turned" (defScope st_turned) f cdv A outer s H E).xe := passes_of rfl
  exact ((s_cons (s_asV (i := 1) sc.nd (e_bin op_addU prim_add (e_nm 0) (e_gsT lit_2e c_POINT (by rfl))))
    (s_one (s_ret (e_bm ta_str prim_join PySem.F.plainAttrs_str PySem.F.slot_str_join PySem.F.type_str_join mt_join (e_strT lit_) (a_cons (e_lc (own := [("place", 2)]) (tgNm 2) rfl sc.nd (i_seq (e_callD g_order_of (hr.mono (by omega)) tk (a_cons (e_nm 0) a_nil))) (blkOk_by (by rfl)) (fun _ _ _ _ _ => (pg_name sc.nd rfl (by first | exact .inl rfl | exact .inr rfl))) (fun _ _ _ _ _ => pts_0) (fun _ _ _ _ _ => (e_ix (ix_U (hu_of hr)) prim_ixU (e_nm 1) (e_bin op_subU prim_sub (e_nm 2) e_int) (fun _ _ => rfl)))) a_nil))))))
abbrev st_turned_back : Stmt := topS 12
theorem sc_turned_back : FnScope ["last", "order", "signs", "row", "turn", "text", "sign"] ["last"] (defScope st_turned_back) := ⟨rfl, rfl, rfl, by decide +kernel, rfl, by decide +kernel, by decide +kernel⟩
theorem ok_turned_back {P : Program} {w : World} {K : PySem.W.Frag} {mg : Str → Option Value} {base : Heap} {f : Addr} {fd : FuncData} (m_enumerate : mg "enumerate" = none) (m_len : mg "len" = none) (m_range : mg "range" = none) (m_sorted : mg "sorted" = none) (c_POINT : ∃ t, mg "POINT" = some (.str "." t)) (g_turned : DefAt P w K mg base "turned" 2 ["text"] [false] phi_turned) {c_pin c_many c_noturned c_norow c_round c_missed c_notext : Addr} (xT : XT K [(.pin, c_pin), (.many, c_many), (.noturned, c_noturned), (.norow, c_norow), (.round, c_round), (.missed, c_missed), (.notext, c_notext)]) (gx_noturned : mg "NoTurned" = some (.ref c_noturned)) (ei_noturned : PySem.W.excIn K c_noturned [.type "ValueError", .type "Exception", .type "BaseException", .type "object"] "ValueError.__new__" = true) (F : Fun K "turned_back" "turned_back" st_turned_back f fd) (hm : mg "turned_back" = some (.ref f)) :
    DefAt P w K mg base "turned_back" 3 ["last"] [false] phi_turned_back_v2 := by
  refine DefAt.mk (lev := 2) (k := 6) F hm (F.binds (ps := ["last"]) fun _ _ _ _ _ _ us hl => match us, hl with | [_], _ => rfl) sc_turned_back rfl rfl (fun cdv A outer s H E hr => ?_) rfl
  have sc := sc_turned_back
  have tk : Takes (cxOf (L2.CX P w) P w K mg base ["last", "order", "signs", "row", "turn", "text", "sign"] "turned_back" (defScope st_turned_back) f cdv A outer s H E) (fun cls d _ H => E cls d H) := takes_of rfl rfl rfl rfl
  have ps : PassesOwn (model P w) (cxOf (L2.CX P w) P w K mg base ["last", "order", "signs", "row", "turn", "text", "sign"] "turned_back" (defScope st_turned_back) f cdv A outer s H E).A (cxOf (L2.CX P w) P w K mg base ["last", "order", "signs", "row", "turn", "text", "sign"] "turned_back" (defScope st_turned_back) f cdv A outer s H E).env (cxOf (L2.CX P w) P w K mg base ["last", "order", "signs", "row", "turn", "text", "sign"] "turned_back" (defScope st_turned_back) f cdv A outer s H E).xe := passes_of rfl
  exact ((s_cons (s_if (t_cmp (op_neU hr.units) prim_eq (e_bm ta_str prim_count PySem.F.plainAttrs_str PySem.F.slot_str_count PySem.F.type_str_count mt_count (e_nm 0) (a_cons (e_gsT lit_2e c_POINT (by rfl)) a_nil)) e_int (nomark _)) (s_one (s_raise1 rfl tk (xT.cl _ _ (List.mem_cons_of_mem _ (List.mem_cons_of_mem _ (List.mem_cons_self)))) ei_noturned gx_noturned)) s_nil)
    (s_cons (s_asV (i := 1) sc.nd (e_callB (cr_sortedU rfl hr.units) prim_sortU (by rfl) m_sorted PyProof.Rows.boot_sorted (a_cons (e_lc (own := [("row", 3), ("sign", 6)]) (tgTp [3, 6]) rfl sc.nd (i_enumS (by rfl) m_enumerate (a_cons (e_nm 0) a_nil)) (blkOk_by (by rfl)) (fun _ _ _ _ _ => (pg_tup rfl (pgs_cons (pg_name (i := 3) sc.nd rfl (by first | exact .inl rfl | exact .inr rfl)) (pgs_cons (pg_name (i := 6) sc.nd rfl (by first | exact .inl rfl | exact .inr rfl)) pgs_nil)))) (fun _ _ _ _ _ => pts_0) (fun _ _ _ _ _ => (e_tupD (a_cons (e_nm 6) (a_cons (e_nm 3) a_nil))))) a_nil)))
    (s_cons (s_asO (i := 2) sc.nd (e_lstD a_nil))
    (s_cons (s_asV (i := 3) sc.nd (e_ix (ix_U (hu_of hr)) prim_ixU (e_ix (ix_U (hu_of hr)) prim_ixU (e_nm 1) e_int (fun _ _ => rfl)) e_int (fun _ _ => rfl)))
    (s_cons (s_end (s_for ps rfl (i_rg1 (by rfl) m_range (a_cons (e_bin op_subU prim_sub (e_callB cr_lenU prim_len (by rfl) m_len PySem.boot_len (a_cons (e_nm 0) a_nil)) e_int) a_nil)) (g_nm sc.nd) (s_bod (s_cons (s_asG (e_ix (ix_U (hu_of hr)) prim_ixU (e_nm 1) (e_nm 3) (fun _ _ => rfl)) (g_tup rfl (g_cons sc.nd (g_cons sc.nd g_nil))))
    (s_one (s_expr (e_mut ty_lst prim_append PySem.F.plainAttrs_list PySem.F.slot_list_append PySem.F.type_list_append mt_append (pv 2) (a_cons (e_nm 6) a_nil))))))))
    (s_cons (s_asV (i := 5) sc.nd (e_bm ta_str prim_join PySem.F.plainAttrs_str PySem.F.slot_str_join PySem.F.type_str_join mt_join (e_strT lit_) (a_cons (e_nm 2) a_nil)))
    (s_cons (s_end (s_if (w_or (t_cmp (op_inV (hu_of hr)) prim_inU (e_gsT lit_2e c_POINT (by rfl)) (e_nm 5) (by rfl)) (w_or1 (t_cmp (op_neU hr.units) prim_eq (e_callD g_turned (hr.mono (by omega)) tk (a_cons (e_nm 5) a_nil)) (e_nm 0) (nomark _)))).pt (s_one (s_raise1 rfl tk (xT.cl _ _ (List.mem_cons_of_mem _ (List.mem_cons_of_mem _ (List.mem_cons_self)))) ei_noturned gx_noturned)) s_nil))
    (s_one (s_ret (e_nm 5)))))))))))
abbrev st_lback : Stmt := topS 17
theorem sc_lback : FnScope ["last", "there", "row", "sign", "signs", "turn", "one"] ["last"] (defScope st_lback) := ⟨rfl, rfl, rfl, by decide +kernel, rfl, by decide +kernel, by decide +kernel⟩
theorem ok_lback {P : Program} {w : World} {K : PySem.W.Frag} {mg : Str → Option Value} {base : Heap} {f : Addr} {fd : FuncData} (m_enumerate : mg "enumerate" = none) (m_len : mg "len" = none) (m_range : mg "range" = none) (F : Fun K "_law_back" "_law_back" st_lback f fd) (hm : mg "_law_back" = some (.ref f)) :
    DefAt P w K mg base "_law_back" 1 ["last"] [false] phi_lback := by
  refine DefAt.mk (lev := 0) (k := 6) F hm (F.binds (ps := ["last"]) fun _ _ _ _ _ _ us hl => match us, hl with | [_], _ => rfl) sc_lback rfl rfl (fun cdv A outer s H E hr => ?_) rfl
  have sc := sc_lback
  have tk : Takes (cxOf (L2.CX P w) P w K mg base ["last", "there", "row", "sign", "signs", "turn", "one"] "_law_back" (defScope st_lback) f cdv A outer s H E) (fun cls d _ H => E cls d H) := takes_of rfl rfl rfl rfl
  have ps : PassesOwn (model P w) (cxOf (L2.CX P w) P w K mg base ["last", "there", "row", "sign", "signs", "turn", "one"] "_law_back" (defScope st_lback) f cdv A outer s H E).A (cxOf (L2.CX P w) P w K mg base ["last", "there", "row", "sign", "signs", "turn", "one"] "_law_back" (defScope st_lback) f cdv A outer s H E).env (cxOf (L2.CX P w) P w K mg base ["last", "there", "row", "sign", "signs", "turn", "one"] "_law_back" (defScope st_lback) f cdv A outer s H E).xe := passes_of rfl
  exact ((s_cons (s_if (t_cmp (op_neU hr.units) prim_eq (e_bm ta_str prim_count PySem.F.plainAttrs_str PySem.F.slot_str_count PySem.F.type_str_count mt_count (e_nm 0) (a_cons (e_strT lit_2e) a_nil)) e_int (nomark _)) (s_one (s_ret e_non)) s_nil)
    (s_cons (s_asO (i := 1) sc.nd (e_lstD a_nil))
    (s_cons (s_end (s_for ps rfl (i_enumS (by rfl) m_enumerate (a_cons (e_nm 0) a_nil)) (g_tup rfl (g_cons sc.nd (g_cons sc.nd g_nil))) (s_bod (s_one (s_expr (e_mut ty_lst prim_append PySem.F.plainAttrs_list PySem.F.slot_list_append PySem.F.type_list_append mt_append (pv 1) (a_cons (e_bin op_addU prim_add (e_callB cr_lenU prim_len (by rfl) m_len PySem.boot_len (a_cons (e_lc (own := [("one", 6)]) (tgNm 6) rfl sc.nd (i_seq (e_nm 0)) (blkOk_by (by rfl)) (fun _ _ _ _ _ => (pg_name sc.nd rfl (by first | exact .inl rfl | exact .inr rfl))) (fun _ _ _ _ _ => (pts_1 (t_cmp op_ltU prim_ord (e_nm 6) (e_nm 3) (nomark _)))) (fun _ _ _ _ _ => (e_nm 6))) a_nil)) (e_bm ta_str prim_count PySem.F.plainAttrs_str PySem.F.slot_str_count PySem.F.type_str_count mt_count (e_slice sl_U prim_sl (e_nm 0) o_none (o_some (e_nm 2))) (a_cons (e_nm 3) a_nil))) a_nil)))))))
    (s_cons (s_asV (i := 2) sc.nd e_int)
    (s_cons (s_asO (i := 4) sc.nd (e_lstD a_nil))
    (s_cons (s_end (s_for ps rfl (i_rg1 (by rfl) m_range (a_cons (e_bin op_subU prim_sub (e_callB cr_lenU prim_len (by rfl) m_len PySem.boot_len (a_cons (e_nm 0) a_nil)) e_int) a_nil)) (g_nm sc.nd) (s_cons (s_expr (e_mut ty_lst prim_append PySem.F.plainAttrs_list PySem.F.slot_list_append PySem.F.type_list_append mt_append (pv 4) (a_cons (e_ix (ix_U (hu_of hr)) prim_ixU (e_nm 0) (e_nm 2) (fun _ _ => rfl)) a_nil)))
    (s_cons (s_asV (i := 2) sc.nd (e_ix (ix_U (hu_of hr)) prim_ixU (e_nm 1) (e_nm 2) (fun _ _ => rfl)))
    (s_one (s_end (s_if (t_cmp (op_eqU hr.units) prim_eq (e_nm 2) e_int (nomark _)) (s_one (s_ret e_non)) s_nil)))))))
    (s_one (s_ret (e_if (t_cmp (op_eqU hr.units) prim_eq (e_ix (ix_U (hu_of hr)) prim_ixU (e_nm 0) (e_nm 2) (fun _ _ => rfl)) (e_strT lit_2e) (nomark _)) (e_revL (e_bm ta_str prim_join PySem.F.plainAttrs_str PySem.F.slot_str_join PySem.F.type_str_join mt_join (e_strT lit_) (a_cons (e_nm 4) a_nil)) (e_un un_neg prim_neg e_int)) e_non))))))))))
abbrev st_lright : Stmt := topS 19
theorem sc_lright : FnScope ["last", "due", "found", "caught", "e"] ["last"] (defScope st_lright) := ⟨rfl, rfl, rfl, by decide +kernel, rfl, by decide +kernel, by decide +kernel⟩
theorem ok_lright {P : Program} {w : World} {K : PySem.W.Frag} {mg : Str → Option Value} {base : Heap} {f : Addr} {fd : FuncData} (m_ValueError : mg "ValueError" = none) (m_isinstance : mg "isinstance" = none) (m_str : mg "str" = none) (g_turned_back : DefAt P w K mg base "turned_back" 3 ["last"] [false] phi_turned_back_v2) (g_lback : DefAt P w K mg base "_law_back" 1 ["last"] [false] phi_lback) {c_pin c_many c_noturned c_norow c_round c_missed c_notext : Addr} (xT : XT K [(.pin, c_pin), (.many, c_many), (.noturned, c_noturned), (.norow, c_norow), (.round, c_round), (.missed, c_missed), (.notext, c_notext)]) (gx_round : mg "GoesRound" = some (.ref c_round)) (gx_missed : mg "Missed" = some (.ref c_missed)) (gx_norow : mg "NoRow" = some (.ref c_norow)) (gx_notext : mg "NoText" = some (.ref c_notext)) (gx_noturned : mg "NoTurned" = some (.ref c_noturned)) (gx_pin : mg "PinError" = some (.ref c_pin)) (gx_many : mg "TooMany" = some (.ref c_many)) (F : Fun K "_law_right" "_law_right" st_lright f fd) (hm : mg "_law_right" = some (.ref f)) :
    DefAt P w K mg base "_law_right" 4 ["last"] [false] phi_lright_v11 := by
  refine DefAt.mk (lev := 3) (k := 4) F hm (F.binds (ps := ["last"]) fun _ _ _ _ _ _ us hl => match us, hl with | [_], _ => rfl) sc_lright rfl rfl (fun cdv A outer s H E hr => ?_) rfl
  have sc := sc_lright
  have tk : Takes (cxOf (L2.CX P w) P w K mg base ["last", "due", "found", "caught", "e"] "_law_right" (defScope st_lright) f cdv A outer s H E) (fun cls d _ H => E cls d H) := takes_of rfl rfl rfl rfl
  have ps : PassesOwn (model P w) (cxOf (L2.CX P w) P w K mg base ["last", "due", "found", "caught", "e"] "_law_right" (defScope st_lright) f cdv A outer s H E).A (cxOf (L2.CX P w) P w K mg base ["last", "due", "found", "caught", "e"] "_law_right" (defScope st_lright) f cdv A outer s H E).env (cxOf (L2.CX P w) P w K mg base ["last", "due", "found", "caught", "e"] "_law_right" (defScope st_lright) f cdv A outer s H E).xe := passes_of rfl
  exact ((s_cons (s_asV (i := 1) sc.nd (e_callD g_lback (hr.mono (by omega)) tk (a_cons (e_nm 0) a_nil)))
    (s_cons (s_asV (i := 2) sc.nd e_non)
    (s_cons (s_asV (i := 3) sc.nd e_non)
    (s_cons (s_end (s_try xT (List.mem_cons_self) sc.nd gx_pin tk (fun _ _ _ tk ps => (s_one (s_asV (i := 2) sc.nd (e_callD g_turned_back (hr.mono (by omega)) tk (a_cons (e_nm 0) a_nil))))) (fun _ _ => (s_one (s_asV (i := 3) sc.nd (e_nm 4)))) (i := 4)))
    (s_cons (s_end (s_if (t_cmp op_isnU prim_is (e_nm 1) e_non (nomark _)) (s_one (s_ret (e_and (e_isi (by rfl) m_isinstance (by rfl) m_str PyProof.Rows.boot_str (by rfl) (e_nm 2)) (e_one (e_cmp (op_eqU hr.units) prim_eq (e_nm 2) (e_nm 1) (nomark _)))))) s_nil))
    (s_cons (s_if (t_truth (e_isxT xT (.cons (List.mem_cons_of_mem _ (List.mem_cons_of_mem _ (List.mem_cons_of_mem _ (List.mem_cons_of_mem _ (List.mem_cons_self))))) (.cons (List.mem_cons_of_mem _ (List.mem_cons_of_mem _ (List.mem_cons_of_mem _ (List.mem_cons_of_mem _ (List.mem_cons_of_mem _ (List.mem_cons_self)))))) (.cons (List.mem_cons_of_mem _ (List.mem_cons_of_mem _ (List.mem_cons_of_mem _ (List.mem_cons_self)))) (.cons (List.mem_cons_of_mem _ (List.mem_cons_of_mem _ (List.mem_cons_of_mem _ (List.mem_cons_of_mem _ (List.mem_cons_of_mem _ (List.mem_cons_of_mem _ (List.mem_cons_self))))))) (.cons (List.mem_cons_of_mem _ (List.mem_cons_self)) .nil))))) (by exact (pa_clsN gx_round (by rfl) (pa_clsN gx_missed (by rfl) (pa_clsN gx_norow (by rfl) (pa_clsN gx_notext (by rfl) (pa_clsN gx_many (by rfl) pa_cls0)))))) (by rw [sizeLine_eq]; simp) (by rfl) m_isinstance (e_nm 3))) (s_one (s_ret e_bl)) s_nil)
    (s_one (s_ret (e_and (e_isx xT (List.mem_cons_of_mem _ (List.mem_cons_of_mem _ (List.mem_cons_self))) gx_noturned (by rfl) m_isinstance (by rfl) (e_nm 3)) (e_one (e_isv xT (kit_ty (by decide +kernel)) (by rfl) m_isinstance (by rfl) m_ValueError (e_nm 3)))))))))))))
abbrev st_lpick : Stmt := topS 15
theorem sc_lpick : FnScope ["reel", "many", "digit"] ["reel", "many"] (defScope st_lpick) := ⟨rfl, rfl, rfl, by decide +kernel, rfl, by decide +kernel, by decide +kernel⟩
theorem ok_lpick {P : Program} {w : World} {K : PySem.W.Frag} {mg : Str → Option Value} {base : Heap} {f : Addr} {fd : FuncData} (F : Fun K "_law_pick" "_law_pick" st_lpick f fd) (hm : mg "_law_pick" = some (.ref f)) :
    DefAt P w K mg base "_law_pick" 1 ["reel", "many"] [true, false] phi_lpick := by
  refine DefAt.mk (lev := 0) (k := 1) F hm (F.binds (ps := ["reel", "many"]) fun _ _ _ _ _ _ us hl => match us, hl with | [_, _], _ => rfl) sc_lpick rfl rfl (fun cdv A outer s H E hr => ?_) rfl
  have sc := sc_lpick
  have tk : Takes (cxOf (L2.CX P w) P w K mg base ["reel", "many", "digit"] "_law_pick" (defScope st_lpick) f cdv A outer s H E) (fun cls d _ H => E cls d H) := takes_of rfl rfl rfl rfl
  have ps : PassesOwn (model P w) (cxOf (L2.CX P w) P w K mg base ["reel", "many", "digit"] "_law_pick" (defScope st_lpick) f cdv A outer s H E).A (cxOf (L2.CX P w) P w K mg base ["reel", "many", "digit"] "_law_pick" (defScope st_lpick) f cdv A outer s H E).env (cxOf (L2.CX P w) P w K mg base ["reel", "many", "digit"] "_law_pick" (defScope st_lpick) f cdv A outer s H E).xe := passes_of rfl
  exact ((s_cons (s_asV (i := 2) sc.nd (e_bin op_mod prim_mod (e_ix (ix_U (hu_of hr)) prim_ixU (e_nm 0) e_int (fun _ _ => rfl)) (e_nm 1)))
    (s_cons (s_sub (set_U (hu_of hr)) prim_set (e_bin op_fdivW prim_fdv (e_ix (ix_U (hu_of hr)) prim_ixU (e_nm 0) e_int (fun _ _ => rfl)) (e_nm 1)) (pv 0) e_int (by intro _; rfl))
    (s_one (s_ret (e_nm 2))))))
abbrev st_lbent : Stmt := topS 18
theorem sc_lbent : FnScope ["reel", "last", "at", "to", "sign", "signs", "some"] ["reel", "last"] (defScope st_lbent) := ⟨rfl, rfl, rfl, by decide +kernel, rfl, by decide +kernel, by decide +kernel⟩
theorem ok_lbent {P : Program} {w : World} {K : PySem.W.Frag} {mg : Str → Option Value} {base : Heap} {f : Addr} {fd : FuncData} (m_len : mg "len" = none) (m_list : mg "list" = none) (m_sorted : mg "sorted" = none) (g_lpick : DefAt P w K mg base "_law_pick" 1 ["reel", "many"] [true, false] phi_lpick) (F : Fun K "_law_bent" "_law_bent" st_lbent f fd) (hm : mg "_law_bent" = some (.ref f)) :
    DefAt P w K mg base "_law_bent" 2 ["reel", "last"] [true, false] phi_lbent_v6 := by
  refine DefAt.mk (lev := 1) (k := 5) F hm (F.binds (ps := ["reel", "last"]) fun _ _ _ _ _ _ us hl => match us, hl with | [_, _], _ => rfl) sc_lbent rfl rfl (fun cdv A outer s H E hr => ?_) rfl
  have sc := sc_lbent
  have tk : Takes (cxOf (L2.CX P w) P w K mg base ["reel", "last", "at", "to", "sign", "signs", "some"] "_law_bent" (defScope st_lbent) f cdv A outer s H E) (fun cls d _ H => E cls d H) := takes_of rfl rfl rfl rfl
  have ps : PassesOwn (model P w) (cxOf (L2.CX P w) P w K mg base ["reel", "last", "at", "to", "sign", "signs", "some"] "_law_bent" (defScope st_lbent) f cdv A outer s H E).A (cxOf (L2.CX P w) P w K mg base ["reel", "last", "at", "to", "sign", "signs", "some"] "_law_bent" (defScope st_lbent) f cdv A outer s H E).env (cxOf (L2.CX P w) P w K mg base ["reel", "last", "at", "to", "sign", "signs", "some"] "_law_bent" (defScope st_lbent) f cdv A outer s H E).xe := passes_of rfl
  exact ((s_cons (s_asV (i := 2) sc.nd (e_callD g_lpick (hr.mono (by omega)) tk (a_cons (e_nm 0) (a_cons (e_callB cr_lenU prim_len (by rfl) m_len PySem.boot_len (a_cons (e_nm 1) a_nil)) a_nil))))
    (s_cons (s_asV (i := 3) sc.nd (e_callD g_lpick (hr.mono (by omega)) tk (a_cons (e_nm 0) (a_cons (e_callB cr_lenU prim_len (by rfl) m_len PySem.boot_len (a_cons (e_nm 1) a_nil)) a_nil))))
    (s_cons (s_asV (i := 4) sc.nd (e_ix (ix_U (hu_of hr)) prim_ixU (e_strT lit_61_62_77_7a_2e) (e_callD g_lpick (hr.mono (by omega)) tk (a_cons (e_nm 0) (a_cons e_int a_nil))) (fun _ _ => rfl)))
    (s_cons (s_asO (i := 5) sc.nd (e_callTy (cr_listS rfl) prim_listS (by rfl) m_list PyProof.Rows.boot_list (a_cons (e_nm 1) a_nil)))
    (s_cons (s_asG (e_tupD (a_cons (e_ix (ix_U (hu_of hr)) prim_ixU (e_nm 5) (e_nm 3) (fun _ _ => rfl)) (a_cons (e_ix (ix_U (hu_of hr)) prim_ixU (e_nm 5) (e_nm 2) (fun _ _ => rfl)) a_nil))) (g_two rfl (g_st (set_U (hu_of hr)) prim_set (pv 5) (e_nm 2)) (g_st (set_U (hu_of hr)) prim_set (pv 5) (e_nm 3))))
    (s_cons (s_asO (i := 6) sc.nd (e_lstD (a_cons (e_bin op_addU prim_add (e_slice sl_U prim_sl (e_nm 1) o_none (o_some (e_nm 2))) (e_slice sl_U prim_sl (e_nm 1) (o_some (e_bin op_addU prim_add (e_nm 2) e_int)) o_none)) (a_cons (e_bin op_addU prim_add (e_bin op_addU prim_add (e_slice sl_U prim_sl (e_nm 1) o_none (o_some (e_nm 2))) (e_ix (ix_U (hu_of hr)) prim_ixU (e_nm 1) (e_nm 2) (fun _ _ => rfl))) (e_slice sl_U prim_sl (e_nm 1) (o_some (e_nm 2)) o_none)) (a_cons (e_bin op_addU prim_add (e_bin op_addU prim_add (e_slice sl_U prim_sl (e_nm 1) o_none (o_some (e_nm 2))) (e_nm 4)) (e_slice sl_U prim_sl (e_nm 1) (o_some (e_bin op_addU prim_add (e_nm 2) e_int)) o_none)) a_nil)))))
    (s_cons (s_expr (e_mut ty_lst prim_append PySem.F.plainAttrs_list PySem.F.slot_list_append PySem.F.type_list_append mt_append (pv 6) (a_cons (e_bm ta_str prim_join PySem.F.plainAttrs_str PySem.F.slot_str_join PySem.F.type_str_join mt_join (e_strT lit_) (a_cons (e_nm 5) a_nil)) a_nil)))
    (s_cons (s_asO (i := 6) sc.nd (e_bin op_addU prim_add (e_nm 6) (e_lstD (a_consT (et_L op_addU prim_add (et_R op_addU prim_add (e_slice sl_U prim_sl (e_nm 1) o_none (o_some (e_nm 2))) (et_str lit_2e)) (e_slice sl_U prim_sl (e_nm 1) (o_some (e_nm 2)) o_none)) (at_cons (et_repl lit_2e lit_ (e_nm 1)) (at_of (a_cons (e_rev (e_nm 1) (e_un un_neg prim_neg e_int)) (a_cons (e_bin op_addU prim_add (e_slice sl_U prim_sl (e_nm 1) (o_some (e_nm 2)) o_none) (e_slice sl_U prim_sl (e_nm 1) o_none (o_some (e_nm 2)))) a_nil))))))))
    (s_cons (s_expr (e_mut ty_lst prim_append PySem.F.plainAttrs_list PySem.F.slot_list_append PySem.F.type_list_append mt_append (pv 6) (a_cons (e_bm ta_str prim_join PySem.F.plainAttrs_str PySem.F.slot_str_join PySem.F.type_str_join mt_join (e_strT lit_) (a_cons (e_callB (cr_sortedS rfl hr.units) prim_sortT (by rfl) m_sorted PyProof.Rows.boot_sorted (a_cons (e_nm 1) a_nil)) a_nil)) a_nil)))
    (s_one (s_ret (e_ix (ix_U (hu_of hr)) prim_ixU (e_nm 6) (e_callD g_lpick (hr.mono (by omega)) tk (a_cons (e_nm 0) (a_cons e_int a_nil))) (fun _ _ => rfl))))))))))))))
abbrev st_ltext : Stmt := topS 16
theorem sc_ltext : FnScope ["reel", "most", "letters", "many", "way", "some", "text", "one", "other", "start", "k"] ["reel", "most"] (defScope st_ltext) := ⟨rfl, rfl, rfl, by decide +kernel, rfl, by decide +kernel, by decide +kernel⟩
theorem ok_ltext {P : Program} {w : World} {K : PySem.W.Frag} {mg : Str → Option Value} {base : Heap} {f : Addr} {fd : FuncData} (m_len : mg "len" = none) (m_range : mg "range" = none) (g_lpick : DefAt P w K mg base "_law_pick" 1 ["reel", "many"] [true, false] phi_lpick) (F : Fun K "_law_text" "_law_text" st_ltext f fd) (hm : mg "_law_text" = some (.ref f)) :
    DefAt P w K mg base "_law_text" 2 ["reel", "most"] [true, false] phi_ltext_v3 := by
  refine DefAt.mk (lev := 1) (k := 9) F hm (F.binds (ps := ["reel", "most"]) fun _ _ _ _ _ _ us hl => match us, hl with | [_, _], _ => rfl) sc_ltext rfl rfl (fun cdv A outer s H E hr => ?_) rfl
  have sc := sc_ltext
  have tk : Takes (cxOf (L2.CX P w) P w K mg base ["reel", "most", "letters", "many", "way", "some", "text", "one", "other", "start", "k"] "_law_text" (defScope st_ltext) f cdv A outer s H E) (fun cls d _ H => E cls d H) := takes_of rfl rfl rfl rfl
  have ps : PassesOwn (model P w) (cxOf (L2.CX P w) P w K mg base ["reel", "most", "letters", "many", "way", "some", "text", "one", "other", "start", "k"] "_law_text" (defScope st_ltext) f cdv A outer s H E).A (cxOf (L2.CX P w) P w K mg base ["reel", "most", "letters", "many", "way", "some", "text", "one", "other", "start", "k"] "_law_text" (defScope st_ltext) f cdv A outer s H E).env (cxOf (L2.CX P w) P w K mg base ["reel", "most", "letters", "many", "way", "some", "text", "one", "other", "start", "k"] "_law_text" (defScope st_ltext) f cdv A outer s H E).xe := passes_of rfl
  exact ((s_cons (s_asV (i := 2) sc.nd (e_ix (ix_U (hu_of hr)) prim_ixU (e_lstD (a_cons (e_strT lit_61) (a_cons (e_strT lit_61_62) (a_cons (e_strT lit_62_61_63) (a_cons (e_strT lit_7a_79_78_77) a_nil))))) (e_callD g_lpick (hr.mono (by omega)) tk (a_cons (e_nm 0) (a_cons e_int a_nil))) (fun _ _ => rfl)))
    (s_cons (s_if (t_truth (e_ix (ix_U (hu_of hr)) prim_ixU (e_nm 0) e_int (fun _ _ => rfl))) (s_one (s_asV (i := 2) sc.nd (e_strT lit_71f766a1888f))) s_nil)
    (s_cons (s_asV (i := 3) sc.nd (e_callD g_lpick (hr.mono (by omega)) tk (a_cons (e_nm 0) (a_cons (e_bin op_addU prim_add (e_nm 1) e_int) a_nil))))
    (s_cons (s_asV (i := 4) sc.nd (e_callD g_lpick (hr.mono (by omega)) tk (a_cons (e_nm 0) (a_cons e_int a_nil))))
    (s_cons (s_lcV (own := [("k", 10)]) (tgNm 10) rfl sc.nd (sw_true rfl rfl rfl (by decide +kernel)) (i_rg1 (by rfl) m_range (a_cons (e_bin op_addU prim_add e_int (e_callD g_lpick (hr.mono (by omega)) tk (a_cons (e_nm 0) (a_cons e_int a_nil)))) a_nil)) (blkOk_by (by rfl)) (fun _ _ _ _ _ => (pg_name sc.nd rfl (by first | exact .inl rfl | exact .inr rfl))) (fun _ _ _ _ _ => pts_0) (fun _ _ _ _ _ => (e_ix (ix_U (hu_of hr)) prim_ixU (e_nm 2) (e_callD g_lpick (hr.mono (by omega)) takes0 (a_cons (e_nm 0) (a_cons (e_callB cr_lenU prim_len (by rfl) m_len PySem.boot_len (a_cons (e_nm 2) a_nil)) a_nil))) (fun _ _ => rfl))))
    (s_cons (s_asV (i := 6) sc.nd (e_bm ta_str prim_join PySem.F.plainAttrs_str PySem.F.slot_str_join PySem.F.type_str_join mt_join (e_strT lit_) (a_cons (e_nm 5) a_nil)))
    (s_cons (s_end (s_if (t_cmp (op_eqU hr.units) prim_eq (e_nm 4) e_int (nomark _)) (s_one (s_asV (i := 6) sc.nd (e_bin op_mulV prim_mulV (e_nm 6) (e_bin op_addU prim_add (e_nm 1) e_int)))) s_nil))
    (s_cons (s_end (s_if (t_cmp (op_eqU hr.units) prim_eq (e_nm 4) e_int (nomark _)) (s_cons (s_end (s_par (i := 7) (j := 8) rfl sc.nd (a_cons (e_nm 6) (a_cons (e_ix (ix_U (hu_of hr)) prim_ixU (e_nm 2) (e_un un_neg prim_neg e_int) (fun _ _ => rfl)) a_nil))))
    (s_cons (s_end (s_while ps (t_cmp op_ltU prim_ord (e_callB cr_lenU prim_len (by rfl) m_len PySem.boot_len (a_cons (e_nm 7) a_nil)) (e_nm 3) (nomark _)) (s_one (s_par (i := 7) (j := 8) rfl sc.nd (a_cons (e_bin op_addU prim_add (e_nm 7) (e_nm 8)) (a_cons (e_nm 7) a_nil))))))
    (s_one (s_asV (i := 6) sc.nd (e_nm 7))))) s_nil))
    (s_cons (s_while ps (w_and (t_cmp op_gtU prim_ord (e_nm 4) e_int (nomark _)) (w_and1 (t_cmp op_ltU prim_ord (e_callB cr_lenU prim_len (by rfl) m_len PySem.boot_len (a_cons (e_nm 6) a_nil)) (e_nm 3) (nomark _)))).pt (s_bod (s_cons (s_asV (i := 9) sc.nd (e_callD g_lpick (hr.mono (by omega)) tk (a_cons (e_nm 0) (a_cons (e_callB cr_lenU prim_len (by rfl) m_len PySem.boot_len (a_cons (e_nm 6) a_nil)) a_nil))))
    (s_one (s_asV (i := 6) sc.nd (e_bin op_addU prim_add (e_bin op_addU prim_add (e_nm 6) (e_slice sl_U prim_sl (e_nm 6) (o_some (e_nm 9)) (o_some (e_bin op_addU prim_add (e_bin op_addU prim_add (e_nm 9) e_int) (e_callD g_lpick (hr.mono (by omega)) tk (a_cons (e_nm 0) (a_cons e_int a_nil))))))) (e_ix (ix_U (hu_of hr)) prim_ixU (e_nm 2) (e_callD g_lpick (hr.mono (by omega)) tk (a_cons (e_nm 0) (a_cons (e_callB cr_lenU prim_len (by rfl) m_len PySem.boot_len (a_cons (e_nm 2) a_nil)) a_nil))) (fun _ _ => rfl))))))))
    (s_cons (s_end (s_while ps (w_and (t_cmp (op_eqU hr.units) prim_eq (e_nm 4) e_int (nomark _)) (w_and1 (t_cmp op_ltU prim_ord (e_callB cr_lenU prim_len (by rfl) m_len PySem.boot_len (a_cons (e_nm 6) a_nil)) (e_nm 3) (nomark _)))).pt (s_one (s_asV (i := 6) sc.nd (e_bin op_addU prim_add (e_nm 6) (e_ix (ix_U (hu_of hr)) prim_ixU (e_nm 2) (e_callD g_lpick (hr.mono (by omega)) tk (a_cons (e_nm 0) (a_cons (e_callB cr_lenU prim_len (by rfl) m_len PySem.boot_len (a_cons (e_nm 2) a_nil)) a_nil))) (fun _ _ => rfl)))))))
    (s_one (s_ret (e_slice sl_U prim_sl (e_nm 6) o_none (o_some (e_nm 3))))))))))))))))
abbrev st_lreel : Stmt := topS 14
theorem sc_lreel : FnScope ["script", "k", "number", "stir", "found", "turn"] ["script", "k"] (defScope st_lreel) := ⟨rfl, rfl, rfl, by decide +kernel, rfl, by decide +kernel, by decide +kernel⟩
theorem ok_lreel {P : Program} {w : World} {K : PySem.W.Frag} {mg : Str → Option Value} {base : Heap} {f : Addr} {fd : FuncData} (m_len : mg "len" = none) (m_range : mg "range" = none) (F : Fun K "_law_reel" "_law_reel" st_lreel f fd) (hm : mg "_law_reel" = some (.ref f)) :
    DefAt P w K mg base "_law_reel" 1 ["script", "k"] [false, false] phi_lreel_v2 := by
  refine DefAt.mk (lev := 0) (k := 4) F hm (F.binds (ps := ["script", "k"]) fun _ _ _ _ _ _ us hl => match us, hl with | [_, _], _ => rfl) sc_lreel rfl rfl (fun cdv A outer s H E hr => ?_) rfl
  have sc := sc_lreel
  have tk : Takes (cxOf (L2.CX P w) P w K mg base ["script", "k", "number", "stir", "found", "turn"] "_law_reel" (defScope st_lreel) f cdv A outer s H E) (fun cls d _ H => E cls d H) := takes_of rfl rfl rfl rfl
  have ps : PassesOwn (model P w) (cxOf (L2.CX P w) P w K mg base ["script", "k", "number", "stir", "found", "turn"] "_law_reel" (defScope st_lreel) f cdv A outer s H E).A (cxOf (L2.CX P w) P w K mg base ["script", "k", "number", "stir", "found", "turn"] "_law_reel" (defScope st_lreel) f cdv A outer s H E).env (cxOf (L2.CX P w) P w K mg base ["script", "k", "number", "stir", "found", "turn"] "_law_reel" (defScope st_lreel) f cdv A outer s H E).xe := passes_of rfl
  exact ((s_cons (s_asV (i := 2) sc.nd (e_bin op_addU prim_add (e_bin op_mulV prim_mulV e_int (e_nm 1)) e_int))
    (s_cons (s_if (t_cmp op_ltU prim_ord (e_nm 1) (e_callB cr_lenU prim_len (by rfl) m_len PySem.boot_len (a_cons (e_nm 0) a_nil)) (nomark _)) (s_one (s_asV (i := 2) sc.nd (e_ix (ix_U (hu_of hr)) prim_ixU (e_nm 0) (e_nm 1) (fun _ _ => rfl)))) s_nil)
    (s_cons (s_if (t_cmp (op_eqU hr.units) prim_eq (e_bin op_mod prim_mod (e_nm 2) e_int) e_int (nomark _)) (s_one (s_ret (e_lstD (a_cons (e_bin op_fdivW prim_fdv (e_nm 2) e_int) (a_cons (e_cmp (op_eqU hr.units) prim_eq (e_bin op_mod prim_mod (e_callB cr_lenU prim_len (by rfl) m_len PySem.boot_len (a_cons (e_nm 0) a_nil)) e_int) e_int (nomark _)) a_nil))))) s_nil)
    (s_cons (s_asV (i := 3) sc.nd (e_bin op_mod prim_mod (e_bin op_addU prim_add (e_bin op_addU prim_add (e_bin op_mulV prim_mulV (e_bin op_mod prim_mod (e_nm 2) e_int) e_int) (e_bin op_mulV prim_mulV e_int (e_nm 1))) e_int) e_int))
    (s_cons (s_end (s_asV (i := 4) sc.nd e_int))
    (s_cons (s_end (s_for ps rfl (i_rg1 (by rfl) m_range (a_cons e_int a_nil)) (g_nm sc.nd) (s_bod (s_cons (s_asV (i := 3) sc.nd (e_bin op_mod prim_mod (e_bin op_addU prim_add (e_bin op_addU prim_add (e_bin op_addU prim_add (e_bin op_mulV prim_mulV (e_nm 3) (e_nm 3)) (e_bin op_mulV prim_mulV e_int (e_nm 3))) (e_bin op_mulV prim_mulV e_int (e_nm 5))) e_int) e_int))
    (s_one (s_asV (i := 4) sc.nd (e_bin op_addU prim_add (e_bin op_mulV prim_mulV (e_nm 4) e_int) (e_nm 3))))))))
    (s_one (s_ret (e_lstD (a_cons (e_nm 4) (a_cons (e_cmp (op_eqU hr.units) prim_eq (e_bin op_mod prim_mod (e_callB cr_lenU prim_len (by rfl) m_len PySem.boot_len (a_cons (e_nm 0) a_nil)) e_int) e_int (nomark _)) a_nil))))))))))))
abbrev st_law : Stmt := topS 20
theorem sc_law : FnScope ["script", "last", "k", "reel", "text", "turn", "signs"] ["script"] (defScope st_law) := ⟨rfl, rfl, rfl, by decide +kernel, rfl, by decide +kernel, by decide +kernel⟩
theorem ok_law {P : Program} {w : World} {K : PySem.W.Frag} {mg : Str → Option Value} {base : Heap} {f : Addr} {fd : FuncData} (m_int : mg "int" = none) (m_len : mg "len" = none) (m_max : mg "max" = none) (m_min : mg "min" = none) (m_range : mg "range" = none) (g_lright : DefAt P w K mg base "_law_right" 4 ["last"] [false] phi_lright_v11) (g_lpick : DefAt P w K mg base "_law_pick" 1 ["reel", "many"] [true, false] phi_lpick) (g_lbent : DefAt P w K mg base "_law_bent" 2 ["reel", "last"] [true, false] phi_lbent_v6) (g_turned_back : DefAt P w K mg base "turned_back" 3 ["last"] [false] phi_turned_back_v2) (g_turned : DefAt P w K mg base "turned" 2 ["text"] [false] phi_turned) (g_ltext : DefAt P w K mg base "_law_text" 2 ["reel", "most"] [true, false] phi_ltext_v3) (g_lreel : DefAt P w K mg base "_law_reel" 1 ["script", "k"] [false, false] phi_lreel_v2) (F : Fun K "law" "law" st_law f fd) :
    FnOk P w K mg base (L2.CX P w) 5 f fd ["script"] (spD K [false] phi_law_k34) := by
  refine ok_def (lev := 4) (k := 6) F sc_law rfl rfl (fun cdv A outer s H E hr => ?_)
  have sc := sc_law
  have tk : Takes (cxOf (L2.CX P w) P w K mg base ["script", "last", "k", "reel", "text", "turn", "signs"] "law" (defScope st_law) f cdv A outer s H E) (fun cls d _ H => E cls d H) := takes_of rfl rfl rfl rfl
  have ps : PassesOwn (model P w) (cxOf (L2.CX P w) P w K mg base ["script", "last", "k", "reel", "text", "turn", "signs"] "law" (defScope st_law) f cdv A outer s H E).A (cxOf (L2.CX P w) P w K mg base ["script", "last", "k", "reel", "text", "turn", "signs"] "law" (defScope st_law) f cdv A outer s H E).env (cxOf (L2.CX P w) P w K mg base ["script", "last", "k", "reel", "text", "turn", "signs"] "law" (defScope st_law) f cdv A outer s H E).xe := passes_of rfl
  exact ((s_cons (s_end (s_for ps rfl (i_seq (e_lstD (a_cons (e_strT lit_) (a_cons (e_strT lit_2e) (a_cons (e_strT lit_2e_2e) (a_cons (e_strT lit_61) (a_cons (e_strT lit_61_2e) (a_cons (e_strT lit_2e_61) (a_cons (e_strT lit_61_61_2e) (a_cons (e_strT lit_61_2e_61) (a_cons (e_strT lit_2e_61_61) (a_cons (e_strT lit_61_62_2e) a_nil)))))))))))) (g_nm sc.nd) (s_one (s_end (s_if (t_not (t_truth (e_callD g_lright (hr.mono (by omega)) tk (a_cons (e_nm 1) a_nil)))) (s_one (s_ret e_bl)) s_nil)))))
    (s_cons (s_end (s_for ps rfl (i_rg1 (by rfl) m_range (a_cons (e_callB (call_max2 rfl) prim_max2 (by rfl) m_max PyProof.Rows.boot_max (a_cons e_int (a_cons (e_callB (call_min2 rfl) prim_min2 (by rfl) m_min PyProof.Rows.boot_min (a_cons e_int (a_cons (e_callB cr_lenU prim_len (by rfl) m_len PySem.boot_len (a_cons (e_nm 0) a_nil)) a_nil))) a_nil))) a_nil)) (g_nm sc.nd) (s_cons (s_asO (i := 3) sc.nd (e_callD g_lreel (hr.mono (by omega)) tk (a_cons (e_nm 0) (a_cons (e_nm 2) a_nil))))
    (s_cons (s_asV (i := 4) sc.nd (e_callD g_ltext (hr.mono (by omega)) tk (a_cons (e_nm 3) (a_cons (e_ix (ix_U (hu_of hr)) prim_ixU (e_lstD (a_cons e_int (a_cons e_int a_nil))) (e_callTy cr_intU prim_int (by rfl) m_int PyProof.Rows.boot_int (a_cons (e_and (e_ix (ix_U (hu_of hr)) prim_ixU (e_nm 3) e_int (fun _ _ => rfl)) (e_one (e_cmp (op_eqU hr.units) prim_eq (e_nm 2) e_int (nomark _)))) a_nil)) (fun _ _ => rfl)) a_nil))))
    (s_cons (s_asV (i := 1) sc.nd (e_callD g_turned (hr.mono (by omega)) tk (a_cons (e_nm 4) a_nil)))
    (s_cons (s_end (s_if (w_or (t_cmp (op_neU hr.units) prim_eq (e_callD g_turned_back (hr.mono (by omega)) tk (a_cons (e_nm 1) a_nil)) (e_nm 4) (nomark _)) (w_or1 (t_not (t_truth (e_callD g_lright (hr.mono (by omega)) tk (a_cons (e_nm 1) a_nil)))))).pt (s_one (s_ret e_bl)) s_nil))
    (s_cons (s_end (s_for ps rfl (i_rg1 (by rfl) m_range (a_cons e_int a_nil)) (g_nm sc.nd) (s_one (s_end (s_if (t_not (t_truth (e_callD g_lright (hr.mono (by omega)) tk (a_cons (e_callD g_lbent (hr.mono (by omega)) tk (a_cons (e_nm 3) (a_cons (e_nm 1) a_nil))) a_nil)))) (s_one (s_ret e_bl)) s_nil)))))
    (s_cons (s_asV (i := 6) sc.nd (e_bm ta_str prim_join PySem.F.plainAttrs_str PySem.F.slot_str_join PySem.F.type_str_join mt_join (e_strT lit_) (a_cons (e_lc (own := [("turn", 5)]) (tgNm 5) rfl sc.nd (i_rg1 (by rfl) m_range (a_cons (e_callD g_lpick (hr.mono (by omega)) tk (a_cons (e_nm 3) (a_cons e_int a_nil))) a_nil)) (blkOk_by (by rfl)) (fun _ _ _ _ _ => (pg_name sc.nd rfl (by first | exact .inl rfl | exact .inr rfl))) (fun _ _ _ _ _ => pts_0) (fun _ _ _ _ _ => (e_ix (ix_U (hu_of hr)) prim_ixU (e_strT lit_2e_61_62) (e_callD g_lpick (hr.mono (by omega)) takes0 (a_cons (e_nm 3) (a_cons e_int a_nil))) (fun _ _ => rfl)))) a_nil)))
    (s_one (s_end (s_if (t_not (t_truth (e_callD g_lright (hr.mono (by omega)) tk (a_cons (e_nm 6) a_nil)))) (s_one (s_ret e_bl)) s_nil)))))))))))
    (s_one (s_ret e_bl)))))
theorem all_mk {l : PySem.W.OpenLaw} {w : World} {K : PySem.W.Frag} {h : Heap} {mg : Str → Option Value} {fa : Addr} (X : K.In h) (G : h.Ns mainGlobals mg) (hfa : mg "law" = some (.ref fa))
    {f0 : Addr} {od0 an0 : Option Addr} {sl0 : Array (Option Value)} {oc0 kV0 dc0 pm0 cd0 ct0 : Value}
    (a0 : PySem.W.nsIn K mainGlobals "order_of" = some (some (.ref f0))) (l0 : K.lookup f0 = some ⟨oc0, od0, .func (PySem.W.fnOf "order_of" "order_of" (defArgs st_order_of) (defBody st_order_of) (defScope st_order_of) .none kV0 dc0 pm0 an0 cd0 ct0), sl0⟩) (c0 : PySem.W.codeIn K cd0 "order_of" = true) (k0 : PySem.W.keepIn K (.ref f0) = true)
    {f1 : Addr} {od1 an1 : Option Addr} {sl1 : Array (Option Value)} {oc1 kV1 dc1 pm1 cd1 ct1 : Value}
    (a1 : PySem.W.nsIn K mainGlobals "turned" = some (some (.ref f1))) (l1 : K.lookup f1 = some ⟨oc1, od1, .func (PySem.W.fnOf "turned" "turned" (defArgs st_turned) (defBody st_turned) (defScope st_turned) .none kV1 dc1 pm1 an1 cd1 ct1), sl1⟩) (c1 : PySem.W.codeIn K cd1 "turned" = true) (k1 : PySem.W.keepIn K (.ref f1) = true)
    {f2 : Addr} {od2 an2 : Option Addr} {sl2 : Array (Option Value)} {oc2 kV2 dc2 pm2 cd2 ct2 : Value}
    (a2 : PySem.W.nsIn K mainGlobals "turned_back" = some (some (.ref f2))) (l2 : K.lookup f2 = some ⟨oc2, od2, .func (PySem.W.fnOf "turned_back" "turned_back" (defArgs st_turned_back) (defBody st_turned_back) (defScope st_turned_back) .none kV2 dc2 pm2 an2 cd2 ct2), sl2⟩) (c2 : PySem.W.codeIn K cd2 "turned_back" = true) (k2 : PySem.W.keepIn K (.ref f2) = true)
    {f3 : Addr} {od3 an3 : Option Addr} {sl3 : Array (Option Value)} {oc3 kV3 dc3 pm3 cd3 ct3 : Value}
    (a3 : PySem.W.nsIn K mainGlobals "_law_back" = some (some (.ref f3))) (l3 : K.lookup f3 = some ⟨oc3, od3, .func (PySem.W.fnOf "_law_back" "_law_back" (defArgs st_lback) (defBody st_lback) (defScope st_lback) .none kV3 dc3 pm3 an3 cd3 ct3), sl3⟩) (c3 : PySem.W.codeIn K cd3 "_law_back" = true) (k3 : PySem.W.keepIn K (.ref f3) = true)
    {f4 : Addr} {od4 an4 : Option Addr} {sl4 : Array (Option Value)} {oc4 kV4 dc4 pm4 cd4 ct4 : Value}
    (a4 : PySem.W.nsIn K mainGlobals "_law_right" = some (some (.ref f4))) (l4 : K.lookup f4 = some ⟨oc4, od4, .func (PySem.W.fnOf "_law_right" "_law_right" (defArgs st_lright) (defBody st_lright) (defScope st_lright) .none kV4 dc4 pm4 an4 cd4 ct4), sl4⟩) (c4 : PySem.W.codeIn K cd4 "_law_right" = true) (k4 : PySem.W.keepIn K (.ref f4) = true)
    {f5 : Addr} {od5 an5 : Option Addr} {sl5 : Array (Option Value)} {oc5 kV5 dc5 pm5 cd5 ct5 : Value}
    (a5 : PySem.W.nsIn K mainGlobals "_law_pick" = some (some (.ref f5))) (l5 : K.lookup f5 = some ⟨oc5, od5, .func (PySem.W.fnOf "_law_pick" "_law_pick" (defArgs st_lpick) (defBody st_lpick) (defScope st_lpick) .none kV5 dc5 pm5 an5 cd5 ct5), sl5⟩) (c5 : PySem.W.codeIn K cd5 "_law_pick" = true) (k5 : PySem.W.keepIn K (.ref f5) = true)
    {f6 : Addr} {od6 an6 : Option Addr} {sl6 : Array (Option Value)} {oc6 kV6 dc6 pm6 cd6 ct6 : Value}
    (a6 : PySem.W.nsIn K mainGlobals "_law_bent" = some (some (.ref f6))) (l6 : K.lookup f6 = some ⟨oc6, od6, .func (PySem.W.fnOf "_law_bent" "_law_bent" (defArgs st_lbent) (defBody st_lbent) (defScope st_lbent) .none kV6 dc6 pm6 an6 cd6 ct6), sl6⟩) (c6 : PySem.W.codeIn K cd6 "_law_bent" = true) (k6 : PySem.W.keepIn K (.ref f6) = true)
    {f7 : Addr} {od7 an7 : Option Addr} {sl7 : Array (Option Value)} {oc7 kV7 dc7 pm7 cd7 ct7 : Value}
    (a7 : PySem.W.nsIn K mainGlobals "_law_text" = some (some (.ref f7))) (l7 : K.lookup f7 = some ⟨oc7, od7, .func (PySem.W.fnOf "_law_text" "_law_text" (defArgs st_ltext) (defBody st_ltext) (defScope st_ltext) .none kV7 dc7 pm7 an7 cd7 ct7), sl7⟩) (c7 : PySem.W.codeIn K cd7 "_law_text" = true) (k7 : PySem.W.keepIn K (.ref f7) = true)
    {f8 : Addr} {od8 an8 : Option Addr} {sl8 : Array (Option Value)} {oc8 kV8 dc8 pm8 cd8 ct8 : Value}
    (a8 : PySem.W.nsIn K mainGlobals "_law_reel" = some (some (.ref f8))) (l8 : K.lookup f8 = some ⟨oc8, od8, .func (PySem.W.fnOf "_law_reel" "_law_reel" (defArgs st_lreel) (defBody st_lreel) (defScope st_lreel) .none kV8 dc8 pm8 an8 cd8 ct8), sl8⟩) (c8 : PySem.W.codeIn K cd8 "_law_reel" = true) (k8 : PySem.W.keepIn K (.ref f8) = true)
    {f9 : Addr} {od9 an9 : Option Addr} {sl9 : Array (Option Value)} {oc9 kV9 dc9 pm9 cd9 ct9 : Value}
    (a9 : PySem.W.nsIn K mainGlobals "law" = some (some (.ref f9))) (l9 : K.lookup f9 = some ⟨oc9, od9, .func (PySem.W.fnOf "law" "law" (defArgs st_law) (defBody st_law) (defScope st_law) .none kV9 dc9 pm9 an9 cd9 ct9), sl9⟩) (c9 : PySem.W.codeIn K cd9 "law" = true) (k9 : PySem.W.keepIn K (.ref f9) = true)
    (z0 : PySem.W.nsIn K mainGlobals "ValueError" = some none)
    (z1 : PySem.W.nsIn K mainGlobals "enumerate" = some none)
    (z2 : PySem.W.nsIn K mainGlobals "int" = some none)
    (z3 : PySem.W.nsIn K mainGlobals "isinstance" = some none)
    (z4 : PySem.W.nsIn K mainGlobals "len" = some none)
    (z5 : PySem.W.nsIn K mainGlobals "list" = some none)
    (z6 : PySem.W.nsIn K mainGlobals "max" = some none)
    (z7 : PySem.W.nsIn K mainGlobals "min" = some none)
    (z8 : PySem.W.nsIn K mainGlobals "range" = some none)
    (z9 : PySem.W.nsIn K mainGlobals "sorted" = some none)
    (z10 : PySem.W.nsIn K mainGlobals "str" = some none)
    {tk0 : Tok} (q0 : PySem.W.nsIn K mainGlobals "POINT" = some (some (.str "." tk0)))
    {c_pin : Addr} (xa_pin : PySem.W.nsIn K mainGlobals "PinError" = some (some (.ref c_pin)))
    {c_many : Addr} (xa_many : PySem.W.nsIn K mainGlobals "TooMany" = some (some (.ref c_many)))
    {c_noturned : Addr} (xa_noturned : PySem.W.nsIn K mainGlobals "NoTurned" = some (some (.ref c_noturned)))
    {c_norow : Addr} (xa_norow : PySem.W.nsIn K mainGlobals "NoRow" = some (some (.ref c_norow)))
    {c_round : Addr} (xa_round : PySem.W.nsIn K mainGlobals "GoesRound" = some (some (.ref c_round)))
    {c_missed : Addr} (xa_missed : PySem.W.nsIn K mainGlobals "Missed" = some (some (.ref c_missed)))
    {c_notext : Addr} (xa_notext : PySem.W.nsIn K mainGlobals "NoText" = some (some (.ref c_notext)))
    (xB : xtB K [(.pin, c_pin), (.many, c_many), (.noturned, c_noturned), (.norow, c_norow), (.round, c_round), (.missed, c_missed), (.notext, c_notext)] = true)
    (ei_noturned : PySem.W.excIn K c_noturned [.type "ValueError", .type "Exception", .type "BaseException", .type "object"] "ValueError.__new__" = true)
    : ∃ fd : FuncData, (∀ (s : Shared) (v : Value), BindsTo s fd ⟨[v], []⟩ [("script", v)]) ∧ ∀ base : Heap, K.In base → base.Ns mainGlobals mg → FnOk l.prog w K mg base (L2.CX l.prog w) 5 fa fd ["script"] (spD K [false] phi_law_k34) := by
  have e := hfa.symm.trans (PySem.W.mg_of X G a9)
  cases e
  have m_ValueError := PySem.W.mg_none_of X G z0
  have m_enumerate := PySem.W.mg_none_of X G z1
  have m_int := PySem.W.mg_none_of X G z2
  have m_isinstance := PySem.W.mg_none_of X G z3
  have m_len := PySem.W.mg_none_of X G z4
  have m_list := PySem.W.mg_none_of X G z5
  have m_max := PySem.W.mg_none_of X G z6
  have m_min := PySem.W.mg_none_of X G z7
  have m_range := PySem.W.mg_none_of X G z8
  have m_sorted := PySem.W.mg_none_of X G z9
  have m_str := PySem.W.mg_none_of X G z10
  have c_POINT : ∃ t, mg "POINT" = some (.str "." t) := ⟨_, PySem.W.mg_of X G q0⟩
  have F0 := fun_mk (st := st_order_of) l0 c0 k0
  have F1 := fun_mk (st := st_turned) l1 c1 k1
  have F2 := fun_mk (st := st_turned_back) l2 c2 k2
  have F3 := fun_mk (st := st_lback) l3 c3 k3
  have F4 := fun_mk (st := st_lright) l4 c4 k4
  have F5 := fun_mk (st := st_lpick) l5 c5 k5
  have F6 := fun_mk (st := st_lbent) l6 c6 k6
  have F7 := fun_mk (st := st_ltext) l7 c7 k7
  have F8 := fun_mk (st := st_lreel) l8 c8 k8
  have F9 := fun_mk (st := st_law) l9 c9 k9
  have xT := XT.of xB
  have gx_pin : mg "PinError" = some (.ref c_pin) := PySem.W.mg_of X G xa_pin
  have gx_many : mg "TooMany" = some (.ref c_many) := PySem.W.mg_of X G xa_many
  have gx_noturned : mg "NoTurned" = some (.ref c_noturned) := PySem.W.mg_of X G xa_noturned
  have gx_norow : mg "NoRow" = some (.ref c_norow) := PySem.W.mg_of X G xa_norow
  have gx_round : mg "GoesRound" = some (.ref c_round) := PySem.W.mg_of X G xa_round
  have gx_missed : mg "Missed" = some (.ref c_missed) := PySem.W.mg_of X G xa_missed
  have gx_notext : mg "NoText" = some (.ref c_notext) := PySem.W.mg_of X G xa_notext
  refine ⟨PySem.W.fnOf "law" "law" (defArgs st_law) (defBody st_law) (defScope st_law) .none kV9 dc9 pm9 an9 cd9 ct9, fun s v => .of_eq rfl, fun base _ _ => ?_⟩
  have g_order_of := ok_order_of (P := l.prog) (w := w) (base := base) m_len m_range m_sorted c_POINT  F0 (PySem.W.mg_of X G a0)
  have g_turned := ok_turned (P := l.prog) (w := w) (base := base)  c_POINT g_order_of F1 (PySem.W.mg_of X G a1)
  have g_turned_back := ok_turned_back (P := l.prog) (w := w) (base := base) m_enumerate m_len m_range m_sorted c_POINT g_turned xT gx_noturned ei_noturned F2 (PySem.W.mg_of X G a2)
  have g_lback := ok_lback (P := l.prog) (w := w) (base := base) m_enumerate m_len m_range   F3 (PySem.W.mg_of X G a3)
  have g_lright := ok_lright (P := l.prog) (w := w) (base := base) m_ValueError m_isinstance m_str  g_turned_back g_lback xT gx_round gx_missed gx_norow gx_notext gx_noturned gx_pin gx_many F4 (PySem.W.mg_of X G a4)
  have g_lpick := ok_lpick (P := l.prog) (w := w) (base := base)    F5 (PySem.W.mg_of X G a5)
  have g_lbent := ok_lbent (P := l.prog) (w := w) (base := base) m_len m_list m_sorted  g_lpick F6 (PySem.W.mg_of X G a6)
  have g_ltext := ok_ltext (P := l.prog) (w := w) (base := base) m_len m_range  g_lpick F7 (PySem.W.mg_of X G a7)
  have g_lreel := ok_lreel (P := l.prog) (w := w) (base := base) m_len m_range   F8 (PySem.W.mg_of X G a8)
  exact ok_law m_int m_len m_max m_min m_range  g_lright g_lpick g_lbent g_turned_back g_turned g_ltext g_lreel F9
end PyD.k34

end

section
set_option maxHeartbeats 2000000
namespace PyD.S
open PySem PySem.Spec L2 PyD.S
theorem two64 : (2 : Int) ^ 64 = 18446744073709551616 := rfl
theorem mulOk_r {a b : Int} (h : b < 18446744073709551616) (h' : -18446744073709551616 < b) : mulOk a b := .inr ⟨by rw [two64]; exact h', by rw [two64]; exact h⟩
theorem mulOk_l {a b : Int} (h : a < 18446744073709551616) (h' : -18446744073709551616 < a) : mulOk a b := .inl ⟨by rw [two64]; exact h', by rw [two64]; exact h⟩
theorem log_ok {m : Int} (h0 : 0 < m) (h : m ≤ 1000000000) : m.natAbs.log2 ≤ 8000 := by
  have h1 : m.natAbs < 2 ^ 30 := by omega
  have h2 : m.natAbs ≠ 0 := by omega
  exact Nat.le_trans (Nat.le_of_lt ((Nat.log2_lt h2).mpr h1)) (by decide)
def Lt (c : Nat) : Prop := 97 ≤ c ∧ c ≤ 122
def Lts (l : List Nat) : Prop := ∀ c ∈ l, Lt c
theorem Lts.ok {l : List Nat} (h : Lts l) : okT l := fun c hc => by have := h c hc; unfold Lt at this; omega
theorem Lts.app {a b : List Nat} (h : Lts a) (h' : Lts b) : Lts (a ++ b) := fun c hc => (List.mem_append.mp hc).elim (h c) (h' c)
theorem Lts.take {a : List Nat} (n : Nat) (h : Lts a) : Lts (a.take n) := fun c hc => h c (List.mem_of_mem_take hc)
theorem Lts.drop {a : List Nat} (n : Nat) (h : Lts a) : Lts (a.drop n) := fun c hc => h c (List.mem_of_mem_drop hc)
theorem Lts.one {c : Nat} (h : Lt c) : Lts [c] := fun x hx => by rw [List.mem_singleton.mp hx]; exact h
theorem Lts.nil : Lts [] := fun x hx => by cases hx
theorem okT_nil : okT [] := fun x hx => by cases hx
instance (l : List Nat) : Decidable (Lts l) := by unfold Lts Lt; infer_instance
instance (l : List Nat) : Decidable (okT l) := by unfold okT; infer_instance
theorem bi_mk {b : Bool} {p q : Prop} (h : b = true → p) (h' : b = false → q) : bi b p q := ⟨h, h'⟩
theorem mxmn {a b n : Int} (h : a ≤ b) : a ≤ maxI a (minI b n) ∧ maxI a (minI b n) ≤ b := by
  unfold maxI minI
  split <;> split at * <;> omega
theorem okT.at {l : List Nat} {i c : Nat} (h : okT l) (e : l[i]? = some c) : c < 1114112 := h c (List.mem_of_getElem? e)
theorem okL_of {α : Type} {o : Option α} {a : α} {k : α → Prop} (h : o = some a) (hk : k a) : okL o k := by rw [h]; exact hk
theorem rev_tx {l : List Nat} {i : Int} : revD [.str (tx l), .int i] = if l.length ≤ 16777216 ∧ i = -1 then some (false, .str (tx l.reverse)) else none := by
  simp only [revD, tx_len, tx_list]
  rfl
theorem mul_tx {l : List Nat} {n : Int} : mulVD [.str (tx l), .int n] = if l.length ≤ 1000 ∧ -1000 ≤ n ∧ n ≤ 1000 then some (false, .str (tx (List.replicate n.toNat l).flatten)) else none := by
  simp only [mulVD, mulD, tx_len, tx_list]
  rfl
theorem at_last {α : Type} {l : List α} (h : l ≠ []) : atI l (-1) = l.getLast? := by
  have hl : 0 < l.length := List.length_pos_iff.mpr h
  unfold atI ixN
  have h1 : ¬ (0 : Int) ≤ -1 := by omega
  rw [if_neg h1, if_pos (by omega)]
  simp only [Option.bind_some]
  rw [List.getLast?_eq_getElem?]
  congr 1
  omega
theorem join_txs {ls : List (List Nat)} (h : ∀ l ∈ ls, l.length = 1) (hl : ls.length ≤ 16777216) : joinD [.str (tx []), .lst (ls.map dtx)] = some (false, .str (tx ls.flatten)) := by
  rw [join_lst, if_pos (by rw [sum_ones h]; simp; omega), joinL_nil]
end PyD.S

end

section
set_option maxHeartbeats 2000000
namespace PyD.S
open PySem PySem.Spec L2 PyD.S PyProof.Rows
abbrev T := List Nat
def leP (p q : T × Nat) : Bool := !(decide (q.1 < p.1) || (!decide (p.1 < q.1) && decide (q.2 < p.2)))
theorem leP_iff {p q : T × Nat} : leP p q = true ↔ p.1 < q.1 ∨ (p.1 = q.1 ∧ p.2 ≤ q.2) := by
  unfold leP
  by_cases h : q.1 < p.1
  · have h1 : ¬ p.1 < q.1 := List.lt_asymm h
    have h2 : p.1 ≠ q.1 := fun e => by rw [e] at h; exact List.lt_irrefl _ h
    simp [h, h1, h2]
  · by_cases h1 : p.1 < q.1
    · simp [h, h1]
    · have e : p.1 = q.1 := List.le_antisymm (List.not_lt.mp h) (List.not_lt.mp h1)
      simp [e]
theorem leP_trans (a b c : T × Nat) (h : leP a b = true) (h' : leP b c = true) : leP a c = true := by
  rw [leP_iff] at *
  rcases h with h | ⟨h, h1⟩
  · rcases h' with h' | ⟨h', h2⟩
    · exact .inl (List.lt_trans h h')
    · exact .inl (by rw [← h']; exact h)
  · rcases h' with h' | ⟨h', h2⟩
    · exact .inl (by rw [h]; exact h')
    · exact .inr ⟨h.trans h', by omega⟩
theorem leP_total (a b : T × Nat) : (leP a b || leP b a) = true := by
  rw [Bool.or_eq_true, leP_iff, leP_iff]
  by_cases h : a.1 < b.1
  · exact .inl (.inl h)
  · by_cases h' : b.1 < a.1
    · exact .inr (.inl h')
    · have e : a.1 = b.1 := List.le_antisymm (List.not_lt.mp h') (List.not_lt.mp h)
      rcases Nat.le_total a.2 b.2 with q | q
      · exact .inl (.inr ⟨e, q⟩)
      · exact .inr (.inr ⟨e.symm, q⟩)
theorem leP_anti {a b : T × Nat} (h : leP a b = true) (h' : leP b a = true) : a = b := by
  rw [leP_iff] at h h'
  rcases h with h | ⟨h, h1⟩
  · rcases h' with h' | ⟨h', h2⟩
    · exact absurd h' (List.lt_asymm h)
    · rw [h'] at h; exact absurd h (List.lt_irrefl _)
  · rcases h' with h' | ⟨h', h2⟩
    · rw [h] at h'; exact absurd h' (List.lt_irrefl _)
    · exact Prod.ext h (by omega)
def dP (p : T × Nat) : D := .tup [.str (tx p.1), .int p.2]
theorem py_dP (p : T × Nat) : toPy (dP p) = some (.tuple [.str (tx p.1), .int p.2]) := rfl
theorem py_dPs : ∀ ps : List (T × Nat), toPyL (ps.map dP) = some (ps.map fun p => PyData.tuple [.str (tx p.1), .int p.2])
  | [] => rfl
  | p :: ps => by
    rw [List.map_cons, toPyL, py_dPs ps, py_dP]
    rfl
theorem le_dP (p q : T × Nat) : leP p q = leD' (dP p) (dP q) := by
  show _ = !(PyProof.Rows.listOrd PyProof.Rows.itemOrd).blt (PySem.W.keyToks (pyG (dP q))) (PySem.W.keyToks (pyG (dP p)))
  have e : ∀ p : T × Nat, PySem.W.keyToks (pyG (dP p)) = [.inl 1, .inr p.1, .inl 1, .inl (p.2 : Int), .inl 0] := fun p => by
    show [Sum.inl 1, Sum.inr (tx p.1).cps.toList, .inl 1, .inl (p.2 : Int), .inl 0] = _
    rw [tx_list]
  rw [e, e]
  show _ = !PyProof.Rows.lexLt PyProof.Rows.itemOrd [.inl 1, .inr q.1, .inl 1, .inl (q.2 : Int), .inl 0] [.inl 1, .inr p.1, .inl 1, .inl (p.2 : Int), .inl 0]
  have l1 : ∀ x y : Int, PyProof.Rows.itemOrd.blt (.inl x) (.inl y) = decide (x < y) := fun _ _ => rfl
  have l2 : ∀ x y : T, PyProof.Rows.itemOrd.blt (.inr x) (.inr y) = decide (x < y) := fun _ _ => rfl
  simp only [PyProof.Rows.lex_cons, l1, l2, Int.lt_irrefl, decide_false, Bool.false_or, Bool.not_false, Bool.true_and, PyProof.Rows.lexLt, Bool.and_false, Bool.or_false]
  have l3 : ∀ x y : Int, itemLt (.inl x) (.inl y) = decide (x < y) := fun _ _ => rfl
  have l4 : ∀ x y : T, itemLt (.inr x) (.inr y) = decide (x < y) := fun _ _ => rfl
  unfold leP
  simp [l3, l4]
theorem sort_dP {ps : List (T × Nat)} : sortD [.lst (ps.map dP)] = some (true, .lst ((ps.mergeSort leP).map dP)) := by
  unfold sortD
  simp only [py_dPs]
  have c : PySem.W.AllAlike (ps.map fun p => PyData.tuple [.str (tx p.1), .int p.2]) ∧ sortable (ps.map fun p => PyData.tuple [.str (tx p.1), .int p.2]) = true ∧ ∀ q ∈ (ps.map fun p => PyData.tuple [.str (tx p.1), .int p.2]), q.depth ≤ 60 := by
    refine ⟨?_, ?_, ?_⟩
    · intro d hd d' hd'
      obtain ⟨p, _, rfl⟩ := List.mem_map.mp hd
      obtain ⟨p', _, rfl⟩ := List.mem_map.mp hd'
      rfl
    · unfold sortable
      rw [Bool.or_eq_true]
      refine .inl (List.all_eq_true.mpr fun d hd => ?_)
      obtain ⟨p, _, rfl⟩ := List.mem_map.mp hd
      rfl
    · intro d hd
      obtain ⟨p, _, rfl⟩ := List.mem_map.mp hd
      simp [PyData.depth, PyData.depthAll]
  rw [if_pos c, List.map_mergeSort (r := leP) (s := leD') (fun a _ b _ => le_dP a b)]
theorem sortU_dP {ps : List (T × Nat)} : sortUD [.lst (ps.map dP)] = some (true, .lst ((ps.mergeSort leP).map dP)) := sort_dP
def leN (a b : Nat) : Bool := decide (a ≤ b)
end PyD.S

end

set_option hygiene false in
local macro_rules | `(tactic| walk_at "k33569854") => `(tactic| simp -dsimp -implicitDefEqProofs only [is_nn, is_in, is_sn, is_tn, is_ln, is_bn, os_endA, os_endO, os_endG, os_endP, os_endD, os_endS, os_endFr, os_endWh, os_bod, endK_nx, endK_rt, endK_bk, endK_ct, endK_exc, bodK_nx, bodK_rt, bodK_bk, bodK_ct, bodK_exc, frM_t, frM_f, frM_n, wpM_t, wpM_f, wpM_n, ok_c, ok_nm, nmK_v, nmK_o, ok_mv, mvK_v, mvK_o, ok_dm, dmK_v, dmK_o, ok_nil, ok_cons, ok_one, ok_two, ok_op, ok_tstB, ok_tstF, ok_not, bi_true, bi_false, bi_dec, bj_true, bj_false, bj_not, bi_not_dec, ok_and, ok_or, ok_ifF, ok_andF, ok_orF, ok_notF, ok_tup, ok_lst, ok_dic, ok_bm, intR_int, ok_prtN, ok_prtS, ok_sl, callK_ret, ok_call, ok_itA, ok_lc, ok_ch, ok_mut, mutG, shK_sh, shK2_sh, ordB, ownK_o, os_sk, os_bk, os_ct, seqK_nx, seqK_rt, seqK_bk, seqK_ct, seqK_exc, os_seq, os_dr, os_rt, vK_sh, vK_fr, os_asV, os_asO, os_asG, os_asP, os_st, oK_fr, ok_gNm, ok_gTp, ok_gNms0, ok_gNms1, os_fr, ok_run, defK_nx, defK_sh, defK_fr, loopK_nx, loopK_ct, loopK_bk, loopK_rt, okL_some, okL_map, okL_if, okL_ifo, rsls, rsl, stos, stoD, mkR, blD, free_eq, frS_e, frS_v, frS_o, nxK_nx, List.getElem?_cons_zero, List.getElem?_cons_succ, List.set_cons_zero, List.set_cons_succ, List.length_cons, List.length_nil, Nat.zero_add, Nat.reduceAdd, mkE, slIn, List.replicate, List.cons_append, List.nil_append, outsOf, pick, lentOk, nodupB, slotsOf, borrows, putBack, resFlat, add_tx, add_lst, add_tup, add_int, sub_int, mulV_int, mod_int, fdv_int, pow_int, neg_int, eq_int, eqOp_eq, ne_false, ne_true, tx_list, len_tx, len_lst, len_tup, len_scr, len_dic, ix_lst, ix_tup, ix_tx, ix_scr, at_0, at_1, at_2, set_lst, app_lst, ixN_30, ixN_31, ixN_32, ixN_20, ixN_21, ixN_10, sl_tx, sl_lst, sl_tup, sl_scr, true_and, and_true, ordD, Bool.not_false, Bool.not_true, Bool.and_true, Bool.true_and, Bool.or_true, Bool.true_or, List.elem, Bool.false_eq_true, if_true, if_false, isLst, isStr, isDic, int_bl, int_int, list_lst, list_tup, list_scr, tuple_lst, tuple_tup, max2_int, min2_int, isi_int, isi_bl, isi_str, isi_tup, isi_lst, isi_non, isi_dic, ty_ii, ty_ib, ty_is, ty_it, ty_il, ty_bi, ty_bb, ty_bs, ty_bt, ty_bL, ty_si, ty_sb, ty_ss, ty_st, ty_sl, ty_ti, ty_tb, ty_ts, ty_tt, ty_tl, ty_li, ty_lb, ty_ls, ty_lt, ty_ll, ty_ni, ty_nb, ty_ns, ty_nt, ty_nl, rg1, rg2, rg3, it_lst, it_tup, it_scr, it_str, enum_lst, zip_lst, zip_tup, rev_lst, rev_tup, tru_int, tru_bl, tru_lst, tru_tup, wipeE, resE, List.all_cons, List.all_nil, Bool.and_eq_true, dtx, yesT_ok, and_self])

set_option hygiene false in
local macro_rules | `(tactic| walk_at "k2b729343") => `(tactic| simp -dsimp -implicitDefEqProofs only [os_if, os_endIf, is_nn, is_in, is_sn, is_tn, is_ln, is_bn, os_endA, os_endO, os_endG, os_endP, os_endD, os_endS, os_endFr, os_endWh, os_bod, endK_nx, endK_rt, endK_bk, endK_ct, endK_exc, bodK_nx, bodK_rt, bodK_bk, bodK_ct, bodK_exc, frM_t, frM_f, frM_n, wpM_t, wpM_f, wpM_n, ok_c, ok_nm, nmK_v, nmK_o, ok_mv, mvK_v, mvK_o, ok_dm, dmK_v, dmK_o, ok_nil, ok_cons, ok_one, ok_two, ok_op, ok_tstB, ok_tstF, ok_not, bi_true, bi_false, bi_dec, bj_true, bj_false, bj_not, bi_not_dec, ok_and, ok_or, ok_ifF, ok_andF, ok_orF, ok_notF, ok_tup, ok_lst, ok_dic, ok_bm, intR_int, ok_prtN, ok_prtS, ok_sl, callK_ret, ok_call, ok_itA, ok_lc, ok_ch, ok_mut, mutG, shK_sh, shK2_sh, ordB, ownK_o, os_sk, os_bk, os_ct, seqK_nx, seqK_rt, seqK_bk, seqK_ct, seqK_exc, os_seq, os_dr, os_rt, vK_sh, vK_fr, os_asV, os_asO, os_asG, os_asP, os_st, oK_fr, ok_gNm, ok_gTp, ok_gNms0, ok_gNms1, os_fr, ok_run, defK_nx, defK_sh, defK_fr, loopK_nx, loopK_ct, loopK_bk, loopK_rt, okL_some, okL_map, okL_if, okL_ifo, rsls, rsl, stos, stoD, mkR, blD, free_eq, frS_e, frS_v, frS_o, nxK_nx, List.getElem?_cons_zero, List.getElem?_cons_succ, List.set_cons_zero, List.set_cons_succ, List.length_cons, List.length_nil, Nat.zero_add, Nat.reduceAdd, mkE, slIn, List.replicate, List.cons_append, List.nil_append, outsOf, pick, lentOk, nodupB, slotsOf, borrows, putBack, resFlat, add_tx, add_lst, add_tup, add_int, sub_int, mulV_int, mod_int, fdv_int, pow_int, neg_int, eq_int, eqOp_eq, ne_false, ne_true, tx_list, len_tx, len_lst, len_tup, len_scr, len_dic, ix_lst, ix_tup, ix_tx, ix_scr, at_0, at_1, at_2, set_lst, app_lst, ixN_30, ixN_31, ixN_32, ixN_20, ixN_21, ixN_10, sl_tx, sl_lst, sl_tup, sl_scr, true_and, and_true, ordD, Bool.not_false, Bool.not_true, Bool.and_true, Bool.true_and, Bool.or_true, Bool.true_or, List.elem, Bool.false_eq_true, if_true, if_false, isLst, isStr, isDic, int_bl, int_int, list_lst, list_tup, list_scr, tuple_lst, tuple_tup, max2_int, min2_int, isi_int, isi_bl, isi_str, isi_tup, isi_lst, isi_non, isi_dic, ty_ii, ty_ib, ty_is, ty_it, ty_il, ty_bi, ty_bb, ty_bs, ty_bt, ty_bL, ty_si, ty_sb, ty_ss, ty_st, ty_sl, ty_ti, ty_tb, ty_ts, ty_tt, ty_tl, ty_li, ty_lb, ty_ls, ty_lt, ty_ll, ty_ni, ty_nb, ty_ns, ty_nt, ty_nl, rg1, rg2, rg3, it_lst, it_tup, it_scr, it_str, enum_lst, zip_lst, zip_tup, rev_lst, rev_tup, tru_int, tru_bl, tru_lst, tru_tup, wipeE, resE, List.all_cons, List.all_nil, Bool.and_eq_true, dtx, yesT_ok, and_self])

set_option hygiene false in
local macro_rules | `(tactic| walk_at "ka2c0ebbf") => `(tactic| simp -dsimp -implicitDefEqProofs only [is_nn, is_in, is_sn, is_tn, is_ln, is_bn, os_endA, os_endO, os_endG, os_endP, os_endD, os_endS, os_endFr, os_endWh, os_bod, endK_nx, endK_rt, endK_bk, endK_ct, endK_exc, bodK_nx, bodK_rt, bodK_bk, bodK_ct, bodK_exc, frM_t, frM_f, frM_n, wpM_t, wpM_f, wpM_n, ok_c, ok_nm, nmK_v, nmK_o, ok_mv, mvK_v, mvK_o, ok_dm, dmK_v, dmK_o, ok_nil, ok_cons, ok_one, ok_two, ok_op, ok_tstB, ok_tstF, ok_not, bi_true, bi_false, bi_dec, bj_true, bj_false, bj_not, bi_not_dec, ok_and, ok_or, ok_notF, ok_tup, ok_lst, ok_dic, ok_bm, intR_int, ok_prtN, ok_prtS, ok_sl, callK_ret, ok_call, ok_itA, ok_lc, ok_ch, ok_mut, mutG, shK_sh, shK2_sh, ordB, ownK_o, os_sk, os_bk, os_ct, seqK_nx, seqK_rt, seqK_bk, seqK_ct, seqK_exc, os_seq, os_dr, os_rt, vK_sh, vK_fr, os_asV, os_asO, os_asG, os_asP, os_st, oK_fr, ok_gNm, ok_gTp, ok_gNms0, ok_gNms1, os_fr, ok_run, defK_nx, defK_sh, defK_fr, loopK_nx, loopK_ct, loopK_bk, loopK_rt, okL_some, okL_map, okL_if, okL_ifo, rsls, rsl, stos, stoD, mkR, blD, free_eq, frS_e, frS_v, frS_o, nxK_nx, List.getElem?_cons_zero, List.getElem?_cons_succ, List.set_cons_zero, List.set_cons_succ, List.length_cons, List.length_nil, Nat.zero_add, Nat.reduceAdd, mkE, slIn, List.replicate, List.cons_append, List.nil_append, outsOf, pick, lentOk, nodupB, slotsOf, borrows, putBack, resFlat, add_tx, add_lst, add_tup, add_int, sub_int, mulV_int, mod_int, fdv_int, pow_int, neg_int, eq_int, eqOp_eq, ne_false, ne_true, tx_list, len_tx, len_lst, len_tup, len_scr, len_dic, ix_lst, ix_tup, ix_tx, ix_scr, at_0, at_1, at_2, set_lst, app_lst, ixN_30, ixN_31, ixN_32, ixN_20, ixN_21, ixN_10, sl_tx, sl_lst, sl_tup, sl_scr, true_and, and_true, ordD, Bool.not_false, Bool.not_true, Bool.and_true, Bool.true_and, Bool.or_true, Bool.true_or, List.elem, Bool.false_eq_true, if_true, if_false, isLst, isStr, isDic, int_bl, int_int, list_lst, list_tup, list_scr, tuple_lst, tuple_tup, max2_int, min2_int, isi_int, isi_bl, isi_str, isi_tup, isi_lst, isi_non, isi_dic, ty_ii, ty_ib, ty_is, ty_it, ty_il, ty_bi, ty_bb, ty_bs, ty_bt, ty_bL, ty_si, ty_sb, ty_ss, ty_st, ty_sl, ty_ti, ty_tb, ty_ts, ty_tt, ty_tl, ty_li, ty_lb, ty_ls, ty_lt, ty_ll, ty_ni, ty_nb, ty_ns, ty_nt, ty_nl, rg1, rg2, rg3, it_lst, it_tup, it_scr, it_str, enum_lst, zip_lst, zip_tup, rev_lst, rev_tup, tru_int, tru_bl, tru_lst, tru_tup, wipeE, resE, List.all_cons, List.all_nil, Bool.and_eq_true, dtx, yesT_ok, and_self])

section
set_option maxHeartbeats 4000000
namespace PyD.S
open PySem PySem.Spec L2 PyD.S
local macro_rules | `(tactic| walk_at "ev") => `(tactic| walk_at "k33569854")
local macro_rules | `(tactic| walk_at "evi") => `(tactic| walk_at "k2b729343")
local macro_rules | `(tactic| walk_at "eva") => `(tactic| walk_at "ka2c0ebbf")
local macro_rules | `(tactic| walk_at "sd") => `(tactic| repeat (refine And.intro (by first | omega | assumption | exact rfl) ?_))
local macro_rules | `(tactic| walk_at "sc") => `(tactic| first | assumption | omega | exact rfl | exact mulOk_r (by omega) (by omega) | exact mulOk_l (by omega) (by omega) | exact log_ok (by omega) (by omega) | (simp only [List.length_append, List.length_cons, List.length_nil, List.length_take, List.length_drop, List.length_map, List.length_replicate, upL_len]; omega) | (refine And.intro ?_ ?_ <;> walk_at "sc") | decide)
set_option hygiene false in
local macro_rules | `(tactic| walk_at "lm") => `(tactic| first
  | ((with_reducible refine take_ok ?_ ?_ ?_ fun p r hp hr0 hr1 => ?_); (focus assumption); (focus omega); (focus omega))
  | ((with_reducible refine pick_ok ?_ ?_ ?_ fun p r hp hr0 hr1 => ?_); (focus assumption); (focus omega); (focus omega))
  | ((with_reducible refine pick2_ok ?_ ?_ ?_ fun p r hp hr0 hr1 => ?_); (focus assumption); (focus omega); (focus omega))
  | ((with_reducible refine letter_ok ?_ ?_ ?_ fun p c hp hc => ?_); (focus assumption); (focus omega); (focus omega))
  | ((with_reducible refine signs_ok ?_ ?_ ?_ ?_ ?_ fun p l hp hl hc => ?_); (focus assumption); (focus omega); (focus omega); (focus omega); (focus omega))
  | ((with_reducible refine text_ok ?_ ?_ ?_ fun p l hp hl hc => ?_); (focus assumption); (focus omega); (focus omega))
  | ((with_reducible refine rtext_ok ?_ ?_ ?_ fun p l hp hl hc => ?_); (focus assumption); (focus omega); (focus omega))
  | ((with_reducible refine rtext2_ok ?_ ?_ ?_ fun p l hp hl hc => ?_); (focus assumption); (focus omega); (focus omega))
  | (with_reducible refine whole_ok ?_))
local macro_rules | `(tactic| walk_at "ok") => `(tactic| first | assumption | exact okT_nil | exact Lts.ok (by assumption) | decide)
local macro_rules | `(tactic| walk_at "g0") => `(tactic| first
  | ((with_reducible refine And.intro ?_ ?_); (focus walk_at "sc"))
  | walk_at "lm"
  | ((with_reducible refine okL_eqtx ?_ ?_ ?_); (focus walk_at "ok"); (focus walk_at "ok"))
  | ((with_reducible refine bj_t ?_ ?_); (focus (first | with_reducible rfl | omega)))
  | ((with_reducible refine bj_f ?_ ?_); (focus omega)))
local macro_rules | `(tactic| walk_at "g1") => `(tactic| first
  | walk_at "ev"
  | walk_at "g0")
local macro_rules | `(tactic| walk_at "g2") => `(tactic| first
  | walk_at "evi"
  | walk_at "g0")
local macro_rules | `(tactic| walk_at "go") => `(tactic| repeat walk_at "g1")
local macro_rules | `(tactic| walk_at "goi") => `(tactic| repeat walk_at "g2")
local macro_rules | `(tactic| walk_at "goa") => `(tactic| repeat first | walk_at "eva" | walk_at "g0")
def wh (l : T) : T := l ++ [46]
def rot (w : T) (i : Nat) : T := w.drop i ++ w.take i
def prsR (w : T) (n : Nat) : List (T × Nat) := (List.range n).map fun i => (rot w i, i)
def srt (w : T) : List (T × Nat) := (prsR w w.length).mergeSort leP
def lastOf (t : T) : Nat := t.getLast?.getD 0
def turnedL (l : T) : T := (srt (wh l)).map fun p => lastOf p.1
theorem wh_len (l : T) : (wh l).length = l.length + 1 := by simp [wh]
theorem wh_okT {l : T} (h : okT l) : okT (wh l) := fun c hc => by
  rcases List.mem_append.mp hc with z | z
  · exact h c z
  · rw [List.mem_singleton.mp z]; decide
theorem rot_len (w : T) (i : Nat) : (rot w i).length = w.length := by
  unfold rot
  rw [List.length_append, List.length_drop, List.length_take]
  omega
theorem prsR_len (w : T) (n : Nat) : (prsR w n).length = n := by simp [prsR]
theorem srt_len (w : T) : (srt w).length = w.length := by
  unfold srt
  rw [List.length_mergeSort, prsR_len]
theorem srt_mem {w : T} {p : T × Nat} (h : p ∈ srt w) : p.1 = rot w p.2 ∧ p.2 < w.length := by
  have h := List.mem_mergeSort.mp h
  obtain ⟨i, hi, rfl⟩ := List.mem_map.mp h
  exact ⟨rfl, List.mem_range.mp hi⟩
theorem srt_perm (w : T) : (srt w).Perm (prsR w w.length) := List.mergeSort_perm _ _
theorem srt_pw (w : T) : (srt w).Pairwise fun a b => leP a b = true := List.pairwise_mergeSort leP_trans leP_total _
theorem srt_uniq {w : T} {b : List (T × Nat)} (h : (prsR w w.length).Perm b) (h' : b.Pairwise fun a b => leP a b = true) : srt w = b :=
  List.Perm.eq_of_pairwise (fun _ _ _ _ x y => leP_anti x y) (srt_pw w) h' ((srt_perm w).trans h)
theorem rot_last {w : T} {i : Nat} (h : i < w.length) : atI w ((i : Int) - 1) = some (lastOf (rot w i)) := by
  unfold lastOf rot
  cases i with
  | zero =>
    have hw : w ≠ [] := fun z => by rw [z] at h; simp at h
    rw [show ((0 : Nat) : Int) - 1 = -1 by omega, at_last hw]
    simp only [List.drop_zero, List.take_zero, List.append_nil]
    cases e : w.getLast? with
    | none => exact absurd (List.getLast?_eq_none_iff.mp e) hw
    | some c => rfl
  | succ i =>
    have hi : i < w.length := by omega
    unfold atI
    rw [ixN_at (by omega) (by omega)]
    simp only [Option.bind_some]
    rw [show (((i + 1 : Nat) : Int) - 1).toNat = i by omega]
    rw [List.getLast?_append, List.getLast?_take]
    simp [hi]
theorem lastOf_mem {t : T} (h : t ≠ []) : lastOf t ∈ t := by
  unfold lastOf
  cases e : t.getLast? with
  | none => exact absurd (List.getLast?_eq_none_iff.mp e) h
  | some c => exact List.mem_of_getLast? e
theorem rot_mem {w : T} {i c : Nat} (h : c ∈ rot w i) : c ∈ w := by
  rcases List.mem_append.mp h with z | z
  · exact List.mem_of_mem_drop z
  · exact List.mem_of_mem_take z
theorem turned_okT {l : T} (h : okT l) : okT (turnedL l) := by
  intro c hc
  obtain ⟨p, hp, rfl⟩ := List.mem_map.mp hc
  obtain ⟨h1, h2⟩ := srt_mem hp
  refine wh_okT h _ (rot_mem (i := p.2) ?_)
  rw [← h1]
  refine lastOf_mem fun z => ?_
  have := rot_len (wh l) p.2
  rw [← h1, z] at this
  simp at this
  omega
theorem order_ok {l : T} {k : Out → Prop} (hl : l.length ≤ 5000) (h : k (.ret true (.lst ((srt (wh l)).map fun p => .int p.2)) [.str (tx l)])) : okO (phi_order_of [.str (tx l)]) k := by
  unfold phi_order_of b_order_of
  walk_at "go"
  have hw := wh_len l
  refine ok_lcY (fun acc en => acc = (prsR (wh l) acc.length).map dP ∧ en = [.v (.str (tx l)), .v (.str (tx (wh l))), .e, .e, .e]) ⟨rfl, rfl⟩ (show (upL 0 ((wh l).length : Int).toNat).length ≤ 1000000 by rw [upL_len]; omega) ?_ ?_
  · rintro i d hd acc en hi ⟨ha, rfl⟩
    obtain ⟨rfl, hlt⟩ := upL_get hd
    subst hi
    walk_at "go"
    rw [cut_from (by omega), cut_to (by omega)]
    refine ⟨by rw [List.length_drop, List.length_take]; omega, by omega, ?_⟩
    rw [show (0 + (acc.length : Int)).toNat = acc.length by omega, Int.zero_add]
    have e : prsR (wh l) (acc.length + 1) = prsR (wh l) acc.length ++ [(rot (wh l) acc.length, acc.length)] := by
      unfold prsR
      rw [List.range_succ, List.map_append]
      rfl
    rw [List.length_append, List.length_singleton, e, List.map_append, ← ha]
    rfl
  · rintro acc en hlen ⟨ha, rfl⟩
    have hlen : acc.length = (wh l).length := by
      rw [hlen, upL_len]
      rfl
    walk_at "ev"
    rw [ha, hlen, sortU_dP]
    walk_at "go"
    refine ok_lcY (fun acc en => acc = ((srt (wh l)).take acc.length).map (fun p => D.int p.2) ∧ en = [.v (.str (tx l)), .v (.str (tx (wh l))), .v (.lst ((srt (wh l)).map dP)), .e, .e]) ⟨rfl, rfl⟩ ?_ ?_ ?_
    · have := srt_len (wh l)
      rw [List.length_map]
      show (srt (wh l)).length ≤ 1000000
      omega
    · rintro i d hd acc en hi ⟨ha, rfl⟩
      rw [List.getElem?_map] at hd
      obtain ⟨p, hp, rfl⟩ := Option.map_eq_some_iff.mp hd
      subst hi
      unfold dP
      walk_at "go"
      rw [List.length_append, List.length_singleton]
      have e : (srt (wh l)).take (acc.length + 1) = (srt (wh l)).take acc.length ++ [p] := by
        rw [List.take_succ, show (srt (wh l))[acc.length]? = some p from hp]
        rfl
      rw [e, List.map_append, ← ha]
      rfl
    · rintro acc en hlen2 ⟨ha, rfl⟩
      rw [List.length_map] at hlen2
      have hlen2 : acc.length = (srt (wh l)).length := hlen2
      walk_at "ev"
      rw [ha, hlen2, List.take_length]
      exact h
theorem turned_ok {l : T} {k : Out → Prop} (hl : l.length ≤ 5000) (h : k (.ret false (.str (tx (turnedL l))) [.str (tx l)])) : okO (phi_turned [.str (tx l)]) k := by
  unfold phi_turned b_turned
  walk_at "go"
  refine order_ok hl ?_
  walk_at "go"
  have hw := wh_len l
  have hs := srt_len (wh l)
  refine ok_lcY (fun acc en => acc = (((srt (wh l)).take acc.length).map (fun p => [lastOf p.1])).map dtx ∧ en = [.v (.str (tx l)), .v (.str (tx (wh l))), .e]) ⟨rfl, rfl⟩ (by rw [List.length_map]; omega) ?_ ?_
  · rintro i d hd acc en hi ⟨ha, rfl⟩
    rw [List.getElem?_map] at hd
    obtain ⟨p, hp, rfl⟩ := Option.map_eq_some_iff.mp hd
    obtain ⟨h1, h2⟩ := srt_mem (List.mem_of_getElem? hp)
    subst hi
    walk_at "go"
    rw [rot_last h2]
    walk_at "go"
    rw [List.length_append, List.length_singleton]
    have e : (srt (wh l)).take (acc.length + 1) = (srt (wh l)).take acc.length ++ [p] := by
      rw [List.take_succ, hp]
      rfl
    rw [e, List.map_append, List.map_append, ← ha, ← h1]
    rfl
  · rintro acc en hlen ⟨ha, rfl⟩
    rw [List.length_map] at hlen
    walk_at "ev"
    rw [ha, hlen, List.take_length, join_txs (by
      intro x hx
      obtain ⟨p, _, rfl⟩ := List.mem_map.mp hx
      rfl) (by rw [List.length_map]; omega)]
    walk_at "go"
    have e : ((srt (wh l)).map fun p => [lastOf p.1]).flatten = turnedL l := by
      unfold turnedL
      induction srt (wh l) with
      | nil => rfl
      | cons p r ih => rw [List.map_cons, List.flatten_cons, ih]; rfl
    rw [e]
    exact h
end PyD.S

end

section
set_option maxHeartbeats 2000000
namespace PyD.S
open PySem PySem.Spec L2 PyD.S
local macro_rules | `(tactic| walk_at "ev") => `(tactic| walk_at "k33569854")
local macro_rules | `(tactic| walk_at "evi") => `(tactic| walk_at "k2b729343")
local macro_rules | `(tactic| walk_at "eva") => `(tactic| walk_at "ka2c0ebbf")
local macro_rules | `(tactic| walk_at "sd") => `(tactic| repeat (refine And.intro (by first | omega | assumption | exact rfl) ?_))
local macro_rules | `(tactic| walk_at "sc") => `(tactic| first | assumption | omega | exact rfl | exact mulOk_r (by omega) (by omega) | exact mulOk_l (by omega) (by omega) | exact log_ok (by omega) (by omega) | (simp only [List.length_append, List.length_cons, List.length_nil, List.length_take, List.length_drop, List.length_map, List.length_replicate, upL_len]; omega) | (refine And.intro ?_ ?_ <;> walk_at "sc") | decide)
set_option hygiene false in
local macro_rules | `(tactic| walk_at "lm") => `(tactic| first
  | ((with_reducible refine take_ok ?_ ?_ ?_ fun p r hp hr0 hr1 => ?_); (focus assumption); (focus omega); (focus omega))
  | ((with_reducible refine pick_ok ?_ ?_ ?_ fun p r hp hr0 hr1 => ?_); (focus assumption); (focus omega); (focus omega))
  | ((with_reducible refine pick2_ok ?_ ?_ ?_ fun p r hp hr0 hr1 => ?_); (focus assumption); (focus omega); (focus omega))
  | ((with_reducible refine letter_ok ?_ ?_ ?_ fun p c hp hc => ?_); (focus assumption); (focus omega); (focus omega))
  | ((with_reducible refine signs_ok ?_ ?_ ?_ ?_ ?_ fun p l hp hl hc => ?_); (focus assumption); (focus omega); (focus omega); (focus omega); (focus omega))
  | ((with_reducible refine text_ok ?_ ?_ ?_ fun p l hp hl hc => ?_); (focus assumption); (focus omega); (focus omega))
  | ((with_reducible refine rtext_ok ?_ ?_ ?_ fun p l hp hl hc => ?_); (focus assumption); (focus omega); (focus omega))
  | ((with_reducible refine rtext2_ok ?_ ?_ ?_ fun p l hp hl hc => ?_); (focus assumption); (focus omega); (focus omega))
  | (with_reducible refine whole_ok ?_))
local macro_rules | `(tactic| walk_at "ok") => `(tactic| first | assumption | exact okT_nil | exact Lts.ok (by assumption) | decide)
local macro_rules | `(tactic| walk_at "g0") => `(tactic| first
  | ((with_reducible refine And.intro ?_ ?_); (focus walk_at "sc"))
  | walk_at "lm"
  | ((with_reducible refine okL_eqtx ?_ ?_ ?_); (focus walk_at "ok"); (focus walk_at "ok"))
  | ((with_reducible refine bj_t ?_ ?_); (focus (first | with_reducible rfl | omega)))
  | ((with_reducible refine bj_f ?_ ?_); (focus omega)))
local macro_rules | `(tactic| walk_at "g1") => `(tactic| first
  | walk_at "ev"
  | walk_at "g0")
local macro_rules | `(tactic| walk_at "g2") => `(tactic| first
  | walk_at "evi"
  | walk_at "g0")
local macro_rules | `(tactic| walk_at "go") => `(tactic| repeat walk_at "g1")
local macro_rules | `(tactic| walk_at "goi") => `(tactic| repeat walk_at "g2")
local macro_rules | `(tactic| walk_at "goa") => `(tactic| repeat first | walk_at "eva" | walk_at "g0")
theorem sg_lt2 {a b : Nat} : ([a] < [b]) ↔ a < b := by
  rw [List.cons_lt_cons_iff]
  constructor
  · rintro (h | ⟨_, h⟩)
    · exact h
    · exact absurd h (List.lt_irrefl _)
  · exact .inl
theorem app_lt : ∀ {u v x y : T}, u.length = v.length → u < v → u ++ x < v ++ y
  | [], [], _, _, _, h => absurd h (List.lt_irrefl _)
  | a :: u, b :: v, x, y, hl, h => by
    rw [List.cons_append, List.cons_append, List.cons_lt_cons_iff]
    rcases List.cons_lt_cons_iff.mp h with h | ⟨e, h⟩
    · exact .inl h
    · exact .inr ⟨e, app_lt (by simpa using hl) h⟩
def nx (N i : Nat) : Nat := if i + 1 = N then 0 else i + 1
def hdT (w : T) (i : Nat) : Nat := w.getD i 0
theorem rot_cons {w : T} {i : Nat} (h : i < w.length) : rot w i = hdT w i :: (w.drop (i + 1) ++ w.take i) := by
  unfold rot hdT
  rw [List.drop_eq_getElem_cons h, List.getD_eq_getElem?_getD, List.getElem?_eq_getElem h]
  rfl
theorem rot_nx {w : T} {i : Nat} (h : i < w.length) : rot w (nx w.length i) = (w.drop (i + 1) ++ w.take i) ++ [hdT w i] := by
  have e : w.take (i + 1) = w.take i ++ [hdT w i] := by
    rw [List.take_succ_eq_append_getElem h]
    unfold hdT
    rw [List.getD_eq_getElem?_getD, List.getElem?_eq_getElem h]
    rfl
  unfold nx
  split
  · rename_i h1
    unfold rot
    rw [List.append_assoc, ← e, h1, List.drop_length, List.drop_zero, List.take_zero, List.take_length]
    simp
  · unfold rot
    rw [e, List.append_assoc]
theorem nx_lt {N i : Nat} (h : i < N) : nx N i < N := by
  unfold nx
  split <;> omega
theorem last_nx {w : T} {i : Nat} (h : i < w.length) : lastOf (rot w (nx w.length i)) = hdT w i := by
  rw [rot_nx h]
  unfold lastOf
  simp
theorem rot_injB {l : T} (hp : 46 ∉ l) {i j : Nat} (hi : i < (wh l).length) (hj : j < (wh l).length) (h : rot (wh l) i = rot (wh l) j) : i = j := by
  have key : ∀ i, i < (wh l).length → (rot (wh l) i).idxOf 46 = l.length - i := fun i hi => by
    rw [wh_len] at hi
    unfold rot wh
    rw [List.drop_append_of_le_length (by omega), List.append_assoc, List.idxOf_append, if_neg (fun z => hp (List.mem_of_mem_drop z)), List.singleton_append, List.idxOf_cons_self, List.length_drop]
    omega
  have a := key i hi
  have b := key j hj
  rw [wh_len] at hi hj
  rw [h] at a
  omega
def rwT (l : T) (i : Nat) : Nat := (srt (wh l)).idxOf (rot (wh l) i, i)
theorem srt_in {w : T} {i : Nat} (h : i < w.length) : (rot w i, i) ∈ srt w := (srt_perm w).mem_iff.mpr (List.mem_map.mpr ⟨i, List.mem_range.mpr h, rfl⟩)
theorem srt_nodup (w : T) : (srt w).Nodup := (srt_perm w).symm.nodup (by
  unfold prsR
  rw [List.Nodup, List.pairwise_map]
  exact (List.nodup_range (n := w.length)).imp fun {a b} h z => h (Prod.mk.inj z).2)
theorem row_lt {l : T} {i : Nat} (h : i < (wh l).length) : rwT l i < (wh l).length := by
  rw [← srt_len]
  exact List.idxOf_lt_length_of_mem (srt_in h)
theorem row_get {l : T} {i : Nat} (h : i < (wh l).length) : (srt (wh l))[rwT l i]? = some (rot (wh l) i, i) := by
  have := List.idxOf_lt_length_of_mem (srt_in h)
  show (srt (wh l))[List.idxOf (rot (wh l) i, i) (srt (wh l))]? = _
  rw [List.getElem?_eq_getElem this, List.getElem_idxOf this]
theorem row_ofB {l : T} {r : Nat} {p : T × Nat} (h : (srt (wh l))[r]? = some p) : rwT l p.2 = r := by
  obtain ⟨hr, e⟩ := List.getElem?_eq_some_iff.mp h
  have := (srt_mem (List.mem_of_getElem? h)).1
  unfold rwT
  rw [show (rot (wh l) p.2, p.2) = p by rw [← this], ← e]
  exact (srt_nodup _).idxOf_getElem r hr
theorem row_mono {l : T} (hp : 46 ∉ l) {i j : Nat} (hi : i < (wh l).length) (hj : j < (wh l).length) (h : rot (wh l) i < rot (wh l) j) : rwT l i < rwT l j := by
  refine Classical.byContradiction fun z => ?_
  rcases Nat.lt_or_eq_of_le (Nat.not_lt.mp z) with z | z
  · obtain ⟨h1, e1⟩ := List.getElem?_eq_some_iff.mp (row_get hi)
    obtain ⟨h2, e2⟩ := List.getElem?_eq_some_iff.mp (row_get hj)
    have := (List.pairwise_iff_getElem.mp (srt_pw (wh l))) _ _ h2 h1 z
    rw [e1, e2, leP_iff] at this
    rcases this with this | ⟨this, _⟩
    · exact absurd (List.lt_trans h this) (List.lt_irrefl _)
    · dsimp only at this
      rw [this] at h
      exact absurd h (List.lt_irrefl _)
  · have a := row_get hi
    have b := row_get hj
    rw [z, a] at b
    have := (Prod.mk.inj (Option.some.inj b)).1
    rw [this] at h
    exact absurd h (List.lt_irrefl _)
def fT (l : T) (p : T × Nat) : T × Nat := ([hdT (wh l) p.2], rwT l (nx (wh l).length p.2))
def enT (L : T) : List (T × Nat) := (List.range L.length).map fun r => ([L.getD r 0], r)
theorem turned_lenB (l : T) : (turnedL l).length = (wh l).length := by
  unfold turnedL
  rw [List.length_map, srt_len]
theorem turned_at {l : T} {i : Nat} (h : i < (wh l).length) : (turnedL l).getD (rwT l (nx (wh l).length i)) 0 = hdT (wh l) i := by
  have e := row_get (nx_lt h)
  unfold turnedL
  rw [List.getD_eq_getElem?_getD, List.getElem?_map, e]
  exact last_nx h
theorem range_row (l : T) : ((List.range (wh l).length).map (rwT l)).Perm (List.range (wh l).length) := by
  have h1 : ((srt (wh l)).map Prod.snd).Perm (List.range (wh l).length) := by
    have := (srt_perm (wh l)).map Prod.snd
    rw [prsR, List.map_map] at this
    rwa [show (Prod.snd ∘ fun i => (rot (wh l) i, i)) = id from rfl, List.map_id] at this
  have h2 := h1.map (rwT l)
  have h3 : ((srt (wh l)).map Prod.snd).map (rwT l) = List.range (wh l).length := by
    refine List.ext_getElem? fun r => ?_
    rw [List.map_map, List.getElem?_map]
    by_cases hr : r < (wh l).length
    · rw [List.getElem?_range hr]
      have hr' : r < (srt (wh l)).length := by rw [srt_len]; exact hr
      have e := List.getElem?_eq_getElem hr'
      rw [e]
      exact congrArg some (row_ofB e)
    · rw [List.getElem?_eq_none (by rw [srt_len]; omega), List.getElem?_eq_none (by rw [List.length_range]; omega)]
      rfl
  rw [h3] at h2
  exact h2.symm
theorem range_nx (N : Nat) : ((List.range N).map (nx N)).Perm (List.range N) := by
  cases N with
  | zero => exact List.Perm.refl _
  | succ n =>
    have e : (List.range (n + 1)).map (nx (n + 1)) = (List.range n).map Nat.succ ++ [0] := by
      rw [List.range_succ, List.map_append]
      congr 1
      · refine List.map_congr_left fun i hi => ?_
        have := List.mem_range.mp hi
        unfold nx
        rw [if_neg (by omega)]
      · simp [nx]
    rw [e, List.range_succ_eq_map]
    exact List.perm_append_comm
theorem srt_back {l : T} (hp : 46 ∉ l) : (enT (turnedL l)).mergeSort leP = (srt (wh l)).map (fT l) := by
  refine List.Perm.eq_of_pairwise (fun _ _ _ _ x y => leP_anti x y) (List.pairwise_mergeSort leP_trans leP_total _) ?_ ((List.mergeSort_perm _ _).trans ?_)
  · rw [List.pairwise_map]
    refine List.Pairwise.imp_of_mem ?_ ((srt_pw (wh l)).and (srt_nodup (wh l)))
    rintro ⟨p1, i⟩ ⟨q1, j⟩ hp1 hq1 ⟨h1, h2⟩
    obtain ⟨e1, hi⟩ := srt_mem hp1
    obtain ⟨e2, hj⟩ := srt_mem hq1
    dsimp only at e1 e2 hi hj
    subst e1 e2
    have hlt : rot (wh l) i < rot (wh l) j := by
      rw [leP_iff] at h1
      rcases h1 with h1 | ⟨h1, _⟩
      · exact h1
      · exact absurd (by rw [rot_injB hp hi hj h1]) h2
    unfold fT
    rw [leP_iff]
    dsimp only
    rw [rot_cons hi, rot_cons hj] at hlt
    rcases List.cons_lt_cons_iff.mp hlt with h3 | ⟨h3, h4⟩
    · exact .inl (sg_lt2.mpr h3)
    · refine .inr ⟨by rw [h3], Nat.le_of_lt (row_mono hp (nx_lt hi) (nx_lt hj) ?_)⟩
      rw [rot_nx hi, rot_nx hj]
      exact app_lt (by simp only [List.length_append, List.length_drop, List.length_take]; omega) h4
  · have h1 : ((srt (wh l)).map (fT l)).Perm ((List.range (wh l).length).map fun i => ([hdT (wh l) i], rwT l (nx (wh l).length i))) := by
      have := (srt_perm (wh l)).map (fT l)
      rw [prsR, List.map_map] at this
      exact this
    have h2 : ((List.range (wh l).length).map fun i => ([hdT (wh l) i], rwT l (nx (wh l).length i))) = (((List.range (wh l).length).map (nx (wh l).length)).map (rwT l)).map fun r => ([(turnedL l).getD r 0], r) := by
      rw [List.map_map, List.map_map]
      refine List.map_congr_left fun i hi => ?_
      show _ = ([(turnedL l).getD (rwT l (nx (wh l).length i)) 0], rwT l (nx (wh l).length i))
      rw [turned_at (List.mem_range.mp hi)]
    rw [h2] at h1
    have h3 := (((range_nx (wh l).length).map (rwT l)).trans (range_row l)).map fun r => ([(turnedL l).getD r 0], r)
    unfold enT
    rw [turned_lenB]
    exact (h1.trans h3).symm
theorem srt_first {l : T} (hc : ∀ c ∈ l, 46 < c) : (srt (wh l))[0]? = some (rot (wh l) l.length, l.length) := by
  have hN := wh_len l
  have h0 : 0 < (srt (wh l)).length := by rw [srt_len, hN]; omega
  have e := List.getElem?_eq_getElem h0
  have hw := rot_len (wh l)
  have hm := srt_mem (List.mem_of_getElem? e)
  generalize hx : (srt (wh l))[0] = x at e hm
  obtain ⟨p, i⟩ := x
  obtain ⟨e1, hi⟩ := hm
  dsimp only at e1 hi
  by_cases hin : i = l.length
  · rw [e, e1, hin]
  · have hn : l.length < (wh l).length := by omega
    obtain ⟨h1, e2⟩ := List.getElem?_eq_some_iff.mp (row_get hn)
    have hr : 0 < rwT l l.length := by
      rcases Nat.eq_zero_or_pos (rwT l l.length) with z | z
      · have a := row_get hn
        rw [z, e] at a
        exact absurd (Prod.mk.inj (Option.some.inj a)).2 hin
      · exact z
    have hle := (List.pairwise_iff_getElem.mp (srt_pw (wh l))) _ _ h0 h1 hr
    rw [e2, hx, e1, leP_iff] at hle
    have a1 : hdT (wh l) l.length = 46 := by
      unfold hdT wh
      simp
    have a2 : 46 < hdT (wh l) i := by
      unfold hdT wh
      rw [List.getD_eq_getElem?_getD, List.getElem?_append_left (by omega), List.getElem?_eq_getElem (show i < l.length by omega)]
      exact hc _ (List.getElem_mem _)
    rw [rot_cons hi, rot_cons hn] at hle
    rcases hle with hle | ⟨hle, _⟩
    · rcases List.cons_lt_cons_iff.mp hle with z | ⟨z, _⟩ <;> omega
    · have := (List.cons.inj hle).1
      omega
theorem back_step {l : T} (hp : 46 ∉ l) {i : Nat} (hi : i < l.length) : ((enT (turnedL l)).mergeSort leP)[rwT l i]? = some ([l.getD i 0], rwT l (i + 1)) := by
  have hw := wh_len l
  rw [srt_back hp, List.getElem?_map, row_get (by omega)]
  have a1 : hdT (wh l) i = l.getD i 0 := by
    unfold hdT wh
    rw [List.getD_eq_getElem?_getD, List.getD_eq_getElem?_getD, List.getElem?_append_left hi]
  show some ([hdT (wh l) i], rwT l (nx (wh l).length i)) = _
  rw [a1]
  unfold nx
  rw [if_neg (by omega)]
theorem turned_perm (l : T) : (turnedL l).Perm (wh l) := by
  have h1 : (turnedL l).Perm ((List.range (wh l).length).map fun i => lastOf (rot (wh l) i)) := by
    have := (srt_perm (wh l)).map fun p => lastOf p.1
    rw [prsR, List.map_map] at this
    exact this
  have h2 := ((range_nx (wh l).length).map fun i => lastOf (rot (wh l) i)).symm
  have h3 : (((List.range (wh l).length).map (nx (wh l).length)).map fun i => lastOf (rot (wh l) i)) = wh l := by
    rw [List.map_map]
    refine List.ext_getElem? fun i => ?_
    rw [List.getElem?_map]
    by_cases hi : i < (wh l).length
    · rw [List.getElem?_range hi]
      show some (lastOf (rot (wh l) (nx (wh l).length i))) = _
      rw [last_nx hi]
      unfold hdT
      rw [List.getD_eq_getElem?_getD, List.getElem?_eq_getElem hi]
      rfl
    · rw [List.getElem?_eq_none (by rw [List.length_range]; omega), List.getElem?_eq_none (by omega)]
      rfl
  rw [h3] at h2
  exact h1.trans h2
end PyD.S

end

section
set_option maxHeartbeats 4000000
namespace PyD.S
open PySem PySem.Spec L2 PyD.S
def SL (L : T) : List (T × Nat) := (enT L).mergeSort leP
def piL (L : T) (k : Nat) : Nat := ((SL L).getD k ([], 0)).2
def FL (L : T) (k : Nat) : Nat := L.getD (piL L k) 0
theorem enT_lenL (L : T) : (enT L).length = L.length := by simp [enT]
theorem sl_len (L : T) : (SL L).length = L.length := by
  unfold SL
  rw [List.length_mergeSort, enT_lenL]
theorem sl_get {L : T} {k : Nat} (h : k < L.length) : (SL L)[k]? = some ([FL L k], piL L k) ∧ piL L k < L.length := by
  have hk : k < (SL L).length := by rw [sl_len]; exact h
  have e : (SL L)[k]? = some ((SL L)[k]) := List.getElem?_eq_getElem hk
  have hm : (SL L)[k] ∈ enT L := List.mem_mergeSort.mp (List.getElem_mem hk)
  obtain ⟨r, hr, e2⟩ := List.mem_map.mp hm
  have hr := List.mem_range.mp hr
  have e3 : piL L k = r := by
    unfold piL
    rw [List.getD_eq_getElem?_getD, e, Option.getD_some, ← e2]
  rw [e, ← e2]
  unfold FL
  rw [e3]
  exact ⟨rfl, hr⟩
theorem enT_nodup (L : T) : (enT L).Nodup := by
  unfold enT
  rw [List.Nodup, List.pairwise_map]
  exact (List.nodup_range (n := L.length)).imp fun {a b} h z => h (Prod.mk.inj z).2
theorem sl_nodup (L : T) : (SL L).Nodup := (List.mergeSort_perm _ _).nodup_iff.mpr (enT_nodup L)
theorem pi_inj {L : T} {k k' : Nat} (h : k < L.length) (h' : k' < L.length) (e : piL L k = piL L k') : k = k' := by
  have e1 := (sl_get h).1
  have e2 := (sl_get h').1
  have : FL L k = FL L k' := by unfold FL; rw [e]
  rw [← this, ← e, ← e1] at e2
  exact ((List.getElem?_inj (by rw [sl_len]; exact h) (sl_nodup L)).mp e2.symm)
theorem sl_pw (L : T) : (SL L).Pairwise fun a b => leP a b = true := List.pairwise_mergeSort leP_trans leP_total _
theorem sl_lt {L : T} {k k' : Nat} (h : k < k') (h' : k' < L.length) : FL L k < FL L k' ∨ (FL L k = FL L k' ∧ piL L k < piL L k') := by
  have hk : k < L.length := by omega
  have e1 := (sl_get hk).1
  have e2 := (sl_get h').1
  obtain ⟨g1, e1⟩ := List.getElem?_eq_some_iff.mp e1
  obtain ⟨g2, e2⟩ := List.getElem?_eq_some_iff.mp e2
  have := List.pairwise_iff_getElem.mp (sl_pw L) k k' g1 g2 h
  rw [e1, e2, leP_iff] at this
  rcases this with z | ⟨z1, z2⟩
  · exact .inl (sg_lt2.mp z)
  · refine .inr ⟨by simpa using z1, ?_⟩
    have := fun z => pi_inj hk h' z
    dsimp only at z2
    omega
theorem pi_surj {L : T} {r : Nat} (h : r < L.length) : ∃ k, k < L.length ∧ piL L k = r := by
  have hm : ([L.getD r 0], r) ∈ SL L := List.mem_mergeSort.mpr (List.mem_map.mpr ⟨r, List.mem_range.mpr h, rfl⟩)
  obtain ⟨k, hk, e⟩ := List.getElem_of_mem hm
  have hk2 : k < L.length := by rw [sl_len] at hk; exact hk
  refine ⟨k, hk2, ?_⟩
  have e1 := (sl_get hk2).1
  rw [List.getElem?_eq_getElem hk, e] at e1
  exact (Prod.mk.inj (Option.some.inj e1)).2.symm
def thL (L : T) (r : Nat) : Nat := (L.filter fun c => decide (c < L.getD r 0)).length + (L.take r).count (L.getD r 0)
theorem countP_or {α : Type} {a b : α → Bool} : ∀ {l : List α}, (∀ x ∈ l, ¬ (a x = true ∧ b x = true)) → l.countP (fun x => a x || b x) = l.countP a + l.countP b
  | [], _ => rfl
  | x :: l, h => by
    have ih := countP_or (a := a) (b := b) (l := l) fun y hy => h y (List.mem_cons_of_mem _ hy)
    have hx := h x (List.mem_cons_self ..)
    rw [List.countP_cons, List.countP_cons, List.countP_cons, ih]
    cases ha : a x <;> cases hb : b x <;> simp_all <;> omega
theorem map_getD : ∀ (L : T), (List.range L.length).map (fun i => L.getD i 0) = L := fun L => by
  refine List.ext_getElem? fun i => ?_
  rw [List.getElem?_map]
  by_cases h : i < L.length
  · rw [List.getElem?_range h, Option.map_some, List.getD_eq_getElem?_getD, List.getElem?_eq_getElem h]
    rfl
  · rw [List.getElem?_eq_none (by rw [List.length_range]; omega), List.getElem?_eq_none (by omega)]
    rfl
theorem map_getD_take (L : T) {r : Nat} (h : r ≤ L.length) : (List.range r).map (fun i => L.getD i 0) = L.take r := by
  refine List.ext_getElem? fun i => ?_
  rw [List.getElem?_map]
  by_cases hi : i < r
  · rw [List.getElem?_range hi, Option.map_some, List.getD_eq_getElem?_getD, List.getElem?_take_of_lt hi, List.getElem?_eq_getElem (by omega)]
    rfl
  · rw [List.getElem?_eq_none (by rw [List.length_range]; omega), List.getElem?_eq_none (by rw [List.length_take]; omega)]
    rfl
theorem th_pi {L : T} {k : Nat} (h : k < L.length) : thL L (piL L k) = k := by
  have hS := sl_len L
  have hr := (sl_get h).2
  obtain ⟨q, hq⟩ : ∃ q : T × Nat → Bool, q = fun p => decide (p.1 < [FL L k]) || (decide (p.1 = [FL L k]) && decide (p.2 < piL L k)) := ⟨_, rfl⟩
  have e1 : (SL L).countP q = k := by
    rw [← List.take_append_drop k (SL L), List.countP_append]
    have g1 : ((SL L).take k).countP q = ((SL L).take k).length := by
      rw [List.countP_eq_length]
      intro p hp
      obtain ⟨i, hi, rfl⟩ := List.getElem_of_mem hp
      rw [List.length_take] at hi
      have e := (sl_get (L := L) (k := i) (by omega)).1
      rw [List.getElem_take]
      obtain ⟨g, e⟩ := List.getElem?_eq_some_iff.mp e
      rw [e, hq]
      dsimp only
      rcases sl_lt (L := L) (k := i) (k' := k) (by omega) h with z | ⟨z1, z2⟩
      · rw [decide_eq_true (sg_lt2.mpr z)]
        rfl
      · rw [z1]
        simp [z2]
    have g2 : ((SL L).drop k).countP q = 0 := by
      rw [List.countP_eq_zero]
      intro p hp
      obtain ⟨i, hi, rfl⟩ := List.getElem_of_mem hp
      rw [List.length_drop] at hi
      have e := (sl_get (L := L) (k := k + i) (by omega)).1
      rw [List.getElem_drop]
      obtain ⟨g, e⟩ := List.getElem?_eq_some_iff.mp e
      rw [e, hq]
      dsimp only
      by_cases hi0 : i = 0
      · subst hi0
        have : ¬ [FL L k] < [FL L k] := fun z => Nat.lt_irrefl _ (sg_lt2.mp z)
        simp [this]
      · rcases sl_lt (L := L) (k := k) (k' := k + i) (by omega) (by omega) with z | ⟨z1, z2⟩
        · have z3 : ¬ [FL L (k + i)] < [FL L k] := fun y => by have := sg_lt2.mp y; omega
          have z4 : ¬ FL L (k + i) = FL L k := by omega
          simp [z3, z4]
        · have z3 : ¬ [FL L (k + i)] < [FL L k] := fun y => by have := sg_lt2.mp y; omega
          have z4 : ¬ piL L (k + i) < piL L k := by omega
          simp [z3, z4]
    rw [g1, g2, List.length_take]
    omega
  have e2 : (SL L).countP q = (enT L).countP q := (List.mergeSort_perm _ _).countP_eq q
  have e3 : (enT L).countP q = (List.range L.length).countP (fun i => decide (L.getD i 0 < FL L k)) + (List.range L.length).countP (fun i => decide (L.getD i 0 = FL L k) && decide (i < piL L k)) := by
    rw [← countP_or]
    · unfold enT
      rw [List.countP_map, hq]
      refine List.countP_congr fun i _ => ?_
      have : ([L.getD i 0] < [FL L k]) ↔ L.getD i 0 < FL L k := sg_lt2
      rw [List.getD_eq_getElem?_getD] at this
      simp [this]
    · rintro i _ ⟨z1, z2⟩
      simp only [Bool.and_eq_true, decide_eq_true_eq] at z1 z2
      omega
  have e4 : (List.range L.length).countP (fun i => decide (L.getD i 0 < FL L k)) = (L.filter fun c => decide (c < FL L k)).length := by
    rw [← List.countP_eq_length_filter]
    generalize FL L k = c
    conv => rhs; rw [← map_getD L]
    rw [List.countP_map]
    rfl
  have e5 : (List.range L.length).countP (fun i => decide (L.getD i 0 = FL L k) && decide (i < piL L k)) = (L.take (piL L k)).count (FL L k) := by
    have er : List.range L.length = List.range (piL L k) ++ (List.range (L.length - piL L k)).map (piL L k + ·) := by
      rw [← List.range_add, Nat.add_sub_cancel' (Nat.le_of_lt hr)]
    rw [er, List.countP_append]
    have g2 : ((List.range (L.length - piL L k)).map (piL L k + ·)).countP (fun i => decide (L.getD i 0 = FL L k) && decide (i < piL L k)) = 0 := by
      rw [List.countP_eq_zero]
      intro i hi
      obtain ⟨j, _, rfl⟩ := List.mem_map.mp hi
      simp
    rw [g2, Nat.add_zero, ← map_getD_take L (Nat.le_of_lt hr), List.count_eq_countP, List.countP_map]
    refine List.countP_congr fun i hi => ?_
    have := List.mem_range.mp hi
    simp [this]
  unfold thL
  show (L.filter fun c => decide (c < FL L k)).length + (L.take (piL L k)).count (FL L k) = k
  rw [← e4, ← e5, ← e3, ← e2, e1]
end PyD.S

end

namespace PyD.S
open PySem PySem.Spec L2
end PyD.S

namespace PyD.S
open PySem PySem.Spec L2
end PyD.S

section
set_option maxHeartbeats 2000000
namespace PyD.S
open PySem PySem.Spec L2
local macro_rules | `(tactic| walk_at "ev") => `(tactic| walk_at "k33569854")
local macro_rules | `(tactic| walk_at "evi") => `(tactic| walk_at "k2b729343")
local macro_rules | `(tactic| walk_at "eva") => `(tactic| walk_at "ka2c0ebbf")
local macro_rules | `(tactic| walk_at "sd") => `(tactic| repeat (refine And.intro (by first | omega | assumption | exact rfl) ?_))
local macro_rules | `(tactic| walk_at "sc") => `(tactic| first | assumption | omega | exact rfl | exact mulOk_r (by omega) (by omega) | exact mulOk_l (by omega) (by omega) | exact log_ok (by omega) (by omega) | (simp only [List.length_append, List.length_cons, List.length_nil, List.length_take, List.length_drop, List.length_map, List.length_replicate, upL_len]; omega) | (refine And.intro ?_ ?_ <;> walk_at "sc") | decide)
set_option hygiene false in
local macro_rules | `(tactic| walk_at "lm") => `(tactic| first
  | ((with_reducible refine take_ok ?_ ?_ ?_ fun p r hp hr0 hr1 => ?_); (focus assumption); (focus omega); (focus omega))
  | ((with_reducible refine pick_ok ?_ ?_ ?_ fun p r hp hr0 hr1 => ?_); (focus assumption); (focus omega); (focus omega))
  | ((with_reducible refine pick2_ok ?_ ?_ ?_ fun p r hp hr0 hr1 => ?_); (focus assumption); (focus omega); (focus omega))
  | ((with_reducible refine letter_ok ?_ ?_ ?_ fun p c hp hc => ?_); (focus assumption); (focus omega); (focus omega))
  | ((with_reducible refine signs_ok ?_ ?_ ?_ ?_ ?_ fun p l hp hl hc => ?_); (focus assumption); (focus omega); (focus omega); (focus omega); (focus omega))
  | ((with_reducible refine text_ok ?_ ?_ ?_ fun p l hp hl hc => ?_); (focus assumption); (focus omega); (focus omega))
  | ((with_reducible refine rtext_ok ?_ ?_ ?_ fun p l hp hl hc => ?_); (focus assumption); (focus omega); (focus omega))
  | ((with_reducible refine rtext2_ok ?_ ?_ ?_ fun p l hp hl hc => ?_); (focus assumption); (focus omega); (focus omega))
  | (with_reducible refine whole_ok ?_))
local macro_rules | `(tactic| walk_at "ok") => `(tactic| first | assumption | exact okT_nil | exact Lts.ok (by assumption) | decide)
local macro_rules | `(tactic| walk_at "g0") => `(tactic| first
  | ((with_reducible refine And.intro ?_ ?_); (focus walk_at "sc"))
  | walk_at "lm"
  | ((with_reducible refine okL_eqtx ?_ ?_ ?_); (focus walk_at "ok"); (focus walk_at "ok"))
  | ((with_reducible refine bj_t ?_ ?_); (focus (first | with_reducible rfl | omega)))
  | ((with_reducible refine bj_f ?_ ?_); (focus omega)))
local macro_rules | `(tactic| walk_at "g1") => `(tactic| first
  | walk_at "ev"
  | walk_at "g0")
local macro_rules | `(tactic| walk_at "g2") => `(tactic| first
  | walk_at "evi"
  | walk_at "g0")
local macro_rules | `(tactic| walk_at "go") => `(tactic| repeat walk_at "g1")
local macro_rules | `(tactic| walk_at "goi") => `(tactic| repeat walk_at "g2")
local macro_rules | `(tactic| walk_at "goa") => `(tactic| repeat first | walk_at "eva" | walk_at "g0")
end PyD.S

end

namespace PyD.S
open PySem PySem.Spec L2
end PyD.S

namespace PyD.S
open PySem PySem.Spec L2
end PyD.S

namespace PyD.S
open PySem PySem.Spec L2
end PyD.S

namespace PyD.S
open PySem PySem.Spec L2
end PyD.S

section
set_option maxHeartbeats 4000000
namespace PyD.S
open PySem PySem.Spec L2 PyD.S
local macro_rules | `(tactic| walk_at "ev") => `(tactic| walk_at "k33569854")
local macro_rules | `(tactic| walk_at "evi") => `(tactic| walk_at "k2b729343")
local macro_rules | `(tactic| walk_at "eva") => `(tactic| walk_at "ka2c0ebbf")
local macro_rules | `(tactic| walk_at "sd") => `(tactic| repeat (refine And.intro (by first | omega | assumption | exact rfl) ?_))
local macro_rules | `(tactic| walk_at "sc") => `(tactic| first | assumption | omega | exact rfl | exact mulOk_r (by omega) (by omega) | exact mulOk_l (by omega) (by omega) | exact log_ok (by omega) (by omega) | (simp only [List.length_append, List.length_cons, List.length_nil, List.length_take, List.length_drop, List.length_map, List.length_replicate, upL_len]; omega) | (refine And.intro ?_ ?_ <;> walk_at "sc") | decide)
set_option hygiene false in
local macro_rules | `(tactic| walk_at "lm") => `(tactic| first
  | ((with_reducible refine take_ok ?_ ?_ ?_ fun p r hp hr0 hr1 => ?_); (focus assumption); (focus omega); (focus omega))
  | ((with_reducible refine pick_ok ?_ ?_ ?_ fun p r hp hr0 hr1 => ?_); (focus assumption); (focus omega); (focus omega))
  | ((with_reducible refine pick2_ok ?_ ?_ ?_ fun p r hp hr0 hr1 => ?_); (focus assumption); (focus omega); (focus omega))
  | ((with_reducible refine letter_ok ?_ ?_ ?_ fun p c hp hc => ?_); (focus assumption); (focus omega); (focus omega))
  | ((with_reducible refine signs_ok ?_ ?_ ?_ ?_ ?_ fun p l hp hl hc => ?_); (focus assumption); (focus omega); (focus omega); (focus omega); (focus omega))
  | ((with_reducible refine text_ok ?_ ?_ ?_ fun p l hp hl hc => ?_); (focus assumption); (focus omega); (focus omega))
  | ((with_reducible refine rtext_ok ?_ ?_ ?_ fun p l hp hl hc => ?_); (focus assumption); (focus omega); (focus omega))
  | ((with_reducible refine rtext2_ok ?_ ?_ ?_ fun p l hp hl hc => ?_); (focus assumption); (focus omega); (focus omega))
  | (with_reducible refine whole_ok ?_))
local macro_rules | `(tactic| walk_at "ok") => `(tactic| first | assumption | exact okT_nil | exact Lts.ok (by assumption) | decide)
local macro_rules | `(tactic| walk_at "g0") => `(tactic| first
  | ((with_reducible refine And.intro ?_ ?_); (focus walk_at "sc"))
  | walk_at "lm"
  | ((with_reducible refine okL_eqtx ?_ ?_ ?_); (focus walk_at "ok"); (focus walk_at "ok"))
  | ((with_reducible refine bj_t ?_ ?_); (focus (first | with_reducible rfl | omega)))
  | ((with_reducible refine bj_f ?_ ?_); (focus omega)))
local macro_rules | `(tactic| walk_at "g1") => `(tactic| first
  | walk_at "ev"
  | walk_at "g0")
local macro_rules | `(tactic| walk_at "g2") => `(tactic| first
  | walk_at "evi"
  | walk_at "g0")
local macro_rules | `(tactic| walk_at "go") => `(tactic| repeat walk_at "g1")
local macro_rules | `(tactic| walk_at "goi") => `(tactic| repeat walk_at "g2")
local macro_rules | `(tactic| walk_at "goa") => `(tactic| repeat first | walk_at "eva" | walk_at "g0")
end PyD.S

end

section
set_option maxHeartbeats 4000000
namespace PyD.S
open PySem PySem.Spec L2 PyD.S PyProof.Rows
theorem sortN_rising {ks : List Nat} (h : ks.Nodup) : (ks.mergeSort leN).Pairwise (· < ·) := by
  have h1 : (ks.mergeSort leN).Pairwise fun a b => leN a b = true := List.pairwise_mergeSort (fun a b c x y => by
    unfold leN at *
    have := of_decide_eq_true x
    have := of_decide_eq_true y
    exact decide_eq_true (by omega)) (fun a b => by
    unfold leN
    rw [Bool.or_eq_true, decide_eq_true_iff, decide_eq_true_iff]
    omega) _
  have h2 : (ks.mergeSort leN).Nodup := ((List.mergeSort_perm ks leN).nodup_iff).mpr h
  refine (h1.and h2).imp fun {a b} ⟨x, y⟩ => ?_
  have := of_decide_eq_true x
  have : a ≠ b := y
  omega
end PyD.S

end

section
set_option maxHeartbeats 2000000
namespace PyD.S
open PySem PySem.Spec L2 PyD.S StrLaws Builtin.Str
def mAt (l x : List Nat) (hi i : Nat) : Bool := decide (i + x.length ≤ hi) && decide ((l.take (i + x.length)).drop i = x)
def fstAt (l x : List Nat) (lo hi : Nat) : Option Nat := (List.range' lo (hi + 1 - lo)).find? (mAt l x hi)
theorem subAt_tx (l x : List Nat) (i : Nat) : subAt (tx l) (tx x) i = decide ((l.take (i + x.length)).drop i = x) := by
  unfold subAt
  rw [tx_len]
  show ((l.toArray.extract i (i + x.length)) == x.toArray) = _
  rw [List.extract_toArray]
  by_cases h : (l.take (i + x.length)).drop i = x
  · have e : (l.extract i (i + x.length)) = x := by
      rw [List.extract_eq_take_drop, ← List.drop_take]
      exact h
    rw [e]
    simp [h]
  · have e : ¬ (l.extract i (i + x.length)) = x := fun z => h (by
      rw [List.extract_eq_take_drop, ← List.drop_take] at z
      exact z)
    simp [h, e]
    intro z
    refine h ?_
    rw [List.drop_take, show i + x.length - i = x.length by omega]
    exact z
theorem occ_full (s sub : Str) (hi : Nat) : ∀ (l : List Nat) (st : Array Nat × Nat), ¬ st.fst.size < 1 → (forIn l st (occBody s sub hi 1)).run.fst = st.fst
  | [], st, _ => by simp
  | a :: l, st, h => by
    rw [List.forIn_cons]
    unfold occBody
    rw [if_neg (fun z => h z.1.1.1)]
    exact occ_full s sub hi l _ h
theorem occ_one (l x : List Nat) (hi : Nat) : ∀ (r : List Nat) (free : Nat), (∀ i ∈ r, free ≤ i) →
    (forIn r ((#[] : Array Nat), free) (occBody (tx l) (tx x) hi 1)).run.fst.toList = (r.find? (mAt l x hi)).toList
  | [], free, _ => by simp
  | a :: r, free, hf => by
    rw [List.forIn_cons, List.find?_cons]
    have ha : free ≤ a := hf a (List.mem_cons_self ..)
    cases hm : mAt l x hi a with
    | true =>
      unfold mAt at hm
      rw [Bool.and_eq_true, decide_eq_true_iff] at hm
      have c : (((#[] : Array Nat), free).fst.size < 1 ∧ ((#[] : Array Nat), free).snd ≤ a) ∧ a + (tx x).length ≤ hi := ⟨⟨by simp, ha⟩, by rw [tx_len]; exact hm.1⟩
      have e : occBody (tx l) (tx x) hi 1 a ((#[] : Array Nat), free) = pure (ForInStep.yield ((#[] : Array Nat).push a, a + (tx x).length)) := by
        unfold occBody
        rw [if_pos ⟨c, by rw [subAt_tx]; exact hm.2⟩]
      rw [e]
      show (forIn r ((#[] : Array Nat).push a, a + (tx x).length) (occBody (tx l) (tx x) hi 1)).run.fst.toList = _
      rw [occ_full _ _ _ _ _ (by simp)]
      simp
    | false =>
      have e : occBody (tx l) (tx x) hi 1 a ((#[] : Array Nat), free) = pure (ForInStep.yield ((#[] : Array Nat), free)) := by
        unfold occBody
        rw [if_neg]
        intro z
        rw [subAt_tx] at z
        unfold mAt at hm
        have z1 : a + x.length ≤ hi := by have := z.1.2; rw [tx_len] at this; exact this
        rw [z.2, decide_eq_true z1] at hm
        cases hm
      rw [e]
      exact occ_one l x hi r free fun i hi' => hf i (List.mem_cons_of_mem _ hi')
theorem occ_fst (l x : List Nat) (lo hi : Nat) : occurrences (tx l) (tx x) lo hi 1 = (fstAt l x lo hi).toList := by
  rw [occ_eq]
  exact occ_one l x hi _ lo fun i h => by
    have := List.mem_range'.mp h
    omega
theorem fstAt_some {l x : List Nat} {lo hi i : Nat} (h : fstAt l x lo hi = some i) : lo ≤ i ∧ i + x.length ≤ hi ∧ mAt l x hi i = true ∧ ∀ j, lo ≤ j → j < i → mAt l x hi j = false := by
  unfold fstAt at h
  rw [List.find?_eq_some_iff_append] at h
  obtain ⟨hm, as, bs, e, hf⟩ := h
  have hi' : i ∈ List.range' lo (hi + 1 - lo) := by rw [e]; simp
  have h1 := List.mem_range'_1.mp hi'
  have h2 := hm
  unfold mAt at h2
  rw [Bool.and_eq_true, decide_eq_true_iff] at h2
  refine ⟨h1.1, h2.1, hm, fun j h3 h4 => ?_⟩
  have hj : j ∈ List.range' lo (hi + 1 - lo) := List.mem_range'_1.mpr ⟨h3, by omega⟩
  rw [e] at hj
  rcases List.mem_append.mp hj with z | z
  · simpa using hf j z
  · have pw : (List.range' lo (hi + 1 - lo)).Pairwise (· < ·) := List.pairwise_lt_range'
    rw [e] at pw
    have := (List.pairwise_append.mp pw).2.1
    rcases List.mem_cons.mp z with rfl | z
    · omega
    · have := List.rel_of_pairwise_cons this z
      omega
theorem fstAt_none {l x : List Nat} {lo hi : Nat} (h : fstAt l x lo hi = none) (j : Nat) (hj : lo ≤ j) : mAt l x hi j = false := by
  by_cases h1 : j ≤ hi
  · unfold fstAt at h
    rw [List.find?_eq_none] at h
    have := h j (List.mem_range'_1.mpr ⟨hj, by omega⟩)
    simpa using this
  · unfold mAt
    rw [decide_eq_false (by omega)]
    rfl
theorem inS_tx {l x : List Nat} : inS (tx x) (tx l) = (fstAt l x 0 l.length).isSome := by
  unfold inS
  rw [tx_len, occ_fst]
  cases fstAt l x 0 l.length <;> rfl
theorem in_tx {l x : List Nat} {n : Bool} : inUD n [.str (tx x), .str (tx l)] = some (false, .bl ((fstAt l x 0 l.length).isSome != n)) := by
  show some (false, D.bl (inS (tx x) (tx l) != n)) = _
  rw [inS_tx]
end PyD.S

end

section
set_option maxHeartbeats 2000000
namespace PyD.S
open PySem PySem.Spec L2 PyD.S
def Pq : Nat → D → Prop
  | 0, _ => False
  | _ + 1, .non => True
  | _ + 1, .int _ => True
  | _ + 1, .str s => ∃ l, s = tx l ∧ okT l
  | n + 1, .lst ds => ∀ x ∈ ds, Pq n x
  | n + 1, .tup ds => ∀ x ∈ ds, Pq n x
  | _ + 1, _ => False
theorem toPyL_all : ∀ {ds : List D}, (∀ x ∈ ds, ∃ p, toPy x = some p) → ∃ ps, toPyL ds = some ps
  | [], _ => ⟨[], rfl⟩
  | d :: ds, h => by
    obtain ⟨p, hp⟩ := h d (by simp)
    obtain ⟨ps, hps⟩ := toPyL_all (ds := ds) fun x hx => h x (by simp [hx])
    exact ⟨p :: ps, by rw [toPyL, hp, hps]⟩
theorem toPyL_mem : ∀ {ds : List D} {ps : List PyData}, toPyL ds = some ps → ∀ p ∈ ps, ∃ x ∈ ds, toPy x = some p
  | [], ps, h, p, hp => by cases h; cases hp
  | d :: ds, ps, h, p, hp => by
    rw [toPyL] at h
    cases e1 : toPy d with
    | none => rw [e1] at h; cases h
    | some q =>
      rw [e1] at h
      cases e2 : toPyL ds with
      | none => rw [e2] at h; cases h
      | some qs =>
        rw [e2] at h
        cases h
        rcases List.mem_cons.mp hp with rfl | hp
        · exact ⟨d, by simp, e1⟩
        · obtain ⟨x, hx, e⟩ := toPyL_mem e2 p hp
          exact ⟨x, by simp [hx], e⟩
theorem canAll : ∀ {ps : List PyData}, (∀ p ∈ ps, PyData.canLay0 p = true) → PyData.canLayAll0 ps = true
  | [], _ => rfl
  | p :: ps, h => by
    rw [PyData.canLayAll0, h p (by simp), canAll fun x hx => h x (by simp [hx])]
    rfl
theorem depAll {n : Nat} : ∀ {ps : List PyData}, (∀ p ∈ ps, PyData.depth p ≤ n) → PyData.depthAll ps ≤ n
  | [], _ => by simp [PyData.depthAll]
  | p :: ps, h => by
    have h1 := h p (by simp)
    have h2 := depAll (n := n) (ps := ps) fun x hx => h x (by simp [hx])
    rw [PyData.depthAll]
    omega
theorem Pq.py : ∀ {n : Nat} {d : D}, Pq n d → ∃ p, toPy d = some p ∧ PyData.canLay0 p = true ∧ p.depth ≤ n
  | 0, _, h => h.elim
  | n + 1, .non, _ => ⟨.none, rfl, rfl, by simp [PyData.depth]⟩
  | n + 1, .int i, _ => ⟨.int i, rfl, rfl, by simp [PyData.depth]⟩
  | n + 1, .bl i, h => h.elim
  | n + 1, .dic i, h => h.elim
  | n + 1, .obj _ _, h => h.elim
  | n + 1, .scr i, h => h.elim
  | n + 1, .exn _ _, h => h.elim
  | n + 1, .ow _, h => h.elim
  | n + 1, .str s, ⟨l, e, h⟩ => ⟨.str s, rfl, by rw [PyData.canLay0, e]; exact strOk_tx.mpr h, by simp [PyData.depth]⟩
  | n + 1, .lst ds, h => by
    obtain ⟨ps, hps⟩ := toPyL_all (ds := ds) fun x hx => by
      obtain ⟨p, hp, _⟩ := Pq.py (h x hx)
      exact ⟨p, hp⟩
    have hall : ∀ p ∈ ps, PyData.canLay0 p = true ∧ p.depth ≤ n := fun p hp => by
      obtain ⟨x, hx, e⟩ := toPyL_mem hps p hp
      obtain ⟨q, hq, h1, h2⟩ := Pq.py (h x hx)
      rw [e] at hq
      cases hq
      exact ⟨h1, h2⟩
    refine ⟨.list ps, by rw [toPy, hps]; rfl, by rw [PyData.canLay0]; exact canAll fun p hp => (hall p hp).1, ?_⟩
    rw [PyData.depth]
    have := depAll fun p hp => (hall p hp).2
    omega
  | n + 1, .tup ds, h => by
    obtain ⟨ps, hps⟩ := toPyL_all (ds := ds) fun x hx => by
      obtain ⟨p, hp, _⟩ := Pq.py (h x hx)
      exact ⟨p, hp⟩
    have hall : ∀ p ∈ ps, PyData.canLay0 p = true ∧ p.depth ≤ n := fun p hp => by
      obtain ⟨x, hx, e⟩ := toPyL_mem hps p hp
      obtain ⟨q, hq, h1, h2⟩ := Pq.py (h x hx)
      rw [e] at hq
      cases hq
      exact ⟨h1, h2⟩
    refine ⟨.tuple ps, by rw [toPy, hps]; rfl, by rw [PyData.canLay0]; exact canAll fun p hp => (hall p hp).1, ?_⟩
    rw [PyData.depth]
    have := depAll fun p hp => (hall p hp).2
    omega
theorem eqvAll_iff {n : Nat} (ih : ∀ (d e : D) (p q : PyData), Pq n d → Pq n e → toPy d = some p → toPy e = some q → (PyData.eqv p q = true ↔ d = e)) : ∀ {ds es : List D} {ps qs : List PyData}, (∀ x ∈ ds, Pq n x) → (∀ x ∈ es, Pq n x) → toPyL ds = some ps → toPyL es = some qs →
    (PyData.eqvAll ps qs = true ↔ ds = es)
  | [], [], ps, qs, _, _, h1, h2 => by cases h1; cases h2; simp [PyData.eqvAll]
  | [], e :: es, ps, qs, _, k, h1, h2 => by
    cases h1
    obtain ⟨q, hq, _⟩ := Pq.py (k e (by simp))
    obtain ⟨qs', hqs⟩ := toPyL_all (ds := es) fun x hx => by
      obtain ⟨p, hp, _⟩ := Pq.py (k x (by simp [hx]))
      exact ⟨p, hp⟩
    rw [toPyL, hq, hqs] at h2
    cases h2
    simp [PyData.eqvAll]
  | d :: ds, [], ps, qs, k, _, h1, h2 => by
    cases h2
    obtain ⟨q, hq, _⟩ := Pq.py (k d (by simp))
    obtain ⟨qs', hqs⟩ := toPyL_all (ds := ds) fun x hx => by
      obtain ⟨p, hp, _⟩ := Pq.py (k x (by simp [hx]))
      exact ⟨p, hp⟩
    rw [toPyL, hq, hqs] at h1
    cases h1
    simp [PyData.eqvAll]
  | d :: ds, e :: es, ps, qs, k1, k2, h1, h2 => by
    obtain ⟨p, hp, _⟩ := Pq.py (k1 d (by simp))
    obtain ⟨ps', hps⟩ := toPyL_all (ds := ds) fun x hx => by
      obtain ⟨p, hp, _⟩ := Pq.py (k1 x (by simp [hx]))
      exact ⟨p, hp⟩
    obtain ⟨q, hq, _⟩ := Pq.py (k2 e (by simp))
    obtain ⟨qs', hqs⟩ := toPyL_all (ds := es) fun x hx => by
      obtain ⟨p, hp, _⟩ := Pq.py (k2 x (by simp [hx]))
      exact ⟨p, hp⟩
    rw [toPyL, hp, hps] at h1
    rw [toPyL, hq, hqs] at h2
    cases h1
    cases h2
    rw [PyData.eqvAll, Bool.and_eq_true, ih d e p q (k1 d (by simp)) (k2 e (by simp)) hp hq, eqvAll_iff ih (fun x hx => k1 x (by simp [hx])) (fun x hx => k2 x (by simp [hx])) hps hqs]
    simp
theorem eqv_iff : ∀ (n : Nat) (d e : D) (p q : PyData), Pq n d → Pq n e → toPy d = some p → toPy e = some q → (PyData.eqv p q = true ↔ d = e)
  | 0, _, _, _, _, h, _, _, _ => h.elim
  | n + 1, d, e, p, q, h1, h2, e1, e2 => by
    cases d with
    | bl _ => exact h1.elim
    | dic _ => exact h1.elim
    | obj _ _ => exact h1.elim
    | scr _ => exact h1.elim
    | exn _ _ => exact h1.elim
    | ow _ => exact h1.elim
    | non =>
      cases e1
      cases e with
      | bl _ => exact h2.elim
      | dic _ => exact h2.elim
      | obj _ _ => exact h2.elim
      | scr _ => exact h2.elim
      | exn _ _ => exact h2.elim
      | ow _ => exact h2.elim
      | non => cases e2; simp [PyData.eqv]
      | int _ => cases e2; simp [PyData.eqv]
      | str _ => cases e2; simp [PyData.eqv]
      | lst _ => rw [toPy] at e2; obtain ⟨qs, hq, rfl⟩ := Option.map_eq_some_iff.mp e2; simp [PyData.eqv]
      | tup _ => rw [toPy] at e2; obtain ⟨qs, hq, rfl⟩ := Option.map_eq_some_iff.mp e2; simp [PyData.eqv]
    | int i =>
      cases e1
      cases e with
      | bl _ => exact h2.elim
      | dic _ => exact h2.elim
      | obj _ _ => exact h2.elim
      | scr _ => exact h2.elim
      | exn _ _ => exact h2.elim
      | ow _ => exact h2.elim
      | non => cases e2; simp [PyData.eqv]
      | int _ => cases e2; simp [PyData.eqv]
      | str _ => cases e2; simp [PyData.eqv]
      | lst _ => rw [toPy] at e2; obtain ⟨qs, hq, rfl⟩ := Option.map_eq_some_iff.mp e2; simp [PyData.eqv]
      | tup _ => rw [toPy] at e2; obtain ⟨qs, hq, rfl⟩ := Option.map_eq_some_iff.mp e2; simp [PyData.eqv]
    | str s =>
      cases e1
      cases e with
      | bl _ => exact h2.elim
      | dic _ => exact h2.elim
      | obj _ _ => exact h2.elim
      | scr _ => exact h2.elim
      | exn _ _ => exact h2.elim
      | ow _ => exact h2.elim
      | non => cases e2; simp [PyData.eqv]
      | int _ => cases e2; simp [PyData.eqv]
      | str _ => cases e2; simp [PyData.eqv]
      | lst _ => rw [toPy] at e2; obtain ⟨qs, hq, rfl⟩ := Option.map_eq_some_iff.mp e2; simp [PyData.eqv]
      | tup _ => rw [toPy] at e2; obtain ⟨qs, hq, rfl⟩ := Option.map_eq_some_iff.mp e2; simp [PyData.eqv]
    | lst ds =>
      rw [toPy] at e1
      obtain ⟨ps, hp, rfl⟩ := Option.map_eq_some_iff.mp e1
      cases e with
      | bl _ => exact h2.elim
      | dic _ => exact h2.elim
      | obj _ _ => exact h2.elim
      | scr _ => exact h2.elim
      | exn _ _ => exact h2.elim
      | ow _ => exact h2.elim
      | non => cases e2; simp [PyData.eqv]
      | int _ => cases e2; simp [PyData.eqv]
      | str _ => cases e2; simp [PyData.eqv]
      | lst es =>
        rw [toPy] at e2
        obtain ⟨qs, hq, rfl⟩ := Option.map_eq_some_iff.mp e2
        rw [PyData.eqv, eqvAll_iff (eqv_iff n) h1 h2 hp hq]
        simp
      | tup _ => rw [toPy] at e2; obtain ⟨qs, hq, rfl⟩ := Option.map_eq_some_iff.mp e2; simp [PyData.eqv]
    | tup ds =>
      rw [toPy] at e1
      obtain ⟨ps, hp, rfl⟩ := Option.map_eq_some_iff.mp e1
      cases e with
      | bl _ => exact h2.elim
      | dic _ => exact h2.elim
      | obj _ _ => exact h2.elim
      | scr _ => exact h2.elim
      | exn _ _ => exact h2.elim
      | ow _ => exact h2.elim
      | non => cases e2; simp [PyData.eqv]
      | int _ => cases e2; simp [PyData.eqv]
      | str _ => cases e2; simp [PyData.eqv]
      | tup es =>
        rw [toPy] at e2
        obtain ⟨qs, hq, rfl⟩ := Option.map_eq_some_iff.mp e2
        rw [PyData.eqv, eqvAll_iff (eqv_iff n) h1 h2 hp hq]
        simp
      | lst _ => rw [toPy] at e2; obtain ⟨qs, hq, rfl⟩ := Option.map_eq_some_iff.mp e2; simp [PyData.eqv]
theorem okL_eqp {d e : D} {k : Bool → Prop} (h : Pq 20 d) (h' : Pq 20 e) (hk : ∀ b : Bool, (b = true ↔ d = e) → k b) : okL (eqD d e) k := by
  obtain ⟨p, hp, c1, d1⟩ := h.py
  obtain ⟨q, hq, c2, d2⟩ := h'.py
  have s1 : SeqAt.shaped p = true := by unfold SeqAt.shaped; rw [c1, decide_eq_true (by omega)]; rfl
  have s2 : SeqAt.shaped q = true := by unfold SeqAt.shaped; rw [c2, decide_eq_true (by omega)]; rfl
  have e : eqD d e = some (PyData.eqv p q) := by simp only [eqD, hp, hq, s1, s2, and_self, if_true]
  rw [e]
  exact hk _ (eqv_iff 20 d _ p q h h' hp hq)
open Classical in
theorem okL_eqd {d e : D} {k : Bool → Prop} (h : Pq 20 d) (h' : Pq 20 e) (hk : k (decide (d = e))) : okL (eqD d e) k :=
  okL_eqp h h' fun b hb => by
    have : b = decide (d = e) := by
      rw [Bool.eq_iff_iff, decide_eq_true_iff]
      exact hb
    rw [this]
    exact hk
end PyD.S

end

section
set_option maxHeartbeats 4000000
namespace PyD.S
open PySem PySem.Spec L2 PyD.S
def Sp (ps : List Nat) (i : Nat) : Prop := ps.Pairwise (· < ·) ∧ (∀ p ∈ ps, p < i) ∧ ps.length ≤ i
def Pins (l : T) (ps : List Nat) : Prop := ps.Pairwise (· < ·) ∧ ∀ p ∈ ps, p < l.length
theorem rising_len : ∀ {ps : List Nat} {lo n : Nat}, ps.Pairwise (· < ·) → (∀ p ∈ ps, lo ≤ p ∧ p < n) → ps.length ≤ n - lo
  | [], _, _, _, _ => by simp
  | p :: ps, lo, n, h, hp => by
    obtain ⟨h1, h2⟩ := List.pairwise_cons.mp h
    have hp0 := hp p (by simp)
    have := rising_len (lo := p + 1) (n := n) h2 fun q hq => by
      have := h1 q hq
      have := hp q (by simp [hq])
      omega
    simp only [List.length_cons]
    omega
theorem Pins.len {l : T} {ps : List Nat} (h : Pins l ps) : ps.length ≤ l.length := by
  have := rising_len (lo := 0) (n := l.length) h.1 fun p hp => ⟨by omega, h.2 p hp⟩
  omega
end PyD.S

end

namespace PyD.S
open PySem PySem.Spec L2
end PyD.S

section
set_option maxHeartbeats 8000000
namespace PyD.S
open PySem PySem.Spec L2 PyD.S
local macro_rules | `(tactic| walk_at "ev") => `(tactic| walk_at "k33569854")
local macro_rules | `(tactic| walk_at "evi") => `(tactic| walk_at "k2b729343")
local macro_rules | `(tactic| walk_at "eva") => `(tactic| walk_at "ka2c0ebbf")
local macro_rules | `(tactic| walk_at "sd") => `(tactic| repeat (refine And.intro (by first | omega | assumption | exact rfl) ?_))
local macro_rules | `(tactic| walk_at "sc") => `(tactic| first | assumption | omega | exact rfl | exact mulOk_r (by omega) (by omega) | exact mulOk_l (by omega) (by omega) | exact log_ok (by omega) (by omega) | (simp only [List.length_append, List.length_cons, List.length_nil, List.length_take, List.length_drop, List.length_map, List.length_replicate, upL_len]; omega) | (refine And.intro ?_ ?_ <;> walk_at "sc") | decide)
set_option hygiene false in
local macro_rules | `(tactic| walk_at "lm") => `(tactic| first
  | ((with_reducible refine take_ok ?_ ?_ ?_ fun p r hp hr0 hr1 => ?_); (focus assumption); (focus omega); (focus omega))
  | ((with_reducible refine pick_ok ?_ ?_ ?_ fun p r hp hr0 hr1 => ?_); (focus assumption); (focus omega); (focus omega))
  | ((with_reducible refine pick2_ok ?_ ?_ ?_ fun p r hp hr0 hr1 => ?_); (focus assumption); (focus omega); (focus omega))
  | ((with_reducible refine letter_ok ?_ ?_ ?_ fun p c hp hc => ?_); (focus assumption); (focus omega); (focus omega))
  | ((with_reducible refine signs_ok ?_ ?_ ?_ ?_ ?_ fun p l hp hl hc => ?_); (focus assumption); (focus omega); (focus omega); (focus omega); (focus omega))
  | ((with_reducible refine text_ok ?_ ?_ ?_ fun p l hp hl hc => ?_); (focus assumption); (focus omega); (focus omega))
  | ((with_reducible refine rtext_ok ?_ ?_ ?_ fun p l hp hl hc => ?_); (focus assumption); (focus omega); (focus omega))
  | ((with_reducible refine rtext2_ok ?_ ?_ ?_ fun p l hp hl hc => ?_); (focus assumption); (focus omega); (focus omega))
  | (with_reducible refine whole_ok ?_))
local macro_rules | `(tactic| walk_at "ok") => `(tactic| first | assumption | exact okT_nil | exact Lts.ok (by assumption) | decide)
local macro_rules | `(tactic| walk_at "g0") => `(tactic| first
  | ((with_reducible refine And.intro ?_ ?_); (focus walk_at "sc"))
  | walk_at "lm"
  | ((with_reducible refine okL_eqtx ?_ ?_ ?_); (focus walk_at "ok"); (focus walk_at "ok"))
  | ((with_reducible refine bj_t ?_ ?_); (focus (first | with_reducible rfl | omega)))
  | ((with_reducible refine bj_f ?_ ?_); (focus omega)))
local macro_rules | `(tactic| walk_at "g1") => `(tactic| first
  | walk_at "ev"
  | walk_at "g0")
local macro_rules | `(tactic| walk_at "g2") => `(tactic| first
  | walk_at "evi"
  | walk_at "g0")
local macro_rules | `(tactic| walk_at "go") => `(tactic| repeat walk_at "g1")
local macro_rules | `(tactic| walk_at "goi") => `(tactic| repeat walk_at "g2")
local macro_rules | `(tactic| walk_at "goa") => `(tactic| repeat first | walk_at "eva" | walk_at "g0")
theorem nodup_lt {ks : List Nat} {n : Nat} (h : ks.Nodup) (h' : ∀ q ∈ ks, q < n) : ks.length ≤ n := by
  have := rising_len (lo := 0) (n := n) (sortN_rising h) fun q hq => ⟨Nat.zero_le _, h' q (List.mem_mergeSort.mp hq)⟩
  rw [List.length_mergeSort] at this
  omega
end PyD.S

end

section
set_option maxHeartbeats 4000000
namespace PyD.S
open PySem PySem.Spec L2 PyD.S
def lfL (L : T) : Nat → Nat
  | 0 => 0
  | j + 1 => thL L (lfL L j)
def prv (n i : Nat) : Nat := if i = 0 then n - 1 else i - 1
section
variable {L : T}
theorem pi_th {r : Nat} (h : r < L.length) : piL L (thL L r) = r := by
  obtain ⟨k, hk, rfl⟩ := pi_surj h
  rw [th_pi hk]
theorem th_lt {r : Nat} (h : r < L.length) : thL L r < L.length := by
  obtain ⟨k, hk, rfl⟩ := pi_surj h
  rw [th_pi hk]
  exact hk
theorem th_inj {r r' : Nat} (h : r < L.length) (h' : r' < L.length) (e : thL L r = thL L r') : r = r' := by
  rw [← pi_th h, e, pi_th h']
theorem lf_lt (h : 0 < L.length) : ∀ j, lfL L j < L.length
  | 0 => h
  | j + 1 => th_lt (lf_lt h j)
theorem lf_inj0 (h : 0 < L.length) : ∀ i j, lfL L i = lfL L (i + j) → lfL L j = 0
  | 0, j, e => by rw [Nat.zero_add] at e; exact e.symm
  | i + 1, j, e => by
    rw [show i + 1 + j = (i + j) + 1 by omega] at e
    exact lf_inj0 h i j (th_inj (lf_lt h i) (lf_lt h _) e)
variable (hO : ∀ j, 1 ≤ j → j < L.length → lfL L j ≠ 0)
include hO
theorem lf_inj (h : 0 < L.length) {i j : Nat} (hi : i < L.length) (hj : j < L.length) (e : lfL L i = lfL L j) : i = j := by
  by_cases z : i < j
  · have := lf_inj0 h i (j - i) (by rw [show i + (j - i) = j by omega]; exact e)
    exact absurd this (hO _ (by omega) (by omega))
  · by_cases z2 : j < i
    · have := lf_inj0 h j (i - j) (by rw [show j + (i - j) = i by omega]; exact e.symm)
      exact absurd this (hO _ (by omega) (by omega))
    · omega
theorem lf_surj (h : 0 < L.length) {k : Nat} (hk : k < L.length) : ∃ i, i < L.length ∧ lfL L i = k := by
  refine Classical.byContradiction fun z => ?_
  have hnd : (k :: (List.range L.length).map (lfL L)).Nodup := by
    rw [List.nodup_cons]
    refine ⟨fun m => ?_, ?_⟩
    · obtain ⟨i, hi, e⟩ := List.mem_map.mp m
      exact z ⟨i, List.mem_range.mp hi, e⟩
    · rw [List.Nodup, List.pairwise_map]
      refine List.Pairwise.imp_of_mem ?_ (List.nodup_range (n := L.length))
      intro a b ha hb hab e
      exact hab (lf_inj hO h (List.mem_range.mp ha) (List.mem_range.mp hb) e)
  have := nodup_lt (n := L.length) hnd fun q hq => by
    rcases List.mem_cons.mp hq with rfl | hq
    · exact hk
    · obtain ⟨i, _, rfl⟩ := List.mem_map.mp hq
      exact lf_lt h i
  rw [List.length_cons, List.length_map, List.length_range] at this
  omega
theorem lf_n (h : 0 < L.length) : lfL L L.length = 0 := by
  obtain ⟨i, hi, e⟩ := lf_surj hO h (lf_lt h L.length)
  have := lf_inj0 h i (L.length - i) (by rw [show i + (L.length - i) = L.length by omega]; exact e)
  by_cases z : i = 0
  · rw [z, Nat.sub_zero] at this
    exact this
  · exact absurd this (hO _ (by omega) (by omega))
theorem pi_lf (h : 0 < L.length) {i : Nat} (hi : i < L.length) : piL L (lfL L i) = lfL L (prv L.length i) := by
  unfold prv
  split
  · rename_i z
    rw [z]
    have e := lf_n hO h
    have e2 : lfL L L.length = thL L (lfL L (L.length - 1)) := by
      rw [show L.length = (L.length - 1) + 1 by omega]
      rfl
    rw [show lfL L 0 = 0 from rfl, ← e, e2, pi_th (lf_lt h _)]
  · rename_i z
    rw [show lfL L i = thL L (lfL L (i - 1)) by
      rw [show i = (i - 1) + 1 by omega]
      rfl, pi_th (lf_lt h _)]
end
def tL (L : T) : T := (List.range (L.length - 1)).map fun j => L.getD (lfL L (L.length - 2 - j)) 0
theorem tL_len (L : T) : (tL L).length = L.length - 1 := by simp [tL]
theorem one_at {L : T} {c r r' : Nat} (h1 : L.count c = 1) (hr : r < r') (hr' : r' < L.length) (e : L.getD r 0 = c) (e' : L.getD r' 0 = c) : False := by
  have g : ∀ i, i < L.length → L[i]? = some (L.getD i 0) := fun i hi => by
    rw [List.getD_eq_getElem?_getD, List.getElem?_eq_getElem hi]
    rfl
  have m1 : c ∈ L.take r' := by
    refine List.mem_of_getElem? (i := r) ?_
    rw [List.getElem?_take_of_lt hr, g r (by omega), e]
  have m2 : c ∈ L.drop r' := by
    refine List.mem_of_getElem? (i := 0) ?_
    rw [List.getElem?_drop, Nat.add_zero, g r' hr', e']
  have e3 := congrArg (List.count c) (List.take_append_drop r' L)
  rw [List.count_append] at e3
  have := List.count_pos_iff.mpr m1
  have := List.count_pos_iff.mpr m2
  omega
theorem f_zero {L : T} (h : 0 < L.length) (h46 : L.count 46 = 1) (hL : ∀ c ∈ L, 46 ≤ c) : FL L 0 = 46 := by
  have hm : 46 ∈ L := List.count_pos_iff.mp (by omega)
  obtain ⟨r, hr, e⟩ := List.getElem_of_mem hm
  obtain ⟨k, hk, e2⟩ := pi_surj hr
  have e3 : FL L k = 46 := by
    unfold FL
    rw [e2, List.getD_eq_getElem?_getD, List.getElem?_eq_getElem hr, e]
    rfl
  have h0 := (sl_get h).2
  have h2 : 46 ≤ FL L 0 := by
    unfold FL
    rw [List.getD_eq_getElem?_getD, List.getElem?_eq_getElem h0]
    exact hL _ (List.getElem_mem h0)
  by_cases z : k = 0
  · rw [z] at e3
    exact e3
  · rcases sl_lt (L := L) (k := 0) (k' := k) (by omega) hk with y | y <;> omega
end PyD.S

end

section
set_option maxHeartbeats 4000000
namespace PyD.S
open PySem PySem.Spec L2 PyD.S
section
variable {L : T} (h : 0 < L.length) (h46 : L.count 46 = 1) (hL : ∀ c ∈ L, 46 ≤ c) (hO : ∀ j, 1 ≤ j → j < L.length → lfL L j ≠ 0)
include h h46 hL hO
theorem wh_tL_len : (wh (tL L)).length = L.length := by
  rw [wh_len, tL_len]
  omega
theorem hd_w {i : Nat} (hi : i < L.length) : hdT (wh (tL L)) (L.length - 1 - i) = FL L (lfL L i) := by
  unfold hdT wh
  rw [List.getD_eq_getElem?_getD]
  by_cases z : i = 0
  · subst z
    rw [List.getElem?_append_right (by rw [tL_len]; omega), tL_len, Nat.sub_zero, Nat.sub_self]
    rw [show lfL L 0 = 0 from rfl, f_zero h h46 hL]
    rfl
  · rw [List.getElem?_append_left (by rw [tL_len]; omega)]
    unfold tL
    rw [List.getElem?_map, List.getElem?_range (by omega), Option.map_some, Option.getD_some]
    unfold FL
    rw [pi_lf hO h hi]
    unfold prv
    rw [if_neg z, show L.length - 2 - (L.length - 1 - i) = i - 1 by omega]
theorem no_46 : 46 ∉ tL L := fun hm => by
  obtain ⟨j, hj, e⟩ := List.mem_map.mp hm
  have hj := List.mem_range.mp hj
  have e0 := f_zero h h46 hL
  unfold FL at e0
  have hp := pi_lf hO h (i := 0) h
  rw [show lfL L 0 = 0 from rfl] at hp
  unfold prv at hp
  rw [if_pos rfl] at hp
  have h1 := lf_lt h (L.length - 2 - j)
  have h2 := lf_lt h (L.length - 1)
  rw [hp] at e0
  have hne : lfL L (L.length - 2 - j) ≠ lfL L (L.length - 1) := fun z => by
    have := lf_inj hO h (by omega) (by omega) z
    omega
  by_cases z : lfL L (L.length - 2 - j) < lfL L (L.length - 1)
  · exact one_at h46 z h2 e e0
  · exact one_at h46 (show lfL L (L.length - 1) < lfL L (L.length - 2 - j) by omega) h1 e0 e
theorem prv_lt {i : Nat} (hi : i < L.length) : prv L.length i < L.length := by
  unfold prv
  split <;> omega
theorem nx_pos {i : Nat} (hi : i < L.length) : nx L.length (L.length - 1 - i) = L.length - 1 - prv L.length i := by
  unfold nx prv
  by_cases z : i = 0
  · rw [if_pos z, if_pos (by omega)]
    omega
  · rw [if_neg z, if_neg (by omega)]
    omega
theorem rot_take {m i : Nat} (hi : i < L.length) (hm : m + 1 ≤ L.length) : (rot (wh (tL L)) (L.length - 1 - i)).take (m + 1) = FL L (lfL L i) :: (rot (wh (tL L)) (L.length - 1 - prv L.length i)).take m := by
  have hw := wh_tL_len h h46 hL hO
  have hp : L.length - 1 - i < (wh (tL L)).length := by omega
  have e2 := rot_nx hp
  rw [hw, nx_pos h h46 hL hO hi] at e2
  rw [rot_cons hp, List.take_succ_cons, hd_w h h46 hL hO hi, e2]
  congr 1
  refine (List.take_append_of_le_length ?_).symm
  rw [List.length_append, List.length_drop, List.length_take]
  omega
theorem rot_le : ∀ m, m ≤ L.length → ∀ i i', i < L.length → i' < L.length → lfL L i < lfL L i' → (rot (wh (tL L)) (L.length - 1 - i)).take m ≤ (rot (wh (tL L)) (L.length - 1 - i')).take m
  | 0, _, i, i', _, _, _ => by
    rw [List.take_zero, List.take_zero]
    exact List.le_refl _
  | m + 1, hm, i, i', hi, hi', hlt => by
    rw [rot_take h h46 hL hO hi hm, rot_take h h46 hL hO hi' hm]
    rcases sl_lt hlt (lf_lt h i') with z | ⟨z1, z2⟩
    · exact List.le_of_lt (List.cons_lt_cons_iff.mpr (.inl z))
    · rw [z1]
      rw [pi_lf hO h hi, pi_lf hO h hi'] at z2
      have ih := rot_le m (by omega) _ _ (prv_lt h h46 hL hO hi) (prv_lt h h46 hL hO hi') z2
      intro y
      rcases List.cons_lt_cons_iff.mp y with y | ⟨_, y⟩
      · exact Nat.lt_irrefl _ y
      · exact ih y
theorem turned_tL : turnedL (tL L) = L := by
  have hw := wh_tL_len h h46 hL hO
  have h46n := no_46 h h46 hL hO
  obtain ⟨ix, hix⟩ := Classical.axiomOfChoice (r := fun (k i : Nat) => k < L.length → i < L.length ∧ lfL L i = k) fun k => by
    by_cases hk : k < L.length
    · obtain ⟨i, hi, e⟩ := lf_surj hO h hk
      exact ⟨i, fun _ => ⟨hi, e⟩⟩
    · exact ⟨0, fun z => absurd z hk⟩
  have hrl : ∀ i, (rot (wh (tL L)) i).length = L.length := fun i => by rw [rot_len, hw]
  have hb : srt (wh (tL L)) = (List.range L.length).map fun k => (rot (wh (tL L)) (L.length - 1 - ix k), L.length - 1 - ix k) := by
    refine srt_uniq ?_ ?_
    · have e1 : ((List.range L.length).map fun k => (rot (wh (tL L)) (L.length - 1 - ix k), L.length - 1 - ix k)) = ((List.range L.length).map fun k => L.length - 1 - ix k).map fun i => (rot (wh (tL L)) i, i) := by
        rw [List.map_map]
        rfl
      rw [e1, hw]
      unfold prsR
      refine List.Perm.map _ ?_
      refine (List.perm_ext_iff_of_nodup List.nodup_range ?_).mpr fun q => ?_
      · rw [List.Nodup, List.pairwise_map]
        refine List.Pairwise.imp_of_mem ?_ (List.nodup_range (n := L.length))
        intro a b ha hb hab e
        have ha := hix a (List.mem_range.mp ha)
        have hb := hix b (List.mem_range.mp hb)
        have : ix a = ix b := by omega
        rw [this] at ha
        exact hab (ha.2.symm.trans hb.2)
      · rw [List.mem_range, List.mem_map]
        constructor
        · intro hq
          refine ⟨lfL L (L.length - 1 - q), List.mem_range.mpr (lf_lt h _), ?_⟩
          have := hix _ (lf_lt h (L.length - 1 - q))
          have := lf_inj hO h this.1 (show L.length - 1 - q < L.length by omega) this.2
          omega
        · rintro ⟨k, hk, rfl⟩
          omega
    · rw [List.pairwise_map]
      refine List.Pairwise.imp_of_mem ?_ (List.pairwise_lt_range (n := L.length))
      intro a b ha hb hab
      have ha := hix a (List.mem_range.mp ha)
      have hb := hix b (List.mem_range.mp hb)
      rw [leP_iff]
      left
      have hle := rot_le h h46 hL hO L.length (Nat.le_refl _) (ix a) (ix b) ha.1 hb.1 (by rw [ha.2, hb.2]; exact hab)
      rw [List.take_of_length_le (by rw [hrl]; exact Nat.le_refl _), List.take_of_length_le (by rw [hrl]; exact Nat.le_refl _)] at hle
      rcases List.le_iff_lt_or_eq.mp hle with z | z
      · exact z
      · have := rot_injB h46n (by rw [hw]; omega) (by rw [hw]; omega) z
        have : ix a = ix b := by omega
        rw [this, hb.2] at ha
        omega
  unfold turnedL
  rw [hb, List.map_map]
  conv => rhs; rw [← map_getD L]
  refine List.map_congr_left fun k hk => ?_
  have hk := List.mem_range.mp hk
  obtain ⟨h1, h2⟩ := hix k hk
  show lastOf (rot (wh (tL L)) (L.length - 1 - ix k)) = L.getD k 0
  obtain ⟨i2, g1, g2, g3⟩ : ∃ i2, i2 < L.length ∧ lfL L i2 = thL L k ∧ prv L.length i2 = ix k := by
    by_cases z : ix k + 1 = L.length
    · refine ⟨0, h, ?_, by unfold prv; rw [if_pos rfl]; omega⟩
      have e := lf_n hO h
      rw [← z] at e
      rw [← h2]
      exact e.symm
    · refine ⟨ix k + 1, by omega, ?_, by unfold prv; rw [if_neg (by omega)]; omega⟩
      show thL L (lfL L (ix k)) = thL L k
      rw [h2]
  rw [← g3, ← nx_pos h h46 hL hO g1]
  have := last_nx (w := wh (tL L)) (i := L.length - 1 - i2) (by rw [hw]; omega)
  rw [hw] at this
  rw [this, hd_w h h46 hL hO g1, g2]
  unfold FL
  rw [pi_th hk]
end
end PyD.S

end

section
set_option maxHeartbeats 4000000
namespace PyD.S
open PySem PySem.Spec L2 PyD.S
section
variable {l : T} (hc : ∀ c ∈ l, 46 < c)
include hc
theorem hc46 : 46 ∉ l := fun z => by have := hc _ z; omega
theorem t_len : (turnedL l).length = l.length + 1 := by rw [turned_lenB, wh_len]
theorem pi_row {i : Nat} (hi : i < l.length) : piL (turnedL l) (rwT l i) = rwT l (i + 1) := by
  have e := back_step (hc46 hc) hi
  unfold piL SL
  rw [List.getD_eq_getElem?_getD, e]
  rfl
theorem row_last : rwT l l.length = 0 := row_ofB (srt_first hc)
theorem lf_row : ∀ j, j ≤ l.length → lfL (turnedL l) j = rwT l (l.length - j)
  | 0, _ => by rw [Nat.sub_zero, row_last hc]; rfl
  | j + 1, hj => by
    have ih := lf_row j (by omega)
    show thL (turnedL l) (lfL (turnedL l) j) = _
    have e := pi_row hc (i := l.length - (j + 1)) (by omega)
    rw [show l.length - (j + 1) + 1 = l.length - j by omega] at e
    rw [ih, ← e]
    exact th_pi (by rw [t_len hc]; have := row_lt (l := l) (i := l.length - (j + 1)) (by rw [wh_len]; omega); rw [wh_len] at this; exact this)
theorem row_injT {i j : Nat} (hi : i ≤ l.length) (hj : j ≤ l.length) (e : rwT l i = rwT l j) : i = j := by
  have e1 := row_get (l := l) (i := i) (by rw [wh_len]; omega)
  have e2 := row_get (l := l) (i := j) (by rw [wh_len]; omega)
  rw [e, e2] at e1
  exact (Prod.mk.inj (Option.some.inj e1)).2.symm
theorem lf_ring : ∀ j, 1 ≤ j → j < (turnedL l).length → lfL (turnedL l) j ≠ 0 := fun j h1 h2 z => by
  rw [t_len hc] at h2
  rw [lf_row hc j (by omega), ← row_last hc] at z
  have := row_injT hc (by omega) (Nat.le_refl _) z
  omega
theorem tL_turned : tL (turnedL l) = l := by
  unfold tL
  rw [t_len hc, Nat.add_sub_cancel]
  conv => rhs; rw [← map_getD l]
  refine List.map_congr_left fun j hj => ?_
  have hj := List.mem_range.mp hj
  rw [lf_row hc _ (by omega), show l.length - (l.length + 1 - 2 - j) = j + 1 by omega]
  have e := turned_at (l := l) (i := j) (by rw [wh_len]; omega)
  rw [wh_len] at e
  unfold nx at e
  rw [if_neg (by omega)] at e
  rw [e]
  unfold hdT wh
  rw [List.getD_eq_getElem?_getD, List.getElem?_append_left hj, List.getD_eq_getElem?_getD]
end
def piI (L : T) : Nat → Nat
  | 0 => 0
  | j + 1 => piL L (piI L j)
def pT (L : T) : T := (List.range (L.length - 1)).map fun j => FL L (piI L (j + 1))
def Ring (L : T) : Prop := L.count 46 = 1 ∧ ∀ j, 1 ≤ j → j < L.length → lfL L j ≠ 0
theorem piI_ring {L : T} (h : 0 < L.length) (hO : ∀ j, 1 ≤ j → j < L.length → lfL L j ≠ 0) : ∀ j, j < L.length → piI L (j + 1) = lfL L (L.length - (j + 1))
  | 0, _ => by
    show piL L 0 = _
    have := pi_lf hO h (i := 0) h
    unfold prv at this
    rw [if_pos rfl] at this
    exact this
  | j + 1, hj => by
    have ih := piI_ring h hO j (by omega)
    show piL L (piI L (j + 1)) = _
    rw [ih, pi_lf hO h (by omega)]
    unfold prv
    rw [if_neg (by omega), Nat.sub_sub]
theorem pT_ring {L : T} (h : 0 < L.length) (hO : ∀ j, 1 ≤ j → j < L.length → lfL L j ≠ 0) : pT L = tL L := by
  unfold pT tL
  refine List.map_congr_left fun j hj => ?_
  have hj := List.mem_range.mp hj
  rw [piI_ring h hO j (by omega)]
  unfold FL
  rw [pi_lf hO h (by omega)]
  unfold prv
  rw [if_neg (by omega), show L.length - (j + 1) - 1 = L.length - 2 - j by omega]
theorem piI_lt {L : T} (h : 0 < L.length) : ∀ j, piI L j < L.length
  | 0 => h
  | j + 1 => (sl_get (piI_lt h j)).2
theorem fL_mem {L : T} {k : Nat} (h : k < L.length) : FL L k ∈ L := by
  have h0 := (sl_get h).2
  unfold FL
  rw [List.getD_eq_getElem?_getD, List.getElem?_eq_getElem h0]
  exact List.getElem_mem h0
theorem back_iff {L : T} (h : 0 < L.length) (h46 : L.count 46 = 1) (hL : ∀ c ∈ L, 46 ≤ c) : (46 ∉ pT L ∧ turnedL (pT L) = L) ↔ ∀ j, 1 ≤ j → j < L.length → lfL L j ≠ 0 := by
  constructor
  · rintro ⟨h1, h2⟩
    have hc : ∀ c ∈ pT L, 46 < c := fun c hm => by
      have : c ∈ L := by
        obtain ⟨j, _, rfl⟩ := List.mem_map.mp hm
        exact fL_mem (piI_lt h _)
      have := hL c this
      have : c ≠ 46 := fun z => h1 (z ▸ hm)
      omega
    have := lf_ring hc
    rw [h2] at this
    exact this
  · intro hO
    rw [pT_ring h hO]
    exact ⟨no_46 h h46 hL hO, turned_tL h h46 hL hO⟩
end PyD.S

end

section
set_option maxHeartbeats 2000000
namespace PyD.S
open PySem PySem.Spec L2 PyD.S
def spC (c : Nat) : T → List T
  | [] => [[]]
  | x :: r => if x = c then [] :: spC c r else match spC c r with
    | [] => [[x]]
    | p :: ps => (x :: p) :: ps
theorem spC_ne (c : Nat) : ∀ l : T, spC c l ≠ []
  | [] => by simp [spC]
  | x :: r => by
    unfold spC
    split
    · simp
    · split <;> simp
theorem spC_free (c : Nat) : ∀ l : T, ∀ p ∈ spC c l, c ∉ p
  | [], p, h => by
    rw [List.mem_singleton.mp h]
    simp
  | x :: r, p, h => by
    unfold spC at h
    have ih := spC_free c r
    split at h
    · rcases List.mem_cons.mp h with rfl | h
      · simp
      · exact ih p h
    · rename_i hx
      split at h
      · rw [List.mem_singleton.mp h]
        simp [Ne.symm hx]
      · rename_i q qs e
        rcases List.mem_cons.mp h with rfl | h
        · intro z
          rcases List.mem_cons.mp z with z | z
          · exact hx z.symm
          · exact ih q (by rw [e]; simp) z
        · exact ih p (by rw [e]; simp [h])
theorem joinL_cons2 (s p q : T) (ps : List T) : joinL s (p :: q :: ps) = p ++ s ++ joinL s (q :: ps) := rfl
theorem joinL_one (s p : T) : joinL s [p] = p := rfl
theorem spC_join (c : Nat) : ∀ l : T, joinL [c] (spC c l) = l
  | [] => rfl
  | x :: r => by
    have ih := spC_join c r
    have hne := spC_ne c r
    unfold spC
    split
    · rename_i hx
      cases e : spC c r with
      | nil => exact absurd e hne
      | cons q qs =>
        rw [joinL_cons2, ← e, ih, hx]
        rfl
    · cases e : spC c r with
      | nil => exact absurd e hne
      | cons q qs =>
        dsimp only
        rw [e] at ih
        cases qs with
        | nil =>
          rw [joinL_one] at ih ⊢
          rw [ih]
        | cons q2 qs =>
          rw [joinL_cons2] at ih ⊢
          rw [← ih]
          rfl
theorem part_uniq {c : Nat} : ∀ {P Q : List T}, P ≠ [] → Q ≠ [] → (∀ p ∈ P, c ∉ p) → (∀ q ∈ Q, c ∉ q) → joinL [c] P = joinL [c] Q → P = Q
  | [], _, h, _, _, _, _ => absurd rfl h
  | _ :: _, [], _, h, _, _, _ => absurd rfl h
  | [p], [q], _, _, _, _, e => by rw [joinL_one, joinL_one] at e; rw [e]
  | [p], q :: q2 :: Q, _, _, hp, hq, e => by
    rw [joinL_one, joinL_cons2] at e
    exact absurd (by rw [e]; simp) (hp p (by simp))
  | p :: p2 :: P, [q], _, _, hp, hq, e => by
    rw [joinL_one, joinL_cons2] at e
    exact absurd (by rw [← e]; simp) (hq q (by simp))
  | p :: p2 :: P, q :: q2 :: Q, _, _, hp, hq, e => by
    rw [joinL_cons2, joinL_cons2, List.append_assoc, List.append_assoc] at e
    have key : ∀ (a b x y : T), c ∉ a → c ∉ b → a ++ ([c] ++ x) = b ++ ([c] ++ y) → a = b ∧ x = y := fun a => by
      induction a with
      | nil =>
        intro b x y _ hb h
        cases b with
        | nil => exact ⟨rfl, (List.cons.inj h).2⟩
        | cons z b =>
          have h := (List.cons.inj h).1
          exact absurd (by rw [h]; simp) hb
      | cons z a ih =>
        intro b x y ha hb h
        cases b with
        | nil =>
          have h := (List.cons.inj h).1
          exact absurd (by rw [h]; simp) ha
        | cons z' b =>
          obtain ⟨h1, h2⟩ := List.cons.inj h
          obtain ⟨h3, h4⟩ := ih b x y (fun w => ha (by simp [w])) (fun w => hb (by simp [w])) h2
          exact ⟨by rw [h1, h3], h4⟩
    obtain ⟨h1, h2⟩ := key p q _ _ (hp p (by simp)) (hq q (by simp)) e
    rw [h1, part_uniq (P := p2 :: P) (Q := q2 :: Q) (by simp) (by simp) (fun r hr => hp r (by simp [hr])) (fun r hr => hq r (by simp [hr])) h2]
theorem strs_tx (P : List Str) : P = (P.map fun s => s.cps.toList).map tx := by
  rw [List.map_map]
  induction P with
  | nil => rfl
  | cons s P ih =>
    rw [List.map_cons, ← ih]
    rfl
theorem split_tx {l : T} {c : Nat} : Txt.split (tx l) (tx [c]) = (spC c l).map tx := by
  have h1 : Txt.join (tx [c]) (Txt.split (tx l) (tx [c])) = tx l := by
    show Builtin.Str.glued _ _ = _
    rw [StrLaws.glued_eq_join]
    exact PySem.StrLaws.join_split (tx l) (tx [c])
  have h2 := PySem.StrLaws.split_free (tx l) c
  have h3 := PyProof.Rows.split_pos (tx l) (tx [c])
  have e : (⟨#[c]⟩ : Str) = tx [c] := rfl
  rw [e] at h2
  generalize Txt.split (tx l) (tx [c]) = P at h1 h2 h3
  have hP := strs_tx P
  rw [hP, join_tx] at h1
  have h4 := tx_inj h1
  rw [hP]
  congr 1
  refine part_uniq (c := c) (fun z => ?_) (spC_ne _ _) (fun p hp => ?_) (spC_free _ _) (h4.trans (spC_join c l).symm)
  · rw [List.map_eq_nil_iff] at z
    rw [z] at h3
    simp at h3
  · obtain ⟨s, hs, rfl⟩ := List.mem_map.mp hp
    exact h2 s hs
end PyD.S

end

set_option hygiene false in
local macro_rules | `(tactic| walk_at "kfe4a18ee") => `(tactic| simp -dsimp -implicitDefEqProofs only [os_fld, os_endFl, fldK_o, ok_meth, ok_mk, mkK_obj, ok_chk, is_on, gro0, gro1, gro2, gro3, gro_s, gro_n, isg_put, isg_text, isg_many, isg_parts, isg_pins, isg_bound, str_int, str_str, isI_int, loopK_exc, os_rs, rsOK_sh, os_rsO, goneK_nx, goneK_rt, tryK_nx, tryK_rt, tryK_exc, os_try, os_endTr, exD_none, exD_some, exF_none, exF_some, callK_exc, defK_exc, isx_non, isxT_non, isv_non, okL_isx, okL_isxT, okL_isv, okL_fld, is_xn, subX, reduceCtorEq, decide_true, decide_false, Bool.or_self, Bool.or_false, Bool.false_or, List.any_cons, List.any_nil, is_nn, is_in, is_sn, is_tn, is_ln, is_bn, os_endA, os_endO, os_endG, os_endP, os_endD, os_endS, os_endFr, os_endWh, os_bod, endK_nx, endK_rt, endK_bk, endK_ct, endK_exc, bodK_nx, bodK_rt, bodK_bk, bodK_ct, bodK_exc, frM_t, frM_f, frM_n, wpM_t, wpM_f, wpM_n, ok_c, ok_nm, nmK_v, nmK_o, ok_mv, mvK_v, mvK_o, ok_dm, dmK_v, dmK_o, ok_nil, ok_cons, ok_one, ok_two, ok_op, ok_tstB, ok_tstF, ok_not, bi_true, bi_false, bi_dec, bj_true, bj_false, bj_not, bi_not_dec, ok_and, ok_or, ok_ifF, ok_andF, ok_orF, ok_notF, ok_tup, ok_lst, ok_dic, ok_bm, intR_int, ok_prtN, ok_prtS, ok_sl, callK_ret, ok_call, ok_itA, ok_lc, ok_ch, ok_mut, mutG, shK_sh, shK2_sh, ordB, ownK_o, os_sk, os_bk, os_ct, seqK_nx, seqK_rt, seqK_bk, seqK_ct, seqK_exc, os_seq, os_dr, os_rt, vK_sh, vK_fr, os_asV, os_asO, os_asG, os_asP, os_st, oK_fr, ok_gNm, ok_gTp, ok_gNms0, ok_gNms1, os_fr, ok_run, defK_nx, defK_sh, defK_fr, loopK_nx, loopK_ct, loopK_bk, loopK_rt, okL_some, okL_map, okL_if, okL_ifo, rsls, rsl, stos, stoD, mkR, blD, free_eq, frS_e, frS_v, frS_o, nxK_nx, List.getElem?_cons_zero, List.getElem?_cons_succ, List.set_cons_zero, List.set_cons_succ, List.length_cons, List.length_nil, Nat.zero_add, Nat.reduceAdd, mkE, slIn, List.replicate, List.cons_append, List.nil_append, outsOf, pick, lentOk, nodupB, slotsOf, borrows, putBack, resFlat, add_tx, add_lst, add_tup, add_int, sub_int, mulV_int, mod_int, fdv_int, pow_int, neg_int, eq_int, eqOp_eq, ne_false, ne_true, tx_list, len_tx, len_lst, len_tup, len_scr, len_dic, ix_lst, ix_tup, ix_tx, ix_scr, at_0, at_1, at_2, set_lst, app_lst, ixN_30, ixN_31, ixN_32, ixN_20, ixN_21, ixN_10, sl_tx, sl_lst, sl_tup, sl_scr, true_and, and_true, ordD, Bool.not_false, Bool.not_true, Bool.and_true, Bool.true_and, Bool.or_true, Bool.true_or, List.elem, Bool.false_eq_true, if_true, if_false, isLst, isStr, isDic, int_bl, int_int, list_lst, list_tup, list_scr, tuple_lst, tuple_tup, max2_int, min2_int, isi_int, isi_bl, isi_str, isi_tup, isi_lst, isi_non, isi_dic, ty_ii, ty_ib, ty_is, ty_it, ty_il, ty_bi, ty_bb, ty_bs, ty_bt, ty_bL, ty_si, ty_sb, ty_ss, ty_st, ty_sl, ty_ti, ty_tb, ty_ts, ty_tt, ty_tl, ty_li, ty_lb, ty_ls, ty_lt, ty_ll, ty_ni, ty_nb, ty_ns, ty_nt, ty_nl, rg1, rg2, rg3, it_lst, it_tup, it_scr, it_str, enum_lst, zip_lst, zip_tup, rev_lst, rev_tup, tru_int, tru_bl, tru_lst, tru_tup, wipeE, resE, List.all_cons, List.all_nil, Bool.and_eq_true, dtx, yesT_ok, and_self])

set_option hygiene false in
local macro_rules | `(tactic| walk_at "k43f82015") => `(tactic| simp -dsimp -implicitDefEqProofs only [os_fld, os_endFl, fldK_o, ok_meth, ok_mk, mkK_obj, ok_chk, is_on, gro0, gro1, gro2, gro3, gro_s, gro_n, isg_put, isg_text, isg_many, isg_parts, isg_pins, isg_bound, str_int, str_str, isI_int, loopK_exc, os_rs, rsOK_sh, os_rsO, goneK_nx, goneK_rt, tryK_nx, tryK_rt, tryK_exc, os_try, os_endTr, exD_none, exD_some, exF_none, exF_some, callK_exc, defK_exc, isx_non, isxT_non, isv_non, okL_isx, okL_isxT, okL_isv, okL_fld, is_xn, subX, reduceCtorEq, decide_true, decide_false, Bool.or_self, Bool.or_false, Bool.false_or, List.any_cons, List.any_nil, os_if, os_endIf, is_nn, is_in, is_sn, is_tn, is_ln, is_bn, os_endA, os_endO, os_endG, os_endP, os_endD, os_endS, os_endFr, os_endWh, os_bod, endK_nx, endK_rt, endK_bk, endK_ct, endK_exc, bodK_nx, bodK_rt, bodK_bk, bodK_ct, bodK_exc, frM_t, frM_f, frM_n, wpM_t, wpM_f, wpM_n, ok_c, ok_nm, nmK_v, nmK_o, ok_mv, mvK_v, mvK_o, ok_dm, dmK_v, dmK_o, ok_nil, ok_cons, ok_one, ok_two, ok_op, ok_tstB, ok_tstF, ok_not, bi_true, bi_false, bi_dec, bj_true, bj_false, bj_not, bi_not_dec, ok_and, ok_or, ok_ifF, ok_andF, ok_orF, ok_notF, ok_tup, ok_lst, ok_dic, ok_bm, intR_int, ok_prtN, ok_prtS, ok_sl, callK_ret, ok_call, ok_itA, ok_lc, ok_ch, ok_mut, mutG, shK_sh, shK2_sh, ordB, ownK_o, os_sk, os_bk, os_ct, seqK_nx, seqK_rt, seqK_bk, seqK_ct, seqK_exc, os_seq, os_dr, os_rt, vK_sh, vK_fr, os_asV, os_asO, os_asG, os_asP, os_st, oK_fr, ok_gNm, ok_gTp, ok_gNms0, ok_gNms1, os_fr, ok_run, defK_nx, defK_sh, defK_fr, loopK_nx, loopK_ct, loopK_bk, loopK_rt, okL_some, okL_map, okL_if, okL_ifo, rsls, rsl, stos, stoD, mkR, blD, free_eq, frS_e, frS_v, frS_o, nxK_nx, List.getElem?_cons_zero, List.getElem?_cons_succ, List.set_cons_zero, List.set_cons_succ, List.length_cons, List.length_nil, Nat.zero_add, Nat.reduceAdd, mkE, slIn, List.replicate, List.cons_append, List.nil_append, outsOf, pick, lentOk, nodupB, slotsOf, borrows, putBack, resFlat, add_tx, add_lst, add_tup, add_int, sub_int, mulV_int, mod_int, fdv_int, pow_int, neg_int, eq_int, eqOp_eq, ne_false, ne_true, tx_list, len_tx, len_lst, len_tup, len_scr, len_dic, ix_lst, ix_tup, ix_tx, ix_scr, at_0, at_1, at_2, set_lst, app_lst, ixN_30, ixN_31, ixN_32, ixN_20, ixN_21, ixN_10, sl_tx, sl_lst, sl_tup, sl_scr, true_and, and_true, ordD, Bool.not_false, Bool.not_true, Bool.and_true, Bool.true_and, Bool.or_true, Bool.true_or, List.elem, Bool.false_eq_true, if_true, if_false, isLst, isStr, isDic, int_bl, int_int, list_lst, list_tup, list_scr, tuple_lst, tuple_tup, max2_int, min2_int, isi_int, isi_bl, isi_str, isi_tup, isi_lst, isi_non, isi_dic, ty_ii, ty_ib, ty_is, ty_it, ty_il, ty_bi, ty_bb, ty_bs, ty_bt, ty_bL, ty_si, ty_sb, ty_ss, ty_st, ty_sl, ty_ti, ty_tb, ty_ts, ty_tt, ty_tl, ty_li, ty_lb, ty_ls, ty_lt, ty_ll, ty_ni, ty_nb, ty_ns, ty_nt, ty_nl, rg1, rg2, rg3, it_lst, it_tup, it_scr, it_str, enum_lst, zip_lst, zip_tup, rev_lst, rev_tup, tru_int, tru_bl, tru_lst, tru_tup, wipeE, resE, List.all_cons, List.all_nil, Bool.and_eq_true, dtx, yesT_ok, and_self])

set_option hygiene false in
local macro_rules | `(tactic| walk_at "k1434cd53") => `(tactic| simp -dsimp -implicitDefEqProofs only [os_fld, os_endFl, fldK_o, ok_meth, ok_mk, mkK_obj, ok_chk, is_on, gro0, gro1, gro2, gro3, gro_s, gro_n, isg_put, isg_text, isg_many, isg_parts, isg_pins, isg_bound, str_int, str_str, isI_int, loopK_exc, os_rs, rsOK_sh, os_rsO, goneK_nx, goneK_rt, tryK_nx, tryK_rt, tryK_exc, os_try, os_endTr, exD_none, exD_some, exF_none, exF_some, callK_exc, defK_exc, isx_non, isxT_non, isv_non, okL_isx, okL_isxT, okL_isv, okL_fld, is_xn, subX, reduceCtorEq, decide_true, decide_false, Bool.or_self, Bool.or_false, Bool.false_or, List.any_cons, List.any_nil, is_nn, is_in, is_sn, is_tn, is_ln, is_bn, os_endA, os_endO, os_endG, os_endP, os_endD, os_endS, os_endFr, os_endWh, os_bod, endK_nx, endK_rt, endK_bk, endK_ct, endK_exc, bodK_nx, bodK_rt, bodK_bk, bodK_ct, bodK_exc, frM_t, frM_f, frM_n, wpM_t, wpM_f, wpM_n, ok_c, ok_nm, nmK_v, nmK_o, ok_mv, mvK_v, mvK_o, ok_dm, dmK_v, dmK_o, ok_nil, ok_cons, ok_one, ok_two, ok_op, ok_tstB, ok_tstF, ok_not, bi_true, bi_false, bi_dec, bj_true, bj_false, bj_not, bi_not_dec, ok_and, ok_or, ok_notF, ok_tup, ok_lst, ok_dic, ok_bm, intR_int, ok_prtN, ok_prtS, ok_sl, callK_ret, ok_call, ok_itA, ok_lc, ok_ch, ok_mut, mutG, shK_sh, shK2_sh, ordB, ownK_o, os_sk, os_bk, os_ct, seqK_nx, seqK_rt, seqK_bk, seqK_ct, seqK_exc, os_seq, os_dr, os_rt, vK_sh, vK_fr, os_asV, os_asO, os_asG, os_asP, os_st, oK_fr, ok_gNm, ok_gTp, ok_gNms0, ok_gNms1, os_fr, ok_run, defK_nx, defK_sh, defK_fr, loopK_nx, loopK_ct, loopK_bk, loopK_rt, okL_some, okL_map, okL_if, okL_ifo, rsls, rsl, stos, stoD, mkR, blD, free_eq, frS_e, frS_v, frS_o, nxK_nx, List.getElem?_cons_zero, List.getElem?_cons_succ, List.set_cons_zero, List.set_cons_succ, List.length_cons, List.length_nil, Nat.zero_add, Nat.reduceAdd, mkE, slIn, List.replicate, List.cons_append, List.nil_append, outsOf, pick, lentOk, nodupB, slotsOf, borrows, putBack, resFlat, add_tx, add_lst, add_tup, add_int, sub_int, mulV_int, mod_int, fdv_int, pow_int, neg_int, eq_int, eqOp_eq, ne_false, ne_true, tx_list, len_tx, len_lst, len_tup, len_scr, len_dic, ix_lst, ix_tup, ix_tx, ix_scr, at_0, at_1, at_2, set_lst, app_lst, ixN_30, ixN_31, ixN_32, ixN_20, ixN_21, ixN_10, sl_tx, sl_lst, sl_tup, sl_scr, true_and, and_true, ordD, Bool.not_false, Bool.not_true, Bool.and_true, Bool.true_and, Bool.or_true, Bool.true_or, List.elem, Bool.false_eq_true, if_true, if_false, isLst, isStr, isDic, int_bl, int_int, list_lst, list_tup, list_scr, tuple_lst, tuple_tup, max2_int, min2_int, isi_int, isi_bl, isi_str, isi_tup, isi_lst, isi_non, isi_dic, ty_ii, ty_ib, ty_is, ty_it, ty_il, ty_bi, ty_bb, ty_bs, ty_bt, ty_bL, ty_si, ty_sb, ty_ss, ty_st, ty_sl, ty_ti, ty_tb, ty_ts, ty_tt, ty_tl, ty_li, ty_lb, ty_ls, ty_lt, ty_ll, ty_ni, ty_nb, ty_ns, ty_nt, ty_nl, rg1, rg2, rg3, it_lst, it_tup, it_scr, it_str, enum_lst, zip_lst, zip_tup, rev_lst, rev_tup, tru_int, tru_bl, tru_lst, tru_tup, wipeE, resE, List.all_cons, List.all_nil, Bool.and_eq_true, dtx, yesT_ok, and_self])

section
set_option maxHeartbeats 2000000
namespace PyD.S
open PySem PySem.Spec L2 PyD.S
local macro_rules | `(tactic| walk_at "ev") => `(tactic| walk_at "kfe4a18ee")
local macro_rules | `(tactic| walk_at "evi") => `(tactic| walk_at "k43f82015")
local macro_rules | `(tactic| walk_at "eva") => `(tactic| walk_at "k1434cd53")
local macro_rules | `(tactic| walk_at "sd") => `(tactic| repeat (refine And.intro (by first | omega | assumption | exact rfl) ?_))
local macro_rules | `(tactic| walk_at "sc") => `(tactic| first | assumption | omega | exact rfl | exact mulOk_r (by omega) (by omega) | exact mulOk_l (by omega) (by omega) | exact log_ok (by omega) (by omega) | (simp only [List.length_append, List.length_cons, List.length_nil, List.length_take, List.length_drop, List.length_map, List.length_replicate, upL_len]; omega) | (refine And.intro ?_ ?_ <;> walk_at "sc") | decide)
set_option hygiene false in
local macro_rules | `(tactic| walk_at "lm") => `(tactic| first
  | ((with_reducible refine take_ok ?_ ?_ ?_ fun p r hp hr0 hr1 => ?_); (focus assumption); (focus omega); (focus omega))
  | ((with_reducible refine pick_ok ?_ ?_ ?_ fun p r hp hr0 hr1 => ?_); (focus assumption); (focus omega); (focus omega))
  | ((with_reducible refine pick2_ok ?_ ?_ ?_ fun p r hp hr0 hr1 => ?_); (focus assumption); (focus omega); (focus omega))
  | ((with_reducible refine letter_ok ?_ ?_ ?_ fun p c hp hc => ?_); (focus assumption); (focus omega); (focus omega))
  | ((with_reducible refine signs_ok ?_ ?_ ?_ ?_ ?_ fun p l hp hl hc => ?_); (focus assumption); (focus omega); (focus omega); (focus omega); (focus omega))
  | ((with_reducible refine text_ok ?_ ?_ ?_ fun p l hp hl hc => ?_); (focus assumption); (focus omega); (focus omega))
  | ((with_reducible refine rtext_ok ?_ ?_ ?_ fun p l hp hl hc => ?_); (focus assumption); (focus omega); (focus omega))
  | ((with_reducible refine rtext2_ok ?_ ?_ ?_ fun p l hp hl hc => ?_); (focus assumption); (focus omega); (focus omega))
  | (with_reducible refine whole_ok ?_))
local macro_rules | `(tactic| walk_at "ok") => `(tactic| first | assumption | exact okT_nil | exact Lts.ok (by assumption) | decide)
local macro_rules | `(tactic| walk_at "g0") => `(tactic| first
  | ((with_reducible refine And.intro ?_ ?_); (focus walk_at "sc"))
  | walk_at "lm"
  | ((with_reducible refine okL_eqtx ?_ ?_ ?_); (focus walk_at "ok"); (focus walk_at "ok"))
  | ((with_reducible refine bj_t ?_ ?_); (focus (first | with_reducible rfl | omega)))
  | ((with_reducible refine bj_f ?_ ?_); (focus omega)))
local macro_rules | `(tactic| walk_at "g1") => `(tactic| first
  | walk_at "ev"
  | walk_at "g0")
local macro_rules | `(tactic| walk_at "g2") => `(tactic| first
  | walk_at "evi"
  | walk_at "g0")
local macro_rules | `(tactic| walk_at "go") => `(tactic| repeat walk_at "g1")
local macro_rules | `(tactic| walk_at "goi") => `(tactic| repeat walk_at "g2")
local macro_rules | `(tactic| walk_at "goa") => `(tactic| repeat first | walk_at "eva" | walk_at "g0")
theorem spC_count (c : Nat) : ∀ l : T, (spC c l).length = l.count c + 1
  | [] => rfl
  | x :: r => by
    have ih := spC_count c r
    have hne := spC_ne c r
    unfold spC
    split
    · rename_i h
      rw [List.length_cons, ih, h, List.count_cons_self]
    · rename_i h
      rw [List.count_cons_of_ne h, ← ih]
      cases e : spC c r with
      | nil => exact absurd e hne
      | cons p ps => rfl
theorem kind_pos (s : Str) : 1 ≤ Builtin.Str.strKind s := by
  unfold Builtin.Str.strKind
  split
  · exact Nat.le_refl 1
  · split <;> omega
theorem kind_one {c : Nat} (h : c < 256) : Builtin.Str.strKind (tx [c]) = 1 := by
  unfold Builtin.Str.strKind
  rw [if_pos]
  show (#[c] : Array Nat).all (fun x => decide (x < 256)) = true
  simp [h]
theorem count_tx {l : T} {c : Nat} (hc : c < 256) (hl : l ≠ []) : Txt.count (tx l) (tx [c]) = (l.count c : Nat) := by
  have h1 := congrArg List.length (split_tx (l := l) (c := c))
  rw [List.length_map, spC_count] at h1
  unfold Txt.split at h1
  unfold Txt.count
  have hk := kind_pos (tx l)
  have h0 := List.length_pos_iff.mpr hl
  rw [if_neg (by
    rw [kind_one hc, tx_len, tx_len, Bool.or_eq_true, decide_eq_true_iff, decide_eq_true_iff]
    simp only [List.length_cons, List.length_nil]
    omega)] at h1
  split at h1
  · rename_i h
    rw [List.isEmpty_iff.mp h]
    simp only [List.length_cons, List.length_nil] at h1 ⊢
    omega
  · rw [PyProof.Rows.len_partsBetween] at h1
    omega
theorem count_ok {l : T} {c : Nat} (hc : c < 256) (hl : l ≠ []) : countD [.str (tx l), .str (tx [c])] = some (false, .int (l.count c : Nat)) := by
  show some (false, D.int (Txt.count (tx l) (tx [c]))) = _
  rw [count_tx hc hl]
end PyD.S

end

namespace PyD.S
open PySem PySem.Spec L2
end PyD.S

namespace PyD.S
open PySem PySem.Spec L2
end PyD.S

section
set_option maxHeartbeats 2000000
namespace PyD.S
open PySem PySem.Spec L2 PyD.S
local macro_rules | `(tactic| walk_at "ev") => `(tactic| walk_at "k33569854")
local macro_rules | `(tactic| walk_at "evi") => `(tactic| walk_at "k2b729343")
local macro_rules | `(tactic| walk_at "eva") => `(tactic| walk_at "ka2c0ebbf")
local macro_rules | `(tactic| walk_at "sd") => `(tactic| repeat (refine And.intro (by first | omega | assumption | exact rfl) ?_))
local macro_rules | `(tactic| walk_at "sc") => `(tactic| first | assumption | omega | exact rfl | exact mulOk_r (by omega) (by omega) | exact mulOk_l (by omega) (by omega) | exact log_ok (by omega) (by omega) | (simp only [List.length_append, List.length_cons, List.length_nil, List.length_take, List.length_drop, List.length_map, List.length_replicate, upL_len]; omega) | (refine And.intro ?_ ?_ <;> walk_at "sc") | decide)
set_option hygiene false in
local macro_rules | `(tactic| walk_at "lm") => `(tactic| first
  | ((with_reducible refine take_ok ?_ ?_ ?_ fun p r hp hr0 hr1 => ?_); (focus assumption); (focus omega); (focus omega))
  | ((with_reducible refine pick_ok ?_ ?_ ?_ fun p r hp hr0 hr1 => ?_); (focus assumption); (focus omega); (focus omega))
  | ((with_reducible refine pick2_ok ?_ ?_ ?_ fun p r hp hr0 hr1 => ?_); (focus assumption); (focus omega); (focus omega))
  | ((with_reducible refine letter_ok ?_ ?_ ?_ fun p c hp hc => ?_); (focus assumption); (focus omega); (focus omega))
  | ((with_reducible refine signs_ok ?_ ?_ ?_ ?_ ?_ fun p l hp hl hc => ?_); (focus assumption); (focus omega); (focus omega); (focus omega); (focus omega))
  | ((with_reducible refine text_ok ?_ ?_ ?_ fun p l hp hl hc => ?_); (focus assumption); (focus omega); (focus omega))
  | ((with_reducible refine rtext_ok ?_ ?_ ?_ fun p l hp hl hc => ?_); (focus assumption); (focus omega); (focus omega))
  | ((with_reducible refine rtext2_ok ?_ ?_ ?_ fun p l hp hl hc => ?_); (focus assumption); (focus omega); (focus omega))
  | (with_reducible refine whole_ok ?_))
local macro_rules | `(tactic| walk_at "ok") => `(tactic| first | assumption | exact okT_nil | exact Lts.ok (by assumption) | decide)
local macro_rules | `(tactic| walk_at "g0") => `(tactic| first
  | ((with_reducible refine And.intro ?_ ?_); (focus walk_at "sc"))
  | walk_at "lm"
  | ((with_reducible refine okL_eqtx ?_ ?_ ?_); (focus walk_at "ok"); (focus walk_at "ok"))
  | ((with_reducible refine bj_t ?_ ?_); (focus (first | with_reducible rfl | omega)))
  | ((with_reducible refine bj_f ?_ ?_); (focus omega)))
local macro_rules | `(tactic| walk_at "g1") => `(tactic| first
  | walk_at "ev"
  | walk_at "g0")
local macro_rules | `(tactic| walk_at "g2") => `(tactic| first
  | walk_at "evi"
  | walk_at "g0")
local macro_rules | `(tactic| walk_at "go") => `(tactic| repeat walk_at "g1")
local macro_rules | `(tactic| walk_at "goi") => `(tactic| repeat walk_at "g2")
local macro_rules | `(tactic| walk_at "goa") => `(tactic| repeat first | walk_at "eva" | walk_at "g0")
instance (c : Nat) : Decidable (Lt c) := by unfold Lt; infer_instance
def As (l : List Nat) : Prop := ∀ c ∈ l, c < 128
theorem Lts.as {l : List Nat} (h : Lts l) : As l := fun c hc => by have := h c hc; unfold Lt at this; omega
theorem As.ok {l : List Nat} (h : As l) : okT l := fun c hc => by have := h c hc; omega
end PyD.S

end

namespace PyD.S
open PySem PySem.Spec L2 PyD.S
end PyD.S

namespace PyD.S
open PySem PySem.Spec L2
end PyD.S

namespace PyD.S
open PySem PySem.Spec L2
end PyD.S

section
set_option maxHeartbeats 2000000
namespace PyD.S
open PySem PySem.Spec L2 PyD.S
local macro_rules | `(tactic| walk_at "ev") => `(tactic| walk_at "kfe4a18ee")
local macro_rules | `(tactic| walk_at "evi") => `(tactic| walk_at "k43f82015")
local macro_rules | `(tactic| walk_at "eva") => `(tactic| walk_at "k1434cd53")
local macro_rules | `(tactic| walk_at "sd") => `(tactic| repeat (refine And.intro (by first | omega | assumption | exact rfl) ?_))
local macro_rules | `(tactic| walk_at "sc") => `(tactic| first | assumption | omega | exact rfl | exact mulOk_r (by omega) (by omega) | exact mulOk_l (by omega) (by omega) | exact log_ok (by omega) (by omega) | (simp only [List.length_append, List.length_cons, List.length_nil, List.length_take, List.length_drop, List.length_map, List.length_replicate, upL_len]; omega) | (refine And.intro ?_ ?_ <;> walk_at "sc") | decide)
set_option hygiene false in
local macro_rules | `(tactic| walk_at "lm") => `(tactic| first
  | ((with_reducible refine take_ok ?_ ?_ ?_ fun p r hp hr0 hr1 => ?_); (focus assumption); (focus omega); (focus omega))
  | ((with_reducible refine pick_ok ?_ ?_ ?_ fun p r hp hr0 hr1 => ?_); (focus assumption); (focus omega); (focus omega))
  | ((with_reducible refine pick2_ok ?_ ?_ ?_ fun p r hp hr0 hr1 => ?_); (focus assumption); (focus omega); (focus omega))
  | ((with_reducible refine letter_ok ?_ ?_ ?_ fun p c hp hc => ?_); (focus assumption); (focus omega); (focus omega))
  | ((with_reducible refine signs_ok ?_ ?_ ?_ ?_ ?_ fun p l hp hl hc => ?_); (focus assumption); (focus omega); (focus omega); (focus omega); (focus omega))
  | ((with_reducible refine text_ok ?_ ?_ ?_ fun p l hp hl hc => ?_); (focus assumption); (focus omega); (focus omega))
  | ((with_reducible refine rtext_ok ?_ ?_ ?_ fun p l hp hl hc => ?_); (focus assumption); (focus omega); (focus omega))
  | ((with_reducible refine rtext2_ok ?_ ?_ ?_ fun p l hp hl hc => ?_); (focus assumption); (focus omega); (focus omega))
  | (with_reducible refine whole_ok ?_))
local macro_rules | `(tactic| walk_at "ok") => `(tactic| first | assumption | exact okT_nil | exact Lts.ok (by assumption) | decide)
local macro_rules | `(tactic| walk_at "g0") => `(tactic| first
  | ((with_reducible refine And.intro ?_ ?_); (focus walk_at "sc"))
  | walk_at "lm"
  | ((with_reducible refine okL_eqtx ?_ ?_ ?_); (focus walk_at "ok"); (focus walk_at "ok"))
  | ((with_reducible refine bj_t ?_ ?_); (focus (first | with_reducible rfl | omega)))
  | ((with_reducible refine bj_f ?_ ?_); (focus omega)))
local macro_rules | `(tactic| walk_at "g1") => `(tactic| first
  | walk_at "ev"
  | walk_at "g0")
local macro_rules | `(tactic| walk_at "g2") => `(tactic| first
  | walk_at "evi"
  | walk_at "g0")
local macro_rules | `(tactic| walk_at "go") => `(tactic| repeat walk_at "g1")
local macro_rules | `(tactic| walk_at "goi") => `(tactic| repeat walk_at "g2")
local macro_rules | `(tactic| walk_at "goa") => `(tactic| repeat first | walk_at "eva" | walk_at "g0")
def isDg (c : Nat) : Prop := 48 ≤ c ∧ c ≤ 57
instance (c : Nat) : Decidable (isDg c) := by unfold isDg; infer_instance
def gdT (w : List Nat) : Prop := ∀ c ∈ w, isDg c
instance (w : List Nat) : Decidable (gdT w) := by unfold gdT; infer_instance
def ldT (w : List Nat) : Prop := w[0]? = some 48 ∧ 1 < w.length
instance (w : List Nat) : Decidable (ldT w) := by unfold ldT; infer_instance
theorem in_sign {l : List Nat} {c : Nat} {n : Bool} : inUD n [.str (tx [c]), .str (tx l)] = some (false, .bl (decide (c ∈ l) != n)) := by
  rw [in_tx]
  congr 4
  rw [Bool.eq_iff_iff, decide_eq_true_eq]
  constructor
  · intro h
    obtain ⟨i, hi⟩ := Option.isSome_iff_exists.mp h
    have h2 := (fstAt_some hi).2.2.1
    unfold mAt at h2
    rw [Bool.and_eq_true, decide_eq_true_eq, decide_eq_true_eq] at h2
    have : c ∈ (l.take (i + [c].length)).drop i := by rw [h2.2]; simp
    exact List.mem_of_mem_take (List.mem_of_mem_drop this)
  · intro h
    cases e : fstAt l [c] 0 l.length with
    | some i => rfl
    | none =>
      obtain ⟨j, hj⟩ := List.mem_iff_getElem?.mp h
      have hjl := (List.getElem?_eq_some_iff.mp hj).1
      have := fstAt_none e j (Nat.zero_le _)
      have hm : mAt l [c] l.length j = true := by
        unfold mAt
        rw [Bool.and_eq_true, decide_eq_true_eq, decide_eq_true_eq]
        refine ⟨by simp; omega, ?_⟩
        apply List.ext_getElem?
        intro x
        rw [List.getElem?_drop, List.getElem?_take]
        cases x with
        | zero =>
          rw [if_pos (by simp), Nat.add_zero, hj]
          rfl
        | succ x =>
          rw [if_neg (by simp)]
          simp
      rw [this] at hm
      cases hm
end PyD.S

end

section
set_option maxHeartbeats 2000000
namespace PyD.S
open PySem PySem.Spec L2 PyD.S
local macro_rules | `(tactic| walk_at "ev") => `(tactic| walk_at "kfe4a18ee")
local macro_rules | `(tactic| walk_at "evi") => `(tactic| walk_at "k43f82015")
local macro_rules | `(tactic| walk_at "eva") => `(tactic| walk_at "k1434cd53")
local macro_rules | `(tactic| walk_at "sd") => `(tactic| repeat (refine And.intro (by first | omega | assumption | exact rfl) ?_))
local macro_rules | `(tactic| walk_at "sc") => `(tactic| first | assumption | omega | exact rfl | exact mulOk_r (by omega) (by omega) | exact mulOk_l (by omega) (by omega) | exact log_ok (by omega) (by omega) | (simp only [List.length_append, List.length_cons, List.length_nil, List.length_take, List.length_drop, List.length_map, List.length_replicate, upL_len]; omega) | (refine And.intro ?_ ?_ <;> walk_at "sc") | decide)
set_option hygiene false in
local macro_rules | `(tactic| walk_at "lm") => `(tactic| first
  | ((with_reducible refine take_ok ?_ ?_ ?_ fun p r hp hr0 hr1 => ?_); (focus assumption); (focus omega); (focus omega))
  | ((with_reducible refine pick_ok ?_ ?_ ?_ fun p r hp hr0 hr1 => ?_); (focus assumption); (focus omega); (focus omega))
  | ((with_reducible refine pick2_ok ?_ ?_ ?_ fun p r hp hr0 hr1 => ?_); (focus assumption); (focus omega); (focus omega))
  | ((with_reducible refine letter_ok ?_ ?_ ?_ fun p c hp hc => ?_); (focus assumption); (focus omega); (focus omega))
  | ((with_reducible refine signs_ok ?_ ?_ ?_ ?_ ?_ fun p l hp hl hc => ?_); (focus assumption); (focus omega); (focus omega); (focus omega); (focus omega))
  | ((with_reducible refine text_ok ?_ ?_ ?_ fun p l hp hl hc => ?_); (focus assumption); (focus omega); (focus omega))
  | ((with_reducible refine rtext_ok ?_ ?_ ?_ fun p l hp hl hc => ?_); (focus assumption); (focus omega); (focus omega))
  | ((with_reducible refine rtext2_ok ?_ ?_ ?_ fun p l hp hl hc => ?_); (focus assumption); (focus omega); (focus omega))
  | (with_reducible refine whole_ok ?_))
local macro_rules | `(tactic| walk_at "ok") => `(tactic| first | assumption | exact okT_nil | exact Lts.ok (by assumption) | decide)
local macro_rules | `(tactic| walk_at "g0") => `(tactic| first
  | ((with_reducible refine And.intro ?_ ?_); (focus walk_at "sc"))
  | walk_at "lm"
  | ((with_reducible refine okL_eqtx ?_ ?_ ?_); (focus walk_at "ok"); (focus walk_at "ok"))
  | ((with_reducible refine bj_t ?_ ?_); (focus (first | with_reducible rfl | omega)))
  | ((with_reducible refine bj_f ?_ ?_); (focus omega)))
local macro_rules | `(tactic| walk_at "g1") => `(tactic| first
  | walk_at "ev"
  | walk_at "g0")
local macro_rules | `(tactic| walk_at "g2") => `(tactic| first
  | walk_at "evi"
  | walk_at "g0")
local macro_rules | `(tactic| walk_at "go") => `(tactic| repeat walk_at "g1")
local macro_rules | `(tactic| walk_at "goi") => `(tactic| repeat walk_at "g2")
local macro_rules | `(tactic| walk_at "goa") => `(tactic| repeat first | walk_at "eva" | walk_at "g0")
theorem sg_lt {a b : Nat} : ([a] < [b]) ↔ a < b := by
  rw [List.cons_lt_cons_iff]
  constructor
  · rintro (h | ⟨_, h⟩)
    · exact h
    · exact absurd h (List.lt_irrefl _)
  · exact .inl
end PyD.S

end

namespace PyD.S
open PySem PySem.Spec L2
end PyD.S

namespace PyD.S
open PySem PySem.Spec L2
end PyD.S

section
set_option maxHeartbeats 8000000
namespace PyD.S
open PySem PySem.Spec L2 PyD.S
local macro_rules | `(tactic| walk_at "ev") => `(tactic| walk_at "k33569854")
local macro_rules | `(tactic| walk_at "evi") => `(tactic| walk_at "k2b729343")
local macro_rules | `(tactic| walk_at "eva") => `(tactic| walk_at "ka2c0ebbf")
local macro_rules | `(tactic| walk_at "sd") => `(tactic| repeat (refine And.intro (by first | omega | assumption | exact rfl) ?_))
local macro_rules | `(tactic| walk_at "sc") => `(tactic| first | assumption | omega | exact rfl | exact mulOk_r (by omega) (by omega) | exact mulOk_l (by omega) (by omega) | exact log_ok (by omega) (by omega) | (simp only [List.length_append, List.length_cons, List.length_nil, List.length_take, List.length_drop, List.length_map, List.length_replicate, upL_len]; omega) | (refine And.intro ?_ ?_ <;> walk_at "sc") | decide)
set_option hygiene false in
local macro_rules | `(tactic| walk_at "lm") => `(tactic| first
  | ((with_reducible refine take_ok ?_ ?_ ?_ fun p r hp hr0 hr1 => ?_); (focus assumption); (focus omega); (focus omega))
  | ((with_reducible refine pick_ok ?_ ?_ ?_ fun p r hp hr0 hr1 => ?_); (focus assumption); (focus omega); (focus omega))
  | ((with_reducible refine pick2_ok ?_ ?_ ?_ fun p r hp hr0 hr1 => ?_); (focus assumption); (focus omega); (focus omega))
  | ((with_reducible refine letter_ok ?_ ?_ ?_ fun p c hp hc => ?_); (focus assumption); (focus omega); (focus omega))
  | ((with_reducible refine signs_ok ?_ ?_ ?_ ?_ ?_ fun p l hp hl hc => ?_); (focus assumption); (focus omega); (focus omega); (focus omega); (focus omega))
  | ((with_reducible refine text_ok ?_ ?_ ?_ fun p l hp hl hc => ?_); (focus assumption); (focus omega); (focus omega))
  | ((with_reducible refine rtext_ok ?_ ?_ ?_ fun p l hp hl hc => ?_); (focus assumption); (focus omega); (focus omega))
  | ((with_reducible refine rtext2_ok ?_ ?_ ?_ fun p l hp hl hc => ?_); (focus assumption); (focus omega); (focus omega))
  | (with_reducible refine whole_ok ?_))
local macro_rules | `(tactic| walk_at "ok") => `(tactic| first | assumption | exact okT_nil | exact Lts.ok (by assumption) | decide)
local macro_rules | `(tactic| walk_at "g0") => `(tactic| first
  | ((with_reducible refine And.intro ?_ ?_); (focus walk_at "sc"))
  | walk_at "lm"
  | ((with_reducible refine okL_eqtx ?_ ?_ ?_); (focus walk_at "ok"); (focus walk_at "ok"))
  | ((with_reducible refine bj_t ?_ ?_); (focus (first | with_reducible rfl | omega)))
  | ((with_reducible refine bj_f ?_ ?_); (focus omega)))
local macro_rules | `(tactic| walk_at "g1") => `(tactic| first
  | walk_at "ev"
  | walk_at "g0")
local macro_rules | `(tactic| walk_at "g2") => `(tactic| first
  | walk_at "evi"
  | walk_at "g0")
local macro_rules | `(tactic| walk_at "go") => `(tactic| repeat walk_at "g1")
local macro_rules | `(tactic| walk_at "goi") => `(tactic| repeat walk_at "g2")
local macro_rules | `(tactic| walk_at "goa") => `(tactic| repeat first | walk_at "eva" | walk_at "g0")
inductive Pa where
  | sg (c : Nat) | cp (s m : Nat)
end PyD.S

end

namespace PyD.S
open PySem PySem.Spec L2
end PyD.S

namespace PyD.S
open PySem PySem.Spec L2
end PyD.S

namespace PyD.S
open PySem PySem.Spec L2
end PyD.S

namespace PyD.S
open PySem PySem.Spec L2
end PyD.S

namespace PyD.S
open PySem PySem.Spec L2
end PyD.S

section
set_option maxHeartbeats 8000000
namespace PyD.S
open PySem PySem.Spec L2 PyD.S
local macro_rules | `(tactic| walk_at "ev") => `(tactic| walk_at "k33569854")
local macro_rules | `(tactic| walk_at "evi") => `(tactic| walk_at "k2b729343")
local macro_rules | `(tactic| walk_at "eva") => `(tactic| walk_at "ka2c0ebbf")
local macro_rules | `(tactic| walk_at "sd") => `(tactic| repeat (refine And.intro (by first | omega | assumption | exact rfl) ?_))
local macro_rules | `(tactic| walk_at "sc") => `(tactic| first | assumption | omega | exact rfl | exact mulOk_r (by omega) (by omega) | exact mulOk_l (by omega) (by omega) | exact log_ok (by omega) (by omega) | (simp only [List.length_append, List.length_cons, List.length_nil, List.length_take, List.length_drop, List.length_map, List.length_replicate, upL_len]; omega) | (refine And.intro ?_ ?_ <;> walk_at "sc") | decide)
set_option hygiene false in
local macro_rules | `(tactic| walk_at "lm") => `(tactic| first
  | ((with_reducible refine take_ok ?_ ?_ ?_ fun p r hp hr0 hr1 => ?_); (focus assumption); (focus omega); (focus omega))
  | ((with_reducible refine pick_ok ?_ ?_ ?_ fun p r hp hr0 hr1 => ?_); (focus assumption); (focus omega); (focus omega))
  | ((with_reducible refine pick2_ok ?_ ?_ ?_ fun p r hp hr0 hr1 => ?_); (focus assumption); (focus omega); (focus omega))
  | ((with_reducible refine letter_ok ?_ ?_ ?_ fun p c hp hc => ?_); (focus assumption); (focus omega); (focus omega))
  | ((with_reducible refine signs_ok ?_ ?_ ?_ ?_ ?_ fun p l hp hl hc => ?_); (focus assumption); (focus omega); (focus omega); (focus omega); (focus omega))
  | ((with_reducible refine text_ok ?_ ?_ ?_ fun p l hp hl hc => ?_); (focus assumption); (focus omega); (focus omega))
  | ((with_reducible refine rtext_ok ?_ ?_ ?_ fun p l hp hl hc => ?_); (focus assumption); (focus omega); (focus omega))
  | ((with_reducible refine rtext2_ok ?_ ?_ ?_ fun p l hp hl hc => ?_); (focus assumption); (focus omega); (focus omega))
  | (with_reducible refine whole_ok ?_))
local macro_rules | `(tactic| walk_at "ok") => `(tactic| first | assumption | exact okT_nil | exact Lts.ok (by assumption) | decide)
local macro_rules | `(tactic| walk_at "g0") => `(tactic| first
  | ((with_reducible refine And.intro ?_ ?_); (focus walk_at "sc"))
  | walk_at "lm"
  | ((with_reducible refine okL_eqtx ?_ ?_ ?_); (focus walk_at "ok"); (focus walk_at "ok"))
  | ((with_reducible refine bj_t ?_ ?_); (focus (first | with_reducible rfl | omega)))
  | ((with_reducible refine bj_f ?_ ?_); (focus omega)))
local macro_rules | `(tactic| walk_at "g1") => `(tactic| first
  | walk_at "ev"
  | walk_at "g0")
local macro_rules | `(tactic| walk_at "g2") => `(tactic| first
  | walk_at "evi"
  | walk_at "g0")
local macro_rules | `(tactic| walk_at "go") => `(tactic| repeat walk_at "g1")
local macro_rules | `(tactic| walk_at "goi") => `(tactic| repeat walk_at "g2")
local macro_rules | `(tactic| walk_at "goa") => `(tactic| repeat first | walk_at "eva" | walk_at "g0")
def SR (l : T) (d : D) (q : Nat) : Prop := (∃ c, d = .str (tx [c]) ∧ l[q]? = some c) ∨ ∃ q' : Nat, d = .int q' ∧ q' < q ∧ l[q']? = l[q]?
def SRC (l : T) (S : List D) : Prop := ∀ q d, S[q]? = some d → SR l d q
theorem SRC.snoc {l : T} {S : List D} {d : D} (h : SRC l S) (h' : SR l d S.length) : SRC l (S ++ [d]) := fun q e hq => by
  by_cases hl : q < S.length
  · rw [List.getElem?_append_left hl] at hq
    exact h q e hq
  · have hl2 := (List.getElem?_eq_some_iff.mp hq).1
    simp only [List.length_append, List.length_cons, List.length_nil] at hl2
    have e2 : q = S.length := by omega
    subst e2
    rw [List.getElem?_append_right (Nat.le_refl _), Nat.sub_self] at hq
    cases hq
    exact h'
theorem SRC.app {l : T} {s : Nat} : ∀ (m : Nat) {S : List D}, SRC l S → (∀ j, j < m → s + j < S.length + j ∧ l[s + j]? = l[S.length + j]?) → SRC l (S ++ (List.range m).map fun j : Nat => D.int (s + j : Nat))
  | 0, S, h, _ => by simpa using h
  | m + 1, S, h, h2 => by
    rw [List.range_succ, List.map_append, ← List.append_assoc]
    refine SRC.snoc (SRC.app m h fun j hj => h2 j (by omega)) ?_
    obtain ⟨h3, h4⟩ := h2 m (by omega)
    refine .inr ⟨s + m, rfl, ?_, ?_⟩
    · rw [List.length_append, List.length_map, List.length_range]; omega
    · rw [List.length_append, List.length_map, List.length_range]; exact h4
theorem flat1 : ∀ l : List Nat, (l.map fun c => [c]).flatten = l
  | [] => rfl
  | a :: r => by rw [List.map_cons, List.flatten_cons, flat1 r]; rfl
end PyD.S

end

set_option hygiene false in
local macro_rules | `(tactic| walk_at "k1e8a8d14") => `(tactic| simp -dsimp -implicitDefEqProofs only [loopK_exc, os_rs, rsOK_sh, os_rsO, goneK_nx, goneK_rt, tryK_nx, tryK_rt, tryK_exc, os_try, os_endTr, exD_none, exD_some, exF_none, exF_some, callK_exc, defK_exc, isx_non, isxT_non, isv_non, okL_isx, okL_isxT, okL_isv, okL_fld, is_xn, subX, reduceCtorEq, decide_true, decide_false, Bool.or_self, Bool.or_false, Bool.false_or, List.any_cons, List.any_nil, is_nn, is_in, is_sn, is_tn, is_ln, is_bn, os_endA, os_endO, os_endG, os_endP, os_endD, os_endS, os_endFr, os_endWh, os_bod, endK_nx, endK_rt, endK_bk, endK_ct, endK_exc, bodK_nx, bodK_rt, bodK_bk, bodK_ct, bodK_exc, frM_t, frM_f, frM_n, wpM_t, wpM_f, wpM_n, ok_c, ok_nm, nmK_v, nmK_o, ok_mv, mvK_v, mvK_o, ok_dm, dmK_v, dmK_o, ok_nil, ok_cons, ok_one, ok_two, ok_op, ok_tstB, ok_tstF, ok_not, bi_true, bi_false, bi_dec, bj_true, bj_false, bj_not, bi_not_dec, ok_and, ok_or, ok_ifF, ok_andF, ok_orF, ok_notF, ok_tup, ok_lst, ok_dic, ok_bm, intR_int, ok_prtN, ok_prtS, ok_sl, callK_ret, ok_call, ok_itA, ok_lc, ok_ch, ok_mut, mutG, shK_sh, shK2_sh, ordB, ownK_o, os_sk, os_bk, os_ct, seqK_nx, seqK_rt, seqK_bk, seqK_ct, seqK_exc, os_seq, os_dr, os_rt, vK_sh, vK_fr, os_asV, os_asO, os_asG, os_asP, os_st, oK_fr, ok_gNm, ok_gTp, ok_gNms0, ok_gNms1, os_fr, ok_run, defK_nx, defK_sh, defK_fr, loopK_nx, loopK_ct, loopK_bk, loopK_rt, okL_some, okL_map, okL_if, okL_ifo, rsls, rsl, stos, stoD, mkR, blD, free_eq, frS_e, frS_v, frS_o, nxK_nx, List.getElem?_cons_zero, List.getElem?_cons_succ, List.set_cons_zero, List.set_cons_succ, List.length_cons, List.length_nil, Nat.zero_add, Nat.reduceAdd, mkE, slIn, List.replicate, List.cons_append, List.nil_append, outsOf, pick, lentOk, nodupB, slotsOf, borrows, putBack, resFlat, add_tx, add_lst, add_tup, add_int, sub_int, mulV_int, mod_int, fdv_int, pow_int, neg_int, eq_int, eqOp_eq, ne_false, ne_true, tx_list, len_tx, len_lst, len_tup, len_scr, len_dic, ix_lst, ix_tup, ix_tx, ix_scr, at_0, at_1, at_2, set_lst, app_lst, ixN_30, ixN_31, ixN_32, ixN_20, ixN_21, ixN_10, sl_tx, sl_lst, sl_tup, sl_scr, true_and, and_true, ordD, Bool.not_false, Bool.not_true, Bool.and_true, Bool.true_and, Bool.or_true, Bool.true_or, List.elem, Bool.false_eq_true, if_true, if_false, isLst, isStr, isDic, int_bl, int_int, list_lst, list_tup, list_scr, tuple_lst, tuple_tup, max2_int, min2_int, isi_int, isi_bl, isi_str, isi_tup, isi_lst, isi_non, isi_dic, ty_ii, ty_ib, ty_is, ty_it, ty_il, ty_bi, ty_bb, ty_bs, ty_bt, ty_bL, ty_si, ty_sb, ty_ss, ty_st, ty_sl, ty_ti, ty_tb, ty_ts, ty_tt, ty_tl, ty_li, ty_lb, ty_ls, ty_lt, ty_ll, ty_ni, ty_nb, ty_ns, ty_nt, ty_nl, rg1, rg2, rg3, it_lst, it_tup, it_scr, it_str, enum_lst, zip_lst, zip_tup, rev_lst, rev_tup, tru_int, tru_bl, tru_lst, tru_tup, wipeE, resE, List.all_cons, List.all_nil, Bool.and_eq_true, dtx, yesT_ok, and_self])

set_option hygiene false in
local macro_rules | `(tactic| walk_at "kc479338b") => `(tactic| simp -dsimp -implicitDefEqProofs only [loopK_exc, os_rs, rsOK_sh, os_rsO, goneK_nx, goneK_rt, tryK_nx, tryK_rt, tryK_exc, os_try, os_endTr, exD_none, exD_some, exF_none, exF_some, callK_exc, defK_exc, isx_non, isxT_non, isv_non, okL_isx, okL_isxT, okL_isv, okL_fld, is_xn, subX, reduceCtorEq, decide_true, decide_false, Bool.or_self, Bool.or_false, Bool.false_or, List.any_cons, List.any_nil, os_if, os_endIf, is_nn, is_in, is_sn, is_tn, is_ln, is_bn, os_endA, os_endO, os_endG, os_endP, os_endD, os_endS, os_endFr, os_endWh, os_bod, endK_nx, endK_rt, endK_bk, endK_ct, endK_exc, bodK_nx, bodK_rt, bodK_bk, bodK_ct, bodK_exc, frM_t, frM_f, frM_n, wpM_t, wpM_f, wpM_n, ok_c, ok_nm, nmK_v, nmK_o, ok_mv, mvK_v, mvK_o, ok_dm, dmK_v, dmK_o, ok_nil, ok_cons, ok_one, ok_two, ok_op, ok_tstB, ok_tstF, ok_not, bi_true, bi_false, bi_dec, bj_true, bj_false, bj_not, bi_not_dec, ok_and, ok_or, ok_ifF, ok_andF, ok_orF, ok_notF, ok_tup, ok_lst, ok_dic, ok_bm, intR_int, ok_prtN, ok_prtS, ok_sl, callK_ret, ok_call, ok_itA, ok_lc, ok_ch, ok_mut, mutG, shK_sh, shK2_sh, ordB, ownK_o, os_sk, os_bk, os_ct, seqK_nx, seqK_rt, seqK_bk, seqK_ct, seqK_exc, os_seq, os_dr, os_rt, vK_sh, vK_fr, os_asV, os_asO, os_asG, os_asP, os_st, oK_fr, ok_gNm, ok_gTp, ok_gNms0, ok_gNms1, os_fr, ok_run, defK_nx, defK_sh, defK_fr, loopK_nx, loopK_ct, loopK_bk, loopK_rt, okL_some, okL_map, okL_if, okL_ifo, rsls, rsl, stos, stoD, mkR, blD, free_eq, frS_e, frS_v, frS_o, nxK_nx, List.getElem?_cons_zero, List.getElem?_cons_succ, List.set_cons_zero, List.set_cons_succ, List.length_cons, List.length_nil, Nat.zero_add, Nat.reduceAdd, mkE, slIn, List.replicate, List.cons_append, List.nil_append, outsOf, pick, lentOk, nodupB, slotsOf, borrows, putBack, resFlat, add_tx, add_lst, add_tup, add_int, sub_int, mulV_int, mod_int, fdv_int, pow_int, neg_int, eq_int, eqOp_eq, ne_false, ne_true, tx_list, len_tx, len_lst, len_tup, len_scr, len_dic, ix_lst, ix_tup, ix_tx, ix_scr, at_0, at_1, at_2, set_lst, app_lst, ixN_30, ixN_31, ixN_32, ixN_20, ixN_21, ixN_10, sl_tx, sl_lst, sl_tup, sl_scr, true_and, and_true, ordD, Bool.not_false, Bool.not_true, Bool.and_true, Bool.true_and, Bool.or_true, Bool.true_or, List.elem, Bool.false_eq_true, if_true, if_false, isLst, isStr, isDic, int_bl, int_int, list_lst, list_tup, list_scr, tuple_lst, tuple_tup, max2_int, min2_int, isi_int, isi_bl, isi_str, isi_tup, isi_lst, isi_non, isi_dic, ty_ii, ty_ib, ty_is, ty_it, ty_il, ty_bi, ty_bb, ty_bs, ty_bt, ty_bL, ty_si, ty_sb, ty_ss, ty_st, ty_sl, ty_ti, ty_tb, ty_ts, ty_tt, ty_tl, ty_li, ty_lb, ty_ls, ty_lt, ty_ll, ty_ni, ty_nb, ty_ns, ty_nt, ty_nl, rg1, rg2, rg3, it_lst, it_tup, it_scr, it_str, enum_lst, zip_lst, zip_tup, rev_lst, rev_tup, tru_int, tru_bl, tru_lst, tru_tup, wipeE, resE, List.all_cons, List.all_nil, Bool.and_eq_true, dtx, yesT_ok, and_self])

set_option hygiene false in
local macro_rules | `(tactic| walk_at "k79db6771") => `(tactic| simp -dsimp -implicitDefEqProofs only [loopK_exc, os_rs, rsOK_sh, os_rsO, goneK_nx, goneK_rt, tryK_nx, tryK_rt, tryK_exc, os_try, os_endTr, exD_none, exD_some, exF_none, exF_some, callK_exc, defK_exc, isx_non, isxT_non, isv_non, okL_isx, okL_isxT, okL_isv, okL_fld, is_xn, subX, reduceCtorEq, decide_true, decide_false, Bool.or_self, Bool.or_false, Bool.false_or, List.any_cons, List.any_nil, is_nn, is_in, is_sn, is_tn, is_ln, is_bn, os_endA, os_endO, os_endG, os_endP, os_endD, os_endS, os_endFr, os_endWh, os_bod, endK_nx, endK_rt, endK_bk, endK_ct, endK_exc, bodK_nx, bodK_rt, bodK_bk, bodK_ct, bodK_exc, frM_t, frM_f, frM_n, wpM_t, wpM_f, wpM_n, ok_c, ok_nm, nmK_v, nmK_o, ok_mv, mvK_v, mvK_o, ok_dm, dmK_v, dmK_o, ok_nil, ok_cons, ok_one, ok_two, ok_op, ok_tstB, ok_tstF, ok_not, bi_true, bi_false, bi_dec, bj_true, bj_false, bj_not, bi_not_dec, ok_and, ok_or, ok_notF, ok_tup, ok_lst, ok_dic, ok_bm, intR_int, ok_prtN, ok_prtS, ok_sl, callK_ret, ok_call, ok_itA, ok_lc, ok_ch, ok_mut, mutG, shK_sh, shK2_sh, ordB, ownK_o, os_sk, os_bk, os_ct, seqK_nx, seqK_rt, seqK_bk, seqK_ct, seqK_exc, os_seq, os_dr, os_rt, vK_sh, vK_fr, os_asV, os_asO, os_asG, os_asP, os_st, oK_fr, ok_gNm, ok_gTp, ok_gNms0, ok_gNms1, os_fr, ok_run, defK_nx, defK_sh, defK_fr, loopK_nx, loopK_ct, loopK_bk, loopK_rt, okL_some, okL_map, okL_if, okL_ifo, rsls, rsl, stos, stoD, mkR, blD, free_eq, frS_e, frS_v, frS_o, nxK_nx, List.getElem?_cons_zero, List.getElem?_cons_succ, List.set_cons_zero, List.set_cons_succ, List.length_cons, List.length_nil, Nat.zero_add, Nat.reduceAdd, mkE, slIn, List.replicate, List.cons_append, List.nil_append, outsOf, pick, lentOk, nodupB, slotsOf, borrows, putBack, resFlat, add_tx, add_lst, add_tup, add_int, sub_int, mulV_int, mod_int, fdv_int, pow_int, neg_int, eq_int, eqOp_eq, ne_false, ne_true, tx_list, len_tx, len_lst, len_tup, len_scr, len_dic, ix_lst, ix_tup, ix_tx, ix_scr, at_0, at_1, at_2, set_lst, app_lst, ixN_30, ixN_31, ixN_32, ixN_20, ixN_21, ixN_10, sl_tx, sl_lst, sl_tup, sl_scr, true_and, and_true, ordD, Bool.not_false, Bool.not_true, Bool.and_true, Bool.true_and, Bool.or_true, Bool.true_or, List.elem, Bool.false_eq_true, if_true, if_false, isLst, isStr, isDic, int_bl, int_int, list_lst, list_tup, list_scr, tuple_lst, tuple_tup, max2_int, min2_int, isi_int, isi_bl, isi_str, isi_tup, isi_lst, isi_non, isi_dic, ty_ii, ty_ib, ty_is, ty_it, ty_il, ty_bi, ty_bb, ty_bs, ty_bt, ty_bL, ty_si, ty_sb, ty_ss, ty_st, ty_sl, ty_ti, ty_tb, ty_ts, ty_tt, ty_tl, ty_li, ty_lb, ty_ls, ty_lt, ty_ll, ty_ni, ty_nb, ty_ns, ty_nt, ty_nl, rg1, rg2, rg3, it_lst, it_tup, it_scr, it_str, enum_lst, zip_lst, zip_tup, rev_lst, rev_tup, tru_int, tru_bl, tru_lst, tru_tup, wipeE, resE, List.all_cons, List.all_nil, Bool.and_eq_true, dtx, yesT_ok, and_self])

section
set_option maxHeartbeats 40000000
namespace PyD.S
open PySem PySem.Spec L2 PyD.S
local macro_rules | `(tactic| walk_at "ev") => `(tactic| walk_at "k1e8a8d14")
local macro_rules | `(tactic| walk_at "evi") => `(tactic| walk_at "kc479338b")
local macro_rules | `(tactic| walk_at "eva") => `(tactic| walk_at "k79db6771")
local macro_rules | `(tactic| walk_at "sd") => `(tactic| repeat (refine And.intro (by first | omega | assumption | exact rfl) ?_))
local macro_rules | `(tactic| walk_at "sc") => `(tactic| first | assumption | omega | exact rfl | exact mulOk_r (by omega) (by omega) | exact mulOk_l (by omega) (by omega) | exact log_ok (by omega) (by omega) | (simp only [List.length_append, List.length_cons, List.length_nil, List.length_take, List.length_drop, List.length_map, List.length_replicate, upL_len]; omega) | (refine And.intro ?_ ?_ <;> walk_at "sc") | decide)
set_option hygiene false in
local macro_rules | `(tactic| walk_at "lm") => `(tactic| first
  | ((with_reducible refine take_ok ?_ ?_ ?_ fun p r hp hr0 hr1 => ?_); (focus assumption); (focus omega); (focus omega))
  | ((with_reducible refine pick_ok ?_ ?_ ?_ fun p r hp hr0 hr1 => ?_); (focus assumption); (focus omega); (focus omega))
  | ((with_reducible refine pick2_ok ?_ ?_ ?_ fun p r hp hr0 hr1 => ?_); (focus assumption); (focus omega); (focus omega))
  | ((with_reducible refine letter_ok ?_ ?_ ?_ fun p c hp hc => ?_); (focus assumption); (focus omega); (focus omega))
  | ((with_reducible refine signs_ok ?_ ?_ ?_ ?_ ?_ fun p l hp hl hc => ?_); (focus assumption); (focus omega); (focus omega); (focus omega); (focus omega))
  | ((with_reducible refine text_ok ?_ ?_ ?_ fun p l hp hl hc => ?_); (focus assumption); (focus omega); (focus omega))
  | ((with_reducible refine rtext_ok ?_ ?_ ?_ fun p l hp hl hc => ?_); (focus assumption); (focus omega); (focus omega))
  | ((with_reducible refine rtext2_ok ?_ ?_ ?_ fun p l hp hl hc => ?_); (focus assumption); (focus omega); (focus omega))
  | (with_reducible refine whole_ok ?_))
local macro_rules | `(tactic| walk_at "ok") => `(tactic| first | assumption | exact okT_nil | exact Lts.ok (by assumption) | decide)
local macro_rules | `(tactic| walk_at "g0") => `(tactic| first
  | ((with_reducible refine And.intro ?_ ?_); (focus walk_at "sc"))
  | walk_at "lm"
  | ((with_reducible refine okL_eqtx ?_ ?_ ?_); (focus walk_at "ok"); (focus walk_at "ok"))
  | ((with_reducible refine bj_t ?_ ?_); (focus (first | with_reducible rfl | omega)))
  | ((with_reducible refine bj_f ?_ ?_); (focus omega)))
local macro_rules | `(tactic| walk_at "g1") => `(tactic| first
  | walk_at "ev"
  | walk_at "g0")
local macro_rules | `(tactic| walk_at "g2") => `(tactic| first
  | walk_at "evi"
  | walk_at "g0")
local macro_rules | `(tactic| walk_at "go") => `(tactic| repeat walk_at "g1")
local macro_rules | `(tactic| walk_at "goi") => `(tactic| repeat walk_at "g2")
local macro_rules | `(tactic| walk_at "goa") => `(tactic| repeat first | walk_at "eva" | walk_at "g0")
def dueB (L : T) (d : D) : Prop := (Ring L ∧ d = .str (tx (tL L))) ∨ (¬ Ring L ∧ d = .non)
theorem count_nilC : ∀ c : Nat, c < 256 → Txt.count (tx []) (tx [c]) = 0 := by decide +kernel
theorem count_any {l : T} {c : Nat} (hc : c < 256) : countD [.str (tx l), .str (tx [c])] = some (false, .int (l.count c : Nat)) := by
  by_cases h : l = []
  · subst h
    show some (false, D.int (Txt.count (tx []) (tx [c]))) = _
    rw [count_nilC c hc]
    rfl
  · exact count_ok hc h
theorem tL_rev (L : T) : ((List.range (L.length - 1)).map fun j => L.getD (lfL L j) 0).reverse = tL L := by
  unfold tL
  refine List.ext_getElem (by simp) fun i h1 h2 => ?_
  simp only [List.getElem_reverse, List.getElem_map, List.getElem_range, List.length_map, List.length_range]
  rw [show L.length - 1 - 1 - i = L.length - 2 - i by omega]
theorem flat34 {f : Nat → Nat} : ∀ l : List Nat, (l.map fun j => [f j]).flatten = l.map f
  | [] => rfl
  | x :: l => by rw [List.map_cons, List.flatten_cons, flat34 l]; rfl
theorem th_get {L : T} {i c : Nat} (h : L[i]? = some c) : thL L i = (L.filter fun y => decide (y < c)).length + (L.take i).count c := by
  unfold thL
  rw [List.getD_eq_getElem?_getD, h]
  rfl
theorem at_n34 {α : Type} {l : List α} {i : Nat} {x : α} (h : l[i]? = some x) : atI l (i : Int) = some x := by
  have hi : i < l.length := (List.getElem?_eq_some_iff.mp h).1
  have h0 : okL (atI l (i : Int)) fun y => y = x := by
    refine okL_at (by omega) (by omega) fun y hy => ?_
    rw [Int.toNat_natCast, h] at hy
    exact (Option.some.inj hy).symm
  cases e : atI l (i : Int) with
  | none => rw [e] at h0; exact h0.elim
  | some y => rw [e] at h0; rw [show y = x from h0]
theorem lback_ok {L : T} {k : Out → Prop} (hl : L.length ≤ 5000) (hc : ∀ c ∈ L, c < 128) (hL : ∀ c ∈ L, 46 ≤ c) (h : ∀ d, dueB L d → k (.ret false d [.str (tx L)])) : okO (phi_lback [.str (tx L)]) k := by
  unfold phi_lback b_lback
  walk_at "goi"
  refine okL_of (count_any (c := 46) (by omega)) ?_
  by_cases h1 : L.count 46 = 1
  · rw [h1]
    have h0 : 0 < L.length := List.length_pos_iff.mpr fun z => by rw [z] at h1; cases h1
    walk_at "goi"
    refine okL_of enum_tx ?_
    walk_at "goi"
    refine os_ix (fun i en => en = [.v (.str (tx L)), .o false (.lst ((List.range i).map fun r => D.int (thL L r : Nat))), .e, .e, .e, .e, .e]) rfl ?_ ?_
    · rintro i d hd en rfl
      obtain ⟨x, hx, rfl⟩ := enumL_get hd
      rw [List.getElem?_map] at hx
      obtain ⟨c, hcx, rfl⟩ := Option.map_eq_some_iff.mp hx
      have hil := (List.getElem?_eq_some_iff.mp hcx).1
      have hc128 := hc c (List.mem_of_getElem? hcx)
      have hrm : ((List.range i).map fun r => D.int (thL L r : Nat)).length = i := by simp
      walk_at "goi"
      refine ok_lcX (fun j acc en => acc = ((L.take j).filter fun y => decide (y < c)).map (fun y => D.str (tx [y])) ∧ en = [.v (.str (tx L)), .o false (.lst ((List.range i).map fun r => D.int (thL L r : Nat))), .v (.int (i : Nat)), .v (.str (tx [c])), .e, .e, .e]) ⟨rfl, rfl⟩ (by rw [List.length_map]; omega) ?_ ?_
      · rintro q d hq acc en hai ⟨rfl, rfl⟩
        rw [List.getElem?_map] at hq
        obtain ⟨y, hy, rfl⟩ := Option.map_eq_some_iff.mp hq
        have etk : L.take (q + 1) = L.take q ++ [y] := by rw [List.take_succ, hy]; rfl
        rw [etk, List.filter_append, List.map_append]
        walk_at "goi"
        refine bj_mk (fun h2 => ?_) (fun h2 => ?_)
        · have ef : [y].filter (fun z => decide (z < c)) = [y] := by simp [sg_lt.mp h2]
          rw [ef]
          walk_at "goi"
          rfl
        · have ef : [y].filter (fun z => decide (z < c)) = [] := by
            have : ¬ y < c := fun z => h2 (sg_lt.mpr z)
            simp [this]
          rw [ef]
          walk_at "goi"
          simp
      rintro acc en hlen ⟨rfl, rfl⟩
      rw [List.length_map, List.take_length]
      have hfl : ((L.filter fun y => decide (y < c)).map fun y => D.str (tx [y])).length = (L.filter fun y => decide (y < c)).length := List.length_map _
      walk_at "goi"
      rw [cut_to (by omega), Int.toNat_natCast]
      refine okL_of (count_any (by omega)) ?_
      walk_at "goi"
      rw [hfl]
      have e := th_get hcx
      rw [List.range_succ, List.map_append, List.map_singleton, e]
      rfl
    · rintro en rfl
      have hel : (enumL (L.map fun c => D.str (tx [c]))).length = L.length := by simp [enumL]
      rw [hel]
      walk_at "goi"
      refine os_ix (fun i en => (∀ j, 1 ≤ j → j ≤ i → lfL L j ≠ 0) ∧ en = [.v (.str (tx L)), .o false (.lst ((List.range L.length).map fun r => D.int (thL L r : Nat))), .v (.int (lfL L i : Nat)), .e, .o false (.lst (((List.range i).map fun j => [L.getD (lfL L j) 0]).map dtx)), .e, .e]) ⟨fun j h1 h2 => by omega, rfl⟩ ?_ ?_
      · rintro i d hd en ⟨hno, rfl⟩
        obtain ⟨rfl, hlt⟩ := upL_get hd
        have hll := lf_lt h0 i
        walk_at "goi"
        refine okL_of (at_n34 (show L[lfL L i]? = some (L.getD (lfL L i) 0) by rw [List.getD_eq_getElem?_getD, List.getElem?_eq_getElem hll]; rfl)) ?_
        walk_at "goi"
        refine And.intro (by rw [List.length_map, List.length_map, List.length_range]; omega) ?_
        refine okL_of (at_n34 (x := D.int (thL L (lfL L i) : Nat)) (by rw [List.getElem?_map, List.getElem?_range hll]; rfl)) ?_
        walk_at "goi"
        have hi1 : i + 1 < L.length := by omega
        refine bj_mk (fun h2 => ?_) (fun h2 => ?_)
        · walk_at "goi"
          refine h _ (.inr ⟨fun z => z.2 (i + 1) (by omega) hi1 ?_, rfl⟩)
          show thL L (lfL L i) = 0
          omega
        · walk_at "goi"
          refine ⟨fun j g1 g2 => ?_, ?_⟩
          · by_cases e : j = i + 1
            · rw [e]
              show thL L (lfL L i) ≠ 0
              omega
            · exact hno j g1 (by omega)
          · rw [List.range_succ, List.map_append, List.map_append]
            rfl
      · rintro en ⟨hno, rfl⟩
        have en : ((L.length : Int) - 1).toNat = L.length - 1 := by omega
        rw [upL_len, en] at hno ⊢
        have hO : ∀ j, 1 ≤ j → j < L.length → lfL L j ≠ 0 := fun j g1 g2 => hno j g1 (by omega)
        have hpi := pi_lf hO h0 (i := 0) h0
        unfold prv at hpi
        rw [if_pos rfl, show lfL L 0 = 0 from rfl] at hpi
        have hf := f_zero h0 h1 hL
        unfold FL at hf
        rw [hpi] at hf
        have hll := lf_lt h0 (L.length - 1)
        have hLo : okT L := fun c z => by have := hc c z; omega
        walk_at "goi"
        refine okL_of (at_n34 (x := 46) (by rw [List.getElem?_eq_getElem hll, ← hf, List.getD_eq_getElem?_getD, List.getElem?_eq_getElem hll]; rfl)) ?_
        walk_at "goi"
        refine okL_of (join_txs (by
          intro x hx
          obtain ⟨p, _, rfl⟩ := List.mem_map.mp hx
          rfl) (by rw [List.length_map, List.length_range]; omega)) ?_
        rw [flat34]
        walk_at "goi"
        refine okL_of (revL_tx (by rw [List.length_map, List.length_range]; omega)) ?_
        rw [tL_rev]
        walk_at "goi"
        exact h _ (.inl ⟨⟨h1, hO⟩, rfl⟩)
  · walk_at "goi"
    exact h _ (.inr ⟨fun z => h1 z.1, rfl⟩)
end PyD.S

end

namespace PyD.S
open PySem PySem.Spec L2
end PyD.S

section
set_option maxHeartbeats 2000000
namespace PyD.S
open PySem PySem.Spec L2 PyD.S
local macro_rules | `(tactic| walk_at "ev") => `(tactic| walk_at "kfe4a18ee")
local macro_rules | `(tactic| walk_at "evi") => `(tactic| walk_at "k43f82015")
local macro_rules | `(tactic| walk_at "eva") => `(tactic| walk_at "k1434cd53")
local macro_rules | `(tactic| walk_at "sd") => `(tactic| repeat (refine And.intro (by first | omega | assumption | exact rfl) ?_))
local macro_rules | `(tactic| walk_at "sc") => `(tactic| first | assumption | omega | exact rfl | exact mulOk_r (by omega) (by omega) | exact mulOk_l (by omega) (by omega) | exact log_ok (by omega) (by omega) | (simp only [List.length_append, List.length_cons, List.length_nil, List.length_take, List.length_drop, List.length_map, List.length_replicate, upL_len]; omega) | (refine And.intro ?_ ?_ <;> walk_at "sc") | decide)
set_option hygiene false in
local macro_rules | `(tactic| walk_at "lm") => `(tactic| first
  | ((with_reducible refine take_ok ?_ ?_ ?_ fun p r hp hr0 hr1 => ?_); (focus assumption); (focus omega); (focus omega))
  | ((with_reducible refine pick_ok ?_ ?_ ?_ fun p r hp hr0 hr1 => ?_); (focus assumption); (focus omega); (focus omega))
  | ((with_reducible refine pick2_ok ?_ ?_ ?_ fun p r hp hr0 hr1 => ?_); (focus assumption); (focus omega); (focus omega))
  | ((with_reducible refine letter_ok ?_ ?_ ?_ fun p c hp hc => ?_); (focus assumption); (focus omega); (focus omega))
  | ((with_reducible refine signs_ok ?_ ?_ ?_ ?_ ?_ fun p l hp hl hc => ?_); (focus assumption); (focus omega); (focus omega); (focus omega); (focus omega))
  | ((with_reducible refine text_ok ?_ ?_ ?_ fun p l hp hl hc => ?_); (focus assumption); (focus omega); (focus omega))
  | ((with_reducible refine rtext_ok ?_ ?_ ?_ fun p l hp hl hc => ?_); (focus assumption); (focus omega); (focus omega))
  | ((with_reducible refine rtext2_ok ?_ ?_ ?_ fun p l hp hl hc => ?_); (focus assumption); (focus omega); (focus omega))
  | (with_reducible refine whole_ok ?_))
local macro_rules | `(tactic| walk_at "ok") => `(tactic| first | assumption | exact okT_nil | exact Lts.ok (by assumption) | decide)
local macro_rules | `(tactic| walk_at "g0") => `(tactic| first
  | ((with_reducible refine And.intro ?_ ?_); (focus walk_at "sc"))
  | walk_at "lm"
  | ((with_reducible refine okL_eqtx ?_ ?_ ?_); (focus walk_at "ok"); (focus walk_at "ok"))
  | ((with_reducible refine bj_t ?_ ?_); (focus (first | with_reducible rfl | omega)))
  | ((with_reducible refine bj_f ?_ ?_); (focus omega)))
local macro_rules | `(tactic| walk_at "g1") => `(tactic| first
  | walk_at "ev"
  | walk_at "g0")
local macro_rules | `(tactic| walk_at "g2") => `(tactic| first
  | walk_at "evi"
  | walk_at "g0")
local macro_rules | `(tactic| walk_at "go") => `(tactic| repeat walk_at "g1")
local macro_rules | `(tactic| walk_at "goi") => `(tactic| repeat walk_at "g2")
local macro_rules | `(tactic| walk_at "goa") => `(tactic| repeat first | walk_at "eva" | walk_at "g0")
theorem turned_one {l : T} (hc : ∀ c ∈ l, 46 < c) : (turnedL l).count 46 = 1 := by
  rw [(turned_perm l).count_eq]
  unfold wh
  rw [List.count_append, List.count_eq_zero.mpr fun z => by have := hc _ z; omega]
  rfl
end PyD.S

end

section
set_option maxHeartbeats 4000000
namespace PyD.S
open PySem PySem.Spec L2 PyD.S
local macro_rules | `(tactic| walk_at "ev") => `(tactic| walk_at "k1e8a8d14")
local macro_rules | `(tactic| walk_at "evi") => `(tactic| walk_at "kc479338b")
local macro_rules | `(tactic| walk_at "eva") => `(tactic| walk_at "k79db6771")
local macro_rules | `(tactic| walk_at "sd") => `(tactic| repeat (refine And.intro (by first | omega | assumption | exact rfl) ?_))
local macro_rules | `(tactic| walk_at "sc") => `(tactic| first | assumption | omega | exact rfl | exact mulOk_r (by omega) (by omega) | exact mulOk_l (by omega) (by omega) | exact log_ok (by omega) (by omega) | (simp only [List.length_append, List.length_cons, List.length_nil, List.length_take, List.length_drop, List.length_map, List.length_replicate, upL_len]; omega) | (refine And.intro ?_ ?_ <;> walk_at "sc") | decide)
set_option hygiene false in
local macro_rules | `(tactic| walk_at "lm") => `(tactic| first
  | ((with_reducible refine take_ok ?_ ?_ ?_ fun p r hp hr0 hr1 => ?_); (focus assumption); (focus omega); (focus omega))
  | ((with_reducible refine pick_ok ?_ ?_ ?_ fun p r hp hr0 hr1 => ?_); (focus assumption); (focus omega); (focus omega))
  | ((with_reducible refine pick2_ok ?_ ?_ ?_ fun p r hp hr0 hr1 => ?_); (focus assumption); (focus omega); (focus omega))
  | ((with_reducible refine letter_ok ?_ ?_ ?_ fun p c hp hc => ?_); (focus assumption); (focus omega); (focus omega))
  | ((with_reducible refine signs_ok ?_ ?_ ?_ ?_ ?_ fun p l hp hl hc => ?_); (focus assumption); (focus omega); (focus omega); (focus omega); (focus omega))
  | ((with_reducible refine text_ok ?_ ?_ ?_ fun p l hp hl hc => ?_); (focus assumption); (focus omega); (focus omega))
  | ((with_reducible refine rtext_ok ?_ ?_ ?_ fun p l hp hl hc => ?_); (focus assumption); (focus omega); (focus omega))
  | ((with_reducible refine rtext2_ok ?_ ?_ ?_ fun p l hp hl hc => ?_); (focus assumption); (focus omega); (focus omega))
  | (with_reducible refine whole_ok ?_))
local macro_rules | `(tactic| walk_at "ok") => `(tactic| first | assumption | exact okT_nil | exact Lts.ok (by assumption) | decide)
local macro_rules | `(tactic| walk_at "g0") => `(tactic| first
  | ((with_reducible refine And.intro ?_ ?_); (focus walk_at "sc"))
  | walk_at "lm"
  | ((with_reducible refine okL_eqtx ?_ ?_ ?_); (focus walk_at "ok"); (focus walk_at "ok"))
  | ((with_reducible refine bj_t ?_ ?_); (focus (first | with_reducible rfl | omega)))
  | ((with_reducible refine bj_f ?_ ?_); (focus omega)))
local macro_rules | `(tactic| walk_at "g1") => `(tactic| first
  | walk_at "ev"
  | walk_at "g0")
local macro_rules | `(tactic| walk_at "g2") => `(tactic| first
  | walk_at "evi"
  | walk_at "g0")
local macro_rules | `(tactic| walk_at "go") => `(tactic| repeat walk_at "g1")
local macro_rules | `(tactic| walk_at "goi") => `(tactic| repeat walk_at "g2")
local macro_rules | `(tactic| walk_at "goa") => `(tactic| repeat first | walk_at "eva" | walk_at "g0")
def dueX (L : T) (o : Out) : Prop := (Ring L ∧ o = .ret false (.str (tx (tL L))) [.str (tx L)]) ∨ (¬ Ring L ∧ o = .exc ⟨.noturned, none⟩ [.str (tx L)])
theorem pT_len (L : T) : (pT L).length = L.length - 1 := by simp [pT]
theorem pT_take {L : T} {t : Nat} (h : t < L.length - 1) : (pT L).take (t + 1) = (pT L).take t ++ [FL L (piI L (t + 1))] := by
  rw [List.take_succ]
  unfold pT
  rw [List.getElem?_map, List.getElem?_range h]
  rfl
theorem tback34_ok {L : T} {k : Out → Prop} (hl : L.length ≤ 5000) (hc : ∀ c ∈ L, c < 128) (hL : ∀ c ∈ L, 46 ≤ c) (h : ∀ o, dueX L o → k o) : okO (phi_turned_back_v2 [.str (tx L)]) k := by
  unfold phi_turned_back_v2 b_turned_back_v2
  walk_at "goi"
  refine okL_of (count_any (c := 46) (by omega)) ?_
  by_cases h1 : L.count 46 = 1
  case neg =>
    walk_at "goi"
    exact h _ (.inr ⟨fun z => h1 z.1, rfl⟩)
  rw [h1]
  have h0 : 0 < L.length := List.length_pos_iff.mpr fun z => by rw [z] at h1; cases h1
  have hLo : okT L := fun c z => by have := hc c z; omega
  walk_at "goi"
  refine okL_of enum_tx ?_
  walk_at "goi"
  refine ok_lcY (fun acc en => acc = ((enT L).take acc.length).map dP ∧ en = [.v (.str (tx L)), .e, .e, .e, .e, .e, .e]) ⟨rfl, rfl⟩ ?_ ?_ ?_
  · simp [enumL]; omega
  · rintro i d hd acc en hi ⟨ha, rfl⟩
    obtain ⟨x, hx, rfl⟩ := enumL_get hd
    rw [List.getElem?_map] at hx
    obtain ⟨c, hcx, rfl⟩ := Option.map_eq_some_iff.mp hx
    subst hi
    walk_at "goi"
    have e1 : (enT L)[acc.length]? = some ([c], acc.length) := by
      unfold enT
      rw [List.getElem?_map, List.getElem?_range (List.getElem?_eq_some_iff.mp hcx).1, Option.map_some, List.getD_eq_getElem?_getD, hcx]
      rfl
    rw [List.length_append, List.length_singleton, List.take_succ, e1, List.map_append, ← ha]
    rfl
  rintro acc en hlen ⟨ha, rfl⟩
  have hel : (enumL (L.map fun c => D.str (tx [c]))).length = (enT L).length := by simp [enumL, enT]
  rw [hlen, hel, List.take_length] at ha
  subst ha
  walk_at "ev"
  rw [sortU_dP]
  have hg := fun k (hk : k < L.length) => sl_get hk
  have hSl : (SL L).length = L.length := sl_len L
  rw [show (enT L).mergeSort leP = SL L from rfl]
  generalize SL L = S at hg hSl
  have hSm : (S.map dP).length = S.length := List.length_map _
  have hat : ∀ (i : Nat) (p : T × Nat), S[i]? = some p → atI (S.map dP) (i : Int) = some (dP p) := fun i p e => by
    have := (List.getElem?_eq_some_iff.mp e).1
    unfold atI
    rw [ixN_at (by omega) (by omega)]
    simp only [Option.bind_some]
    rw [Int.toNat_natCast, List.getElem?_map, e]
    rfl
  have hpl := fun j => piI_lt h0 j
  walk_at "goi"
  refine okL_of (hat 0 _ (hg 0 h0).1) ?_
  rw [show dP ([FL L 0], piL L 0) = .tup [.str (tx [FL L 0]), .int (piI L 1 : Nat)] from rfl]
  walk_at "goi"
  refine os_ix (fun t en => en = [.v (.str (tx L)), .v (.lst (S.map dP)), .o false (.lst ((((pT L).take t).map fun c => [c]).map dtx)), .v (.int (piI L (t + 1) : Nat)), .e, .e, .e]) rfl ?_ ?_
  · rintro t d hd en rfl
    obtain ⟨rfl, hlt2⟩ := upL_get hd
    walk_at "goi"
    refine okL_of (hat _ _ (hg _ (hpl (t + 1))).1) ?_
    rw [show dP ([FL L (piI L (t + 1))], piL L (piI L (t + 1))) = .tup [.str (tx [FL L (piI L (t + 1))]), .int (piI L (t + 1 + 1) : Nat)] from rfl]
    walk_at "goi"
    rw [pT_take (by omega), List.map_append, List.map_append]
    rfl
  rintro en rfl
  rw [upL_len, show ((((L.length) : Nat) : Int) - 1).toNat = (pT L).length by rw [pT_len]; omega, List.take_length]
  have hpo : okT (pT L) := fun c hm => by
    obtain ⟨j, _, rfl⟩ := List.mem_map.mp hm
    exact hLo _ (fL_mem (hpl _))
  have hpn := pT_len L
  have hbi := back_iff h0 h1 hL
  have hpr : Ring L → pT L = tL L := fun z => pT_ring h0 z.2
  generalize pT L = p at hpo hpn hbi hpr
  walk_at "ev"
  rw [join_txs (by
    intro x hx
    obtain ⟨p, _, rfl⟩ := List.mem_map.mp hx
    rfl) (by rw [List.length_map]; omega), flat1]
  walk_at "goi"
  refine okL_of in_sign ?_
  by_cases hp : 46 ∈ p
  · rw [decide_eq_true hp]
    walk_at "goi"
    exact h _ (.inr ⟨fun z => (hbi.mpr z.2).1 hp, rfl⟩)
  rw [decide_eq_false hp]
  walk_at "goi"
  refine turned_ok (by omega) ?_
  walk_at "goi"
  refine okL_eqtx (turned_okT hpo) hLo ?_
  by_cases ht : turnedL p = L
  · have hr : Ring L := ⟨h1, hbi.mp ⟨hp, ht⟩⟩
    rw [decide_eq_true ht]
    walk_at "goi"
    rw [hpr hr]
    exact h _ (.inl ⟨hr, rfl⟩)
  · rw [decide_eq_false ht]
    walk_at "goi"
    exact h _ (.inr ⟨fun z => ht (hbi.mpr z.2).2, rfl⟩)
end PyD.S

end

section
set_option maxHeartbeats 4000000
namespace PyD.S
open PySem PySem.Spec L2 PyD.S
local macro_rules | `(tactic| walk_at "ev") => `(tactic| walk_at "k1e8a8d14")
local macro_rules | `(tactic| walk_at "evi") => `(tactic| walk_at "kc479338b")
local macro_rules | `(tactic| walk_at "eva") => `(tactic| walk_at "k79db6771")
local macro_rules | `(tactic| walk_at "sd") => `(tactic| repeat (refine And.intro (by first | omega | assumption | exact rfl) ?_))
local macro_rules | `(tactic| walk_at "sc") => `(tactic| first | assumption | omega | exact rfl | exact mulOk_r (by omega) (by omega) | exact mulOk_l (by omega) (by omega) | exact log_ok (by omega) (by omega) | (simp only [List.length_append, List.length_cons, List.length_nil, List.length_take, List.length_drop, List.length_map, List.length_replicate, upL_len]; omega) | (refine And.intro ?_ ?_ <;> walk_at "sc") | decide)
set_option hygiene false in
local macro_rules | `(tactic| walk_at "lm") => `(tactic| first
  | ((with_reducible refine take_ok ?_ ?_ ?_ fun p r hp hr0 hr1 => ?_); (focus assumption); (focus omega); (focus omega))
  | ((with_reducible refine pick_ok ?_ ?_ ?_ fun p r hp hr0 hr1 => ?_); (focus assumption); (focus omega); (focus omega))
  | ((with_reducible refine pick2_ok ?_ ?_ ?_ fun p r hp hr0 hr1 => ?_); (focus assumption); (focus omega); (focus omega))
  | ((with_reducible refine letter_ok ?_ ?_ ?_ fun p c hp hc => ?_); (focus assumption); (focus omega); (focus omega))
  | ((with_reducible refine signs_ok ?_ ?_ ?_ ?_ ?_ fun p l hp hl hc => ?_); (focus assumption); (focus omega); (focus omega); (focus omega); (focus omega))
  | ((with_reducible refine text_ok ?_ ?_ ?_ fun p l hp hl hc => ?_); (focus assumption); (focus omega); (focus omega))
  | ((with_reducible refine rtext_ok ?_ ?_ ?_ fun p l hp hl hc => ?_); (focus assumption); (focus omega); (focus omega))
  | ((with_reducible refine rtext2_ok ?_ ?_ ?_ fun p l hp hl hc => ?_); (focus assumption); (focus omega); (focus omega))
  | (with_reducible refine whole_ok ?_))
local macro_rules | `(tactic| walk_at "ok") => `(tactic| first | assumption | exact okT_nil | exact Lts.ok (by assumption) | decide)
local macro_rules | `(tactic| walk_at "g0") => `(tactic| first
  | ((with_reducible refine And.intro ?_ ?_); (focus walk_at "sc"))
  | walk_at "lm"
  | ((with_reducible refine okL_eqtx ?_ ?_ ?_); (focus walk_at "ok"); (focus walk_at "ok"))
  | ((with_reducible refine bj_t ?_ ?_); (focus (first | with_reducible rfl | omega)))
  | ((with_reducible refine bj_f ?_ ?_); (focus omega)))
local macro_rules | `(tactic| walk_at "g1") => `(tactic| first
  | walk_at "ev"
  | walk_at "g0")
local macro_rules | `(tactic| walk_at "g2") => `(tactic| first
  | walk_at "evi"
  | walk_at "g0")
local macro_rules | `(tactic| walk_at "go") => `(tactic| repeat walk_at "g1")
local macro_rules | `(tactic| walk_at "goi") => `(tactic| repeat walk_at "g2")
local macro_rules | `(tactic| walk_at "goa") => `(tactic| repeat first | walk_at "eva" | walk_at "g0")
def T46 (L : T) : Prop := L.length ≤ 5000 ∧ ∀ c ∈ L, 46 ≤ c ∧ c < 128
theorem lright34_ok {L : T} {k : Out → Prop} (hT : T46 L) (h : k (.ret false (.bl true) [.str (tx L)])) : okO (phi_lright_v11 [.str (tx L)]) k := by
  obtain ⟨hl, hc⟩ := hT
  have hLo : okT (tL L) := fun c z => by
    obtain ⟨j, hj, rfl⟩ := List.mem_map.mp z
    have hj := List.mem_range.mp hj
    have := lf_lt (L := L) (by omega) (L.length - 2 - j)
    have := (hc (L.getD (lfL L (L.length - 2 - j)) 0) (by rw [List.getD_eq_getElem?_getD, List.getElem?_eq_getElem this]; exact List.getElem_mem _)).2
    omega
  unfold phi_lright_v11 b_lright_v11
  walk_at "goi"
  refine lback_ok hl (fun c z => (hc c z).2) (fun c z => (hc c z).1) ?_
  rintro d hd
  rcases hd with ⟨hr, rfl⟩ | ⟨hr, rfl⟩
  · walk_at "goi"
    refine tback34_ok hl (fun c z => (hc c z).2) (fun c z => (hc c z).1) ?_
    rintro o (⟨_, rfl⟩ | ⟨z, _⟩)
    · walk_at "goi"
      exact h
    · exact (z hr).elim
  · walk_at "goi"
    refine tback34_ok hl (fun c z => (hc c z).2) (fun c z => (hc c z).1) ?_
    rintro o (⟨z, _⟩ | ⟨_, rfl⟩)
    · exact (hr z).elim
    · walk_at "goi"
      exact h
end PyD.S

end

section
set_option maxHeartbeats 4000000
namespace PyD.S
open PySem PySem.Spec L2 PyD.S
local macro_rules | `(tactic| walk_at "ev") => `(tactic| walk_at "k33569854")
local macro_rules | `(tactic| walk_at "evi") => `(tactic| walk_at "k2b729343")
local macro_rules | `(tactic| walk_at "eva") => `(tactic| walk_at "ka2c0ebbf")
local macro_rules | `(tactic| walk_at "sd") => `(tactic| repeat (refine And.intro (by first | omega | assumption | exact rfl) ?_))
local macro_rules | `(tactic| walk_at "sc") => `(tactic| first | assumption | omega | exact rfl | exact mulOk_r (by omega) (by omega) | exact mulOk_l (by omega) (by omega) | exact log_ok (by omega) (by omega) | (simp only [List.length_append, List.length_cons, List.length_nil, List.length_take, List.length_drop, List.length_map, List.length_replicate, upL_len]; omega) | (refine And.intro ?_ ?_ <;> walk_at "sc") | decide)
set_option hygiene false in
local macro_rules | `(tactic| walk_at "lm") => `(tactic| first
  | ((with_reducible refine take_ok ?_ ?_ ?_ fun p r hp hr0 hr1 => ?_); (focus assumption); (focus omega); (focus omega))
  | ((with_reducible refine pick_ok ?_ ?_ ?_ fun p r hp hr0 hr1 => ?_); (focus assumption); (focus omega); (focus omega))
  | ((with_reducible refine pick2_ok ?_ ?_ ?_ fun p r hp hr0 hr1 => ?_); (focus assumption); (focus omega); (focus omega))
  | ((with_reducible refine letter_ok ?_ ?_ ?_ fun p c hp hc => ?_); (focus assumption); (focus omega); (focus omega))
  | ((with_reducible refine signs_ok ?_ ?_ ?_ ?_ ?_ fun p l hp hl hc => ?_); (focus assumption); (focus omega); (focus omega); (focus omega); (focus omega))
  | ((with_reducible refine text_ok ?_ ?_ ?_ fun p l hp hl hc => ?_); (focus assumption); (focus omega); (focus omega))
  | ((with_reducible refine rtext_ok ?_ ?_ ?_ fun p l hp hl hc => ?_); (focus assumption); (focus omega); (focus omega))
  | ((with_reducible refine rtext2_ok ?_ ?_ ?_ fun p l hp hl hc => ?_); (focus assumption); (focus omega); (focus omega))
  | (with_reducible refine whole_ok ?_))
local macro_rules | `(tactic| walk_at "ok") => `(tactic| first | assumption | exact okT_nil | exact Lts.ok (by assumption) | decide)
local macro_rules | `(tactic| walk_at "g0") => `(tactic| first
  | ((with_reducible refine And.intro ?_ ?_); (focus walk_at "sc"))
  | walk_at "lm"
  | ((with_reducible refine okL_eqtx ?_ ?_ ?_); (focus walk_at "ok"); (focus walk_at "ok"))
  | ((with_reducible refine bj_t ?_ ?_); (focus (first | with_reducible rfl | omega)))
  | ((with_reducible refine bj_f ?_ ?_); (focus omega)))
local macro_rules | `(tactic| walk_at "g1") => `(tactic| first
  | walk_at "ev"
  | walk_at "g0")
local macro_rules | `(tactic| walk_at "g2") => `(tactic| first
  | walk_at "evi"
  | walk_at "g0")
local macro_rules | `(tactic| walk_at "go") => `(tactic| repeat walk_at "g1")
local macro_rules | `(tactic| walk_at "goi") => `(tactic| repeat walk_at "g2")
local macro_rules | `(tactic| walk_at "goa") => `(tactic| repeat first | walk_at "eva" | walk_at "g0")
def Reel2 (d : D) : Prop := ∃ (i : Int) (f : Bool), d = .lst [.int i, .bl f]
theorem pick2_ok {p : D} {m : Int} {k : Out → Prop} (hp : Reel2 p) (hm : 0 < m) (hm2 : m ≤ 1000000000) (h : ∀ p' r, Reel2 p' → 0 ≤ r → r < m → k (.ret false (.int r) [p', .int m])) : okO (phi_lpick [p, .int m]) k := by
  obtain ⟨i, f, rfl⟩ := hp
  unfold phi_lpick b_lpick
  walk_at "ev"
  refine ⟨hm, ⟨hm, log_ok hm (by omega)⟩, ?_⟩
  exact h _ _ ⟨_, _, rfl⟩ (Int.emod_nonneg _ (by omega)) (Int.emod_lt_of_pos _ hm)
theorem reel2_ok {ns : List Int} {j : Int} {k : Out → Prop} (h0 : 0 ≤ j) (h1 : j ≤ 1000) (h : ∀ p, Reel2 p → k (.ret true p [.scr ns, .int j])) : okO (phi_lreel_v2 [.scr ns, .int j]) k := by
  unfold phi_lreel_v2 b_lreel_v2
  walk_at "go"
  refine os_cut (fun en => ∃ i, en = [.v (.scr ns), .v (.int j), .v (.int i), .e, .e, .e]) ?_ ?_
  · walk_at "evi"
    refine bj_mk (fun hl => ?_) (fun hl => ?_)
    · walk_at "ev"
      refine okL_at h0 hl fun x hx => ?_
      walk_at "ev"
      exact ⟨_, rfl⟩
    · walk_at "ev"
      exact ⟨_, rfl⟩
  · rintro en ⟨i, rfl⟩
    walk_at "goi"
    refine bj_mk (fun hl => ?_) (fun hl => ?_)
    · walk_at "go"
      exact h _ ⟨_, _, rfl⟩
    · walk_at "go"
      generalize hst : (_ : Int) % 2147483423 = st
      have hst : 0 ≤ st ∧ st < 2147483423 := by omega
      refine os_ix (fun _ en => ∃ st f, (0 ≤ st ∧ st < 2147483423) ∧ en = [.v (.scr ns), .v (.int j), .e, .v (.int st), .v (.int f), .e]) ⟨_, _, hst, rfl⟩ ?_ ?_
      · rintro t d hd en ⟨st, f, hst, rfl⟩
        obtain ⟨rfl, hlt⟩ := upL_get hd
        walk_at "go"
        exact ⟨_, _, ⟨Int.emod_nonneg (st * st + 70001 * st + 31 * (0 + (t : Int)) + 9) (by omega), Int.emod_lt_of_pos _ (by omega)⟩, rfl⟩
      · rintro en ⟨st, f, hst, rfl⟩
        walk_at "go"
        exact h _ ⟨_, _, rfl⟩
theorem rtext2_ok {p : D} {m : Int} {k : Out → Prop} (hp : Reel2 p) (hm : 0 ≤ m) (hm2 : m ≤ 900) (h : ∀ p' l, Reel2 p' → (l.length : Int) ≤ m → Lts l → k (.ret false (.str (tx l)) [p', .int m])) : okO (phi_ltext_v3 [p, .int m]) k := by
  unfold phi_ltext_v3 b_ltext_v3
  walk_at "go"
  refine okL_atMem hr0 (by simpa using hr1) fun x hx => ?_
  obtain ⟨ls, rfl, hls, hln, hlm⟩ : ∃ ls, x = .str (tx ls) ∧ Lts ls ∧ ls ≠ [] ∧ ls.length ≤ 26 := by
    simp only [List.mem_cons, List.not_mem_nil, or_false] at hx
    rcases hx with rfl | rfl | rfl | rfl <;> exact ⟨_, rfl, by decide, by simp, by decide⟩
  clear hx
  have hlp : 0 < ls.length := List.length_pos_iff.mpr hln
  walk_at "ev"
  refine os_cut (fun en => ∃ ls, en = [.o true p, .v (.int m), .v (.str (tx ls)), .e, .e, .e, .e, .e, .e, .e, .e] ∧ Lts ls ∧ 0 < ls.length ∧ ls.length ≤ 26) ?_ ?_
  · obtain ⟨i, f, rfl⟩ := hp
    walk_at "evi"
    refine bi_mk (fun h1 => ?_) (fun h1 => ?_)
    · walk_at "go"
      exact ⟨_, rfl, by decide, by decide, by decide⟩
    · walk_at "go"
      exact ⟨ls, rfl, hls, hlp, hlm⟩
  clear hls hln hlm hlp ls
  rintro en ⟨ls, rfl, hls⟩
  obtain ⟨hls, hlp, hlm⟩ := hls
  walk_at "ev"
  refine pick2_ok hp (by omega) (by omega) fun p many hp hm0 hm1 => ?_
  walk_at "ev"
  refine pick2_ok hp (by omega) (by omega) fun p way hp hw0 hw1 => ?_
  walk_at "go"
  refine ok_lcY (fun acc en => ∃ p' us, Reel2 p' ∧ acc = us.map dtx ∧ (∀ l ∈ us, ∃ c, l = [c] ∧ Lt c) ∧ en = [.o true p', .v (.int m), .v (.str (tx ls)), .v (.int many), .v (.int way), .e, .e, .e, .e, .e, .e]) ⟨p, [], hp, rfl, by simp, rfl⟩ (by rw [upL_len]; omega) ?_ ?_
  · rintro i d - acc en - ⟨p', us, hp', rfl, hl, rfl⟩
    walk_at "go"
    refine okL_atMem (by omega) (by omega) fun c hc => ?_
    walk_at "ev"
    refine ⟨p, us ++ [[c]], hp, by simp [dtx], ?_, rfl⟩
    intro l hl'
    rcases List.mem_append.mp hl' with z | z
    · exact hl l z
    · exact ⟨c, by simpa using z, hls c hc⟩
  rintro acc en hlen ⟨p, us, hp, rfl, hus, rfl⟩
  have h1 : ∀ l ∈ us, l.length = 1 := fun l z => by obtain ⟨c, rfl, _⟩ := hus l z; rfl
  have hlen : us.length = (1 + r).toNat := by rw [upL_len] at hlen; simpa using hlen
  walk_at "go"
  rw [join_txs h1 (by omega)]
  have hc : Lts us.flatten := by
    intro c hc
    obtain ⟨l, h2, h3⟩ := List.mem_flatten.mp hc
    obtain ⟨c', rfl, h4⟩ := hus l h2
    rw [List.mem_singleton.mp h3]
    exact h4
  have hl : us.flatten.length = us.length := by rw [List.length_flatten, sum_ones h1]
  revert hc hl
  generalize us.flatten = l
  intro hc hl
  walk_at "go"
  refine os_cut (fun en => ∃ l, en = [.o true p, .v (.int m), .v (.str (tx ls)), .v (.int many), .v (.int way), .e, .v (.str (tx l)), .e, .e, .e, .e] ∧ Lts l ∧ 1 ≤ l.length ∧ l.length ≤ 5000) ?_ ?_
  · walk_at "evi"
    refine bj_mk (fun hw => ?_) (fun hw => ?_)
    · walk_at "go"
      rw [mul_tx, okL_if]
      walk_at "go"
      refine ⟨_, rfl, fun c hc' => ?_, ?_⟩
      · obtain ⟨a, ha, hb⟩ := List.mem_flatten.mp hc'
        rw [(List.mem_replicate.mp ha).2] at hb
        exact hc c hb
      · rw [rep_len]
        have h2 : 1 ≤ (m + 1).toNat := by omega
        have h3 : (m + 1).toNat * l.length ≤ 901 * 5 := Nat.mul_le_mul (by omega) (by omega)
        have h4 : 1 * 1 ≤ (m + 1).toNat * l.length := Nat.mul_le_mul h2 (by omega)
        omega
    · walk_at "go"
      exact ⟨l, rfl, hc, by omega, by omega⟩
  clear hl hc l
  rintro en ⟨l, rfl, hc, hl0, hl1⟩
  walk_at "ev"
  refine os_cut (fun en => ∃ l, en = [.o true p, .v (.int m), .v (.str (tx ls)), .v (.int many), .v (.int way), .e, .v (.str (tx l)), .e, .e, .e, .e] ∧ Lts l ∧ 1 ≤ l.length ∧ l.length ≤ 5000) ?_ ?_
  · walk_at "evi"
    refine bj_mk (fun hw => ?_) (fun hw => ?_)
    · walk_at "go"
      have hln : ls ≠ [] := fun z => by rw [z] at hlp; simp at hlp
      rw [at_last hln]
      obtain ⟨c, hcl⟩ : ∃ c, ls.getLast? = some c := by
        cases e : ls.getLast? with
        | none => exact absurd (List.getLast?_eq_none_iff.mp e) hln
        | some c => exact ⟨c, rfl⟩
      have hcc : Lt c := hls c (List.mem_of_getLast? hcl)
      rw [hcl]
      walk_at "go"
      refine os_while (fun z en => ∃ one other, z = (many - one.length).toNat ∧ en = [.o true p, .v (.int m), .v (.str (tx ls)), .v (.int many), .v (.int way), .e, .e, .v (.str (tx one)), .v (.str (tx other)), .e, .e] ∧ Lts one ∧ Lts other ∧ 1 ≤ other.length ∧ other.length ≤ one.length ∧ one.length ≤ 5000) 100000 _ _ (by omega) ⟨l, [c], rfl, rfl, hc, Lts.one hcc, by simp, by simpa using hl0, hl1⟩ ?_
      rintro z en ⟨one, other, rfl, rfl, h1, h2, h3, h4, h5⟩
      walk_at "go"
      refine bj_mk (fun hlt => ?_) (fun hlt => ?_)
      · walk_at "go"
        refine ⟨_, ?_, one ++ other, one, rfl, rfl, h1.app h2, h1, by omega, by simp, by simp only [List.length_append]; omega⟩
        simp only [List.length_append]
        omega
      · walk_at "go"
        exact ⟨one, rfl, h1, by omega, h5⟩
    · walk_at "go"
      exact ⟨l, rfl, hc, hl0, hl1⟩
  clear hl0 hl1 hc l
  rintro en ⟨l, rfl, hc, hl0, hl1⟩
  walk_at "ev"
  refine os_cut (fun en => ∃ p l, en = [.o true p, .v (.int m), .v (.str (tx ls)), .v (.int many), .v (.int way), .e, .v (.str (tx l)), .e, .e, .e, .e] ∧ Reel2 p ∧ Lts l ∧ 1 ≤ l.length ∧ l.length ≤ 5000) ?_ ?_
  · refine os_while (fun z en => ∃ p l, z = (many - l.length).toNat ∧ en = [.o true p, .v (.int m), .v (.str (tx ls)), .v (.int many), .v (.int way), .e, .v (.str (tx l)), .e, .e, .e, .e] ∧ Reel2 p ∧ Lts l ∧ 1 ≤ l.length ∧ l.length ≤ 5000) 100000 _ _ (by omega) ⟨p, l, rfl, rfl, hp, hc, hl0, hl1⟩ ?_
    clear hl0 hl1 hc l hp p
    rintro z en ⟨p, l, rfl, rfl, hp, hc, hl0, hl1⟩
    walk_at "go"
    refine bj_mk (fun hw => ?_) (fun hw => ?_)
    · walk_at "go"
      refine bj_mk (fun hlt => ?_) (fun hlt => ?_)
      · walk_at "ev"
        refine ⟨by omega, pick2_ok hp (by omega) (by omega) fun p a hp ha0 ha1 => ?_⟩
        walk_at "ev"
        refine pick2_ok hp (by omega) (by omega) fun p b hp hb0 hb1 => ?_
        walk_at "ev"
        rw [cut_mid (by omega) (by omega)]
        have hx : (List.drop a.toNat (List.take (a + 1 + b).toNat l)).length ≤ 6 := by
          rw [List.length_drop, List.length_take]
          omega
        walk_at "go"
        refine okL_atMem (by omega) (by omega) fun c hcm => ?_
        have hl3 : (l ++ List.drop a.toNat (List.take (a + 1 + b).toNat l) ++ [c]).length ≤ l.length + 7 ∧ l.length < (l ++ List.drop a.toNat (List.take (a + 1 + b).toNat l) ++ [c]).length := by
          simp only [List.length_append, List.length_singleton]
          omega
        walk_at "ev"
        refine ⟨by simp only [List.length_append, List.length_singleton] at hl3 ⊢; omega, _, ?_, p, _, rfl, rfl, hp, (hc.app ((hc.take _).drop _)).app (Lts.one (hls c hcm)), by omega, by omega⟩
        omega
      · walk_at "go"
        exact ⟨p, l, rfl, hp, hc, hl0, hl1⟩
    · walk_at "go"
      exact ⟨p, l, rfl, hp, hc, hl0, hl1⟩
  clear hl0 hl1 hc l hp p
  rintro en ⟨p, l, rfl, hp, hc, hl0, hl1⟩
  walk_at "ev"
  refine os_while (fun z en => ∃ p l, z = (many - l.length).toNat ∧ en = [.o true p, .v (.int m), .v (.str (tx ls)), .v (.int many), .v (.int way), .e, .v (.str (tx l)), .e, .e, .e, .e] ∧ Reel2 p ∧ Lts l ∧ 1 ≤ l.length ∧ l.length ≤ 5000) 100000 _ _ (by omega) ⟨p, l, rfl, rfl, hp, hc, hl0, hl1⟩ ?_
  clear hl0 hl1 hc l hp p
  rintro z en ⟨p, l, rfl, rfl, hp, hc, hl0, hl1⟩
  have fin : l.length ≤ 16777216 ∧ k (.ret false (.str (tx (cutL l none (some many)))) [p, .int m]) := by
    rw [cut_to hm0]
    exact ⟨by omega, h p _ hp (by rw [List.length_take]; omega) (hc.take _)⟩
  walk_at "go"
  refine bj_mk (fun hw => ?_) (fun hw => ?_)
  · walk_at "go"
    refine bj_mk (fun hlt => ?_) (fun hlt => ?_)
    · walk_at "go"
      refine okL_atMem (by omega) (by omega) fun c hcm => ?_
      walk_at "ev"
      refine ⟨by simp; omega, _, ?_, p, _, rfl, rfl, hp, hc.app (Lts.one (hls c hcm)), by simp, by simp; omega⟩
      simp only [List.length_append, List.length_singleton]
      omega
    · walk_at "ev"
      exact fin
  · walk_at "ev"
    exact fin
end PyD.S

end

section
set_option maxHeartbeats 4000000
namespace PyD.S
open PySem PySem.Spec L2 PyD.S
local macro_rules | `(tactic| walk_at "ev") => `(tactic| walk_at "k33569854")
local macro_rules | `(tactic| walk_at "evi") => `(tactic| walk_at "k2b729343")
local macro_rules | `(tactic| walk_at "eva") => `(tactic| walk_at "ka2c0ebbf")
local macro_rules | `(tactic| walk_at "sd") => `(tactic| repeat (refine And.intro (by first | omega | assumption | exact rfl) ?_))
local macro_rules | `(tactic| walk_at "sc") => `(tactic| first | assumption | omega | exact rfl | exact mulOk_r (by omega) (by omega) | exact mulOk_l (by omega) (by omega) | exact log_ok (by omega) (by omega) | (simp only [List.length_append, List.length_cons, List.length_nil, List.length_take, List.length_drop, List.length_map, List.length_replicate, upL_len]; omega) | (refine And.intro ?_ ?_ <;> walk_at "sc") | decide)
set_option hygiene false in
local macro_rules | `(tactic| walk_at "lm") => `(tactic| first
  | ((with_reducible refine take_ok ?_ ?_ ?_ fun p r hp hr0 hr1 => ?_); (focus assumption); (focus omega); (focus omega))
  | ((with_reducible refine pick_ok ?_ ?_ ?_ fun p r hp hr0 hr1 => ?_); (focus assumption); (focus omega); (focus omega))
  | ((with_reducible refine pick2_ok ?_ ?_ ?_ fun p r hp hr0 hr1 => ?_); (focus assumption); (focus omega); (focus omega))
  | ((with_reducible refine letter_ok ?_ ?_ ?_ fun p c hp hc => ?_); (focus assumption); (focus omega); (focus omega))
  | ((with_reducible refine signs_ok ?_ ?_ ?_ ?_ ?_ fun p l hp hl hc => ?_); (focus assumption); (focus omega); (focus omega); (focus omega); (focus omega))
  | ((with_reducible refine text_ok ?_ ?_ ?_ fun p l hp hl hc => ?_); (focus assumption); (focus omega); (focus omega))
  | ((with_reducible refine rtext_ok ?_ ?_ ?_ fun p l hp hl hc => ?_); (focus assumption); (focus omega); (focus omega))
  | ((with_reducible refine rtext2_ok ?_ ?_ ?_ fun p l hp hl hc => ?_); (focus assumption); (focus omega); (focus omega))
  | (with_reducible refine whole_ok ?_))
local macro_rules | `(tactic| walk_at "ok") => `(tactic| first | assumption | exact okT_nil | exact Lts.ok (by assumption) | decide)
local macro_rules | `(tactic| walk_at "g0") => `(tactic| first
  | ((with_reducible refine And.intro ?_ ?_); (focus walk_at "sc"))
  | walk_at "lm"
  | ((with_reducible refine okL_eqtx ?_ ?_ ?_); (focus walk_at "ok"); (focus walk_at "ok"))
  | ((with_reducible refine bj_t ?_ ?_); (focus (first | with_reducible rfl | omega)))
  | ((with_reducible refine bj_f ?_ ?_); (focus omega)))
local macro_rules | `(tactic| walk_at "g1") => `(tactic| first
  | walk_at "ev"
  | walk_at "g0")
local macro_rules | `(tactic| walk_at "g2") => `(tactic| first
  | walk_at "evi"
  | walk_at "g0")
local macro_rules | `(tactic| walk_at "go") => `(tactic| repeat walk_at "g1")
local macro_rules | `(tactic| walk_at "goi") => `(tactic| repeat walk_at "g2")
local macro_rules | `(tactic| walk_at "goa") => `(tactic| repeat first | walk_at "eva" | walk_at "g0")
theorem cutM34 {α : Type} {xs : List α} {lo hi : Option Int} {x : α} (h : x ∈ cutL xs lo hi) : x ∈ xs := List.mem_of_mem_drop (List.mem_of_mem_take h)
theorem cutN34 {α : Type} (xs : List α) (lo hi : Option Int) : (cutL xs lo hi).length ≤ xs.length := by
  unfold cutL
  rw [List.length_take, List.length_drop]
  omega
def T4 (L : T) : Prop := ∀ c ∈ L, 46 ≤ c ∧ c < 128
theorem T4.cut {L : T} (h : T4 L) (lo hi : Option Int) : T4 (cutL L lo hi) := fun c z => h c (cutM34 z)
theorem T4.app {a b : T} (h : T4 a) (h' : T4 b) : T4 (a ++ b) := fun c z => (List.mem_append.mp z).elim (h c) (h' c)
theorem repl46 : ∀ l : T, ∃ r : T, StrLaws.replL [46] [] l = r ∧ r.length ≤ l.length ∧ ∀ c ∈ r, c ∈ l
  | [] => ⟨[], StrLaws.replL_nil, Nat.le_refl _, fun c h => h⟩
  | c :: l => by
    obtain ⟨r, h1, h2, h3⟩ := repl46 l
    by_cases hc : c = 46
    · subst hc
      refine ⟨r, ?_, by rw [List.length_cons]; omega, fun x hx => List.mem_cons_of_mem _ (h3 x hx)⟩
      rw [StrLaws.replL_hit (by simp) rfl]
      exact h1
    · refine ⟨c :: r, ?_, by rw [List.length_cons, List.length_cons]; omega, fun x hx => ?_⟩
      · rw [StrLaws.replL_miss (by simpa using hc), h1]
      · rcases List.mem_cons.mp hx with rfl | hx
        · exact List.mem_cons_self
        · exact List.mem_cons_of_mem _ (h3 x hx)
theorem rep46 (l : T) : ∃ r : T, Txt.replace (tx l) (tx [46]) (tx []) = tx r ∧ r.length ≤ l.length ∧ ∀ c ∈ r, c ∈ l := by
  obtain ⟨r, h1, h2, h3⟩ := repl46 l
  refine ⟨r, ?_, h2, h3⟩
  have h := StrLaws.replace_list (x := tx l) (y := tx [46]) (z := tx []) (by decide)
  generalize Txt.replace (tx l) (tx [46]) (tx []) = t at h
  have e : t.cps.toList = r := h.trans h1
  cases t with
  | mk a => cases a with | mk b => exact congrArg tx e
theorem lbent34_ok {p : D} {L : T} {k : Out → Prop} (hp : Reel2 p) (h0 : 0 < L.length) (hl : L.length ≤ 2000) (hc : T4 L) (h : ∀ p' r, Reel2 p' → T46 r → k (.ret false (.str (tx r)) [p', .str (tx L)])) : okO (phi_lbent_v6 [p, .str (tx L)]) k := by
  unfold phi_lbent_v6 b_lbent_v6
  walk_at "go"
  rename_i p1 a hp1 ha0 ha1 p2 b hp2 hb0 hb1
  refine okL_atMem (by omega) (by simpa using hr1) fun s hs => ?_
  have hs4 : T4 [s] := fun c z => by
    rw [List.mem_singleton.mp z]
    simp only [List.mem_cons, List.not_mem_nil, or_false] at hs
    omega
  clear hs
  walk_at "ev"
  refine okL_of (listS_tx (by omega)) ?_
  walk_at "go"
  have hml : ∀ M : T, (M.map fun c => D.str (tx [c])).length = M.length := fun M => List.length_map _
  have get : ∀ {i : Int} {q : D → Prop}, 0 ≤ i → i < L.length → (∀ c, c ∈ L → q (.str (tx [c]))) → okL (atI (L.map fun c => D.str (tx [c])) i) q := fun h0 h1 hq => okL_atMem h0 (by rw [hml]; exact h1) fun d hd => by
    obtain ⟨c, hc, rfl⟩ := List.mem_map.mp hd
    exact hq c hc
  refine get (by omega) (by omega) fun c1 hc1 => ?_
  walk_at "go"
  refine get (by omega) (by omega) fun c2 hc2 => ?_
  walk_at "go"
  rw [ok_gTwo, ok_gSt]
  simp only [gstK]
  walk_at "go"
  rw [ixN_at (by omega) (by rw [hml]; omega)]
  walk_at "go"
  rw [ok_gSt]
  simp only [gstK, List.set_cons_succ, List.set_cons_zero, List.getElem?_cons_succ, List.getElem?_cons_zero]
  walk_at "go"
  rw [List.length_set, ixN_at (by omega) (by rw [hml]; omega)]
  walk_at "go"
  have ems : ∀ (M : T) (i c : Nat), (M.map fun c => D.str (tx [c])).set i (D.str (tx [c])) = (M.set i c).map fun c => D.str (tx [c]) := fun M i c => by rw [List.map_set]
  rw [ems, ems]
  obtain ⟨M, hM⟩ : ∃ M, M = (L.set a.toNat c1).set b.toNat c2 := ⟨_, rfl⟩
  have hMl : M.length = L.length := by rw [hM, List.length_set, List.length_set]
  have hM4 : T4 M := fun c z => by
    rw [hM] at z
    rcases List.mem_or_eq_of_mem_set z with z | rfl
    · rcases List.mem_or_eq_of_mem_set z with z | rfl
      · exact hc c z
      · exact hc _ hc1
    · exact hc _ hc2
  rw [← hM]
  clear hM ems
  have n1 := cutN34 L none (some a)
  have n2 := cutN34 L (some (a + 1)) none
  have n3 := cutN34 L (some a) none
  have m1 := hc.cut none (some a)
  have m2 := hc.cut (some (a + 1)) none
  have m3 := hc.cut (some a) none
  have jn : ∀ M : T, M.length ≤ 5000 → joinD [.str (tx []), .lst (M.map fun c => D.str (tx [c]))] = some (false, .str (tx M)) := fun M hM => by
    have := join_txs (ls := M.map fun c => [c]) (by
      intro x hx
      obtain ⟨p, _, rfl⟩ := List.mem_map.mp hx
      rfl) (by rw [List.length_map]; omega)
    rw [flat1, List.map_map] at this
    exact this
  walk_at "go"
  refine okL_atMem (by omega) (by omega) fun c3 hc3 => ?_
  have m4 : T4 [c3] := fun c z => by rw [List.mem_singleton.mp z]; exact hc _ hc3
  walk_at "go"
  refine okL_of (jn M (by omega)) ?_
  walk_at "go"
  rw [ok_repl]
  walk_at "go"
  simp only [repK]
  obtain ⟨r1, e1, l1, q1⟩ := rep46 L
  have hr4 : T4 r1 := fun c z => hc c (q1 c z)
  have txl : ∀ M : T, (tx M).length = M.length := fun M => rfl
  rw [txl, txl, e1]
  refine And.intro (by simp; omega) ?_
  walk_at "go"
  refine okL_of (show revD [.str (tx L), .int (-1)] = some (false, .str (tx L.reverse)) by rw [rev_tx, if_pos ⟨by omega, rfl⟩]) ?_
  walk_at "go"
  obtain ⟨r2, p2, e2⟩ := sortT_tx (l := L) (by omega)
  have hs4' : T4 r2 := fun c z => hc c (p2.mem_iff.mp z)
  have hsl := p2.length_eq
  refine okL_of e2 ?_
  walk_at "go"
  refine okL_of (jn r2 (by omega)) ?_
  walk_at "go"
  have hre : L.reverse.length = L.length := List.length_reverse
  refine okL_atMem (by omega) (by simpa using hr1) fun d hd => ?_
  have h46 : T4 [46] := fun c z => by rw [List.mem_singleton.mp z]; omega
  have hrv : T4 L.reverse := fun c z => hc c (List.mem_reverse.mp z)
  obtain ⟨v, rfl, hv⟩ : ∃ v, d = .str (tx v) ∧ T46 v := by
    simp only [List.cons_append, List.nil_append, List.mem_cons, List.not_mem_nil, or_false] at hd
    rcases hd with rfl | rfl | rfl | rfl | rfl | rfl | rfl | rfl | rfl
    · exact ⟨_, rfl, by simp only [List.length_append, List.length_cons, List.length_nil]; omega, m1.app m2⟩
    · exact ⟨_, rfl, by simp only [List.length_append, List.length_cons, List.length_nil]; omega, (m1.app m4).app m3⟩
    · exact ⟨_, rfl, by simp only [List.length_append, List.length_cons, List.length_nil]; omega, (m1.app hs4).app m2⟩
    · exact ⟨_, rfl, by omega, hM4⟩
    · exact ⟨_, rfl, by simp only [List.length_append, List.length_cons, List.length_nil]; omega, (m1.app h46).app m3⟩
    · exact ⟨_, rfl, by omega, hr4⟩
    · exact ⟨_, rfl, by omega, hrv⟩
    · exact ⟨_, rfl, by simp only [List.length_append, List.length_cons, List.length_nil]; omega, m3.app m1⟩
    · exact ⟨_, rfl, by omega, hs4'⟩
  walk_at "go"
  exact h _ _ (by assumption) hv
end PyD.S

end

section
set_option maxHeartbeats 4000000
namespace PyD.S
open PySem PySem.Spec L2 PyD.S
local macro_rules | `(tactic| walk_at "ev") => `(tactic| walk_at "k33569854")
local macro_rules | `(tactic| walk_at "evi") => `(tactic| walk_at "k2b729343")
local macro_rules | `(tactic| walk_at "eva") => `(tactic| walk_at "ka2c0ebbf")
local macro_rules | `(tactic| walk_at "sd") => `(tactic| repeat (refine And.intro (by first | omega | assumption | exact rfl) ?_))
local macro_rules | `(tactic| walk_at "sc") => `(tactic| first | assumption | omega | exact rfl | exact mulOk_r (by omega) (by omega) | exact mulOk_l (by omega) (by omega) | exact log_ok (by omega) (by omega) | (simp only [List.length_append, List.length_cons, List.length_nil, List.length_take, List.length_drop, List.length_map, List.length_replicate, upL_len]; omega) | (refine And.intro ?_ ?_ <;> walk_at "sc") | decide)
set_option hygiene false in
local macro_rules | `(tactic| walk_at "lm") => `(tactic| first
  | ((with_reducible refine take_ok ?_ ?_ ?_ fun p r hp hr0 hr1 => ?_); (focus assumption); (focus omega); (focus omega))
  | ((with_reducible refine pick_ok ?_ ?_ ?_ fun p r hp hr0 hr1 => ?_); (focus assumption); (focus omega); (focus omega))
  | ((with_reducible refine pick2_ok ?_ ?_ ?_ fun p r hp hr0 hr1 => ?_); (focus assumption); (focus omega); (focus omega))
  | ((with_reducible refine letter_ok ?_ ?_ ?_ fun p c hp hc => ?_); (focus assumption); (focus omega); (focus omega))
  | ((with_reducible refine signs_ok ?_ ?_ ?_ ?_ ?_ fun p l hp hl hc => ?_); (focus assumption); (focus omega); (focus omega); (focus omega); (focus omega))
  | ((with_reducible refine text_ok ?_ ?_ ?_ fun p l hp hl hc => ?_); (focus assumption); (focus omega); (focus omega))
  | ((with_reducible refine rtext_ok ?_ ?_ ?_ fun p l hp hl hc => ?_); (focus assumption); (focus omega); (focus omega))
  | ((with_reducible refine rtext2_ok ?_ ?_ ?_ fun p l hp hl hc => ?_); (focus assumption); (focus omega); (focus omega))
  | (with_reducible refine whole_ok ?_))
local macro_rules | `(tactic| walk_at "ok") => `(tactic| first | assumption | exact okT_nil | exact Lts.ok (by assumption) | decide)
local macro_rules | `(tactic| walk_at "g0") => `(tactic| first
  | ((with_reducible refine And.intro ?_ ?_); (focus walk_at "sc"))
  | walk_at "lm"
  | ((with_reducible refine okL_eqtx ?_ ?_ ?_); (focus walk_at "ok"); (focus walk_at "ok"))
  | ((with_reducible refine bj_t ?_ ?_); (focus (first | with_reducible rfl | omega)))
  | ((with_reducible refine bj_f ?_ ?_); (focus omega)))
local macro_rules | `(tactic| walk_at "g1") => `(tactic| first
  | walk_at "ev"
  | walk_at "g0")
local macro_rules | `(tactic| walk_at "g2") => `(tactic| first
  | walk_at "evi"
  | walk_at "g0")
local macro_rules | `(tactic| walk_at "go") => `(tactic| repeat walk_at "g1")
local macro_rules | `(tactic| walk_at "goi") => `(tactic| repeat walk_at "g2")
local macro_rules | `(tactic| walk_at "goa") => `(tactic| repeat first | walk_at "eva" | walk_at "g0")
theorem ok_law_k34 (ns : List Int) (hl : ns.length ≤ 63) : ∃ outs, phi_law_k34 [.scr ns] = .ret false (.bl true) outs := by
  have : okO (phi_law_k34 [.scr ns]) fun o => ∃ outs, o = .ret false (.bl true) outs := by
    unfold phi_law_k34 b_law_k34
    have hmx := mxmn (a := 2) (b := 6) (n := ns.length) (by omega)
    walk_at "goi"
    refine os_ix (fun i en => en = [.v (.scr ns), .e, .e, .e, .e, .e, .e]) rfl ?_ ?_
    · rintro i d hd en rfl
      obtain ⟨v, rfl, hv⟩ : ∃ v, d = .str (tx v) ∧ T46 v := by
        have hm := List.mem_of_getElem? hd
        simp only [List.mem_cons, List.not_mem_nil, or_false] at hm
        unfold T46
        rcases hm with rfl | rfl | rfl | rfl | rfl | rfl | rfl | rfl | rfl | rfl <;> exact ⟨_, rfl, by decide, by decide⟩
      walk_at "goi"
      refine lright34_ok hv ?_
      walk_at "goi"
    rintro en rfl
    walk_at "goi"
    refine os_ix (fun i en => en = [.v (.scr ns), .e, .e, .e, .e, .e, .e]) rfl ?_ ?_
    · rintro i d hd en rfl
      obtain ⟨rfl, hlt⟩ := upL_get hd
      walk_at "go"
      refine reel2_ok (by omega) (by omega) fun p hp => ?_
      walk_at "go"
      obtain ⟨ri, rf, rfl⟩ := hp
      walk_at "goi"
      have hp : Reel2 (.lst [.int ri, .bl rf]) := ⟨_, _, rfl⟩
      cases rf with
      | false =>
        walk_at "goi"
        have hlt46 : ∀ c ∈ l, 46 < c := fun c z => by have := hc c z; unfold Lt at this; omega
        refine turned_ok (by omega) ?_
        have hL1 : (turnedL l).length = l.length + 1 := by rw [turned_lenB, wh_len]
        have hL4 : T4 (turnedL l) := fun c z => by
          rcases List.mem_append.mp ((turned_perm l).mem_iff.mp z) with z | z
          · have := hc c z
            unfold Lt at this
            omega
          · rw [List.mem_singleton.mp z]
            omega
        have hRing : Ring (turnedL l) := ⟨turned_one hlt46, lf_ring hlt46⟩
        have htl := tL_turned hlt46
        revert hL1 hL4 hRing htl
        generalize turnedL l = L
        intro hL1 hL4 hRing htl
        walk_at "goi"
        refine tback34_ok (by omega) (fun c z => (hL4 c z).2) (fun c z => (hL4 c z).1) ?_
        rintro o (⟨_, rfl⟩ | ⟨z, _⟩)
        case inr => exact (z hRing).elim
        rw [htl]
        walk_at "goi"
        refine lright34_ok ⟨by omega, hL4⟩ ?_
        walk_at "goi"
        refine os_ix (fun j en => ∃ p, Reel2 p ∧ en = [.v (.scr ns), .v (.str (tx L)), .e, .o false p, .e, .e, .e]) ⟨p, hp, rfl⟩ ?_ ?_
        · rintro j d hd2 en ⟨p, hp, rfl⟩
          obtain ⟨rfl, hlt2⟩ := upL_get hd2
          walk_at "goi"
          refine lbent34_ok hp (by omega) (by omega) hL4 fun p r hp hr => ?_
          walk_at "goi"
          refine lright34_ok hr ?_
          walk_at "goi"
          exact ⟨p, hp, rfl⟩
        rintro en ⟨p, hp, rfl⟩
        walk_at "goi"
        refine ok_lcY (fun acc en => ∃ p us, Reel2 p ∧ acc = us.map dtx ∧ (∀ l ∈ us, ∃ c, l = [c] ∧ 46 ≤ c ∧ c < 128) ∧ en = [.v (.scr ns), .e, .e, .o false p, .e, .e, .e]) ⟨p, [], hp, rfl, by simp, rfl⟩ (by rw [upL_len]; omega) ?_ ?_
        · rintro q d - acc en - ⟨p', us, hp', rfl, hus, rfl⟩
          walk_at "go"
          refine okL_atMem (by omega) (by simp only [List.length_cons, List.length_nil]; omega) fun c hc => ?_
          walk_at "ev"
          refine ⟨_, us ++ [[c]], (by assumption), by simp [dtx], ?_, rfl⟩
          intro l hl'
          rcases List.mem_append.mp hl' with z | z
          · exact hus l z
          · refine ⟨c, by simpa using z, ?_⟩
            simp only [List.mem_cons, List.not_mem_nil, or_false] at hc
            omega
        rintro acc en hlen ⟨p, us, hp, rfl, hus, rfl⟩
        have h1 : ∀ l ∈ us, l.length = 1 := fun l z => by obtain ⟨c, rfl, _⟩ := hus l z; rfl
        have hlen : us.length ≤ 8 := by
          rw [upL_len, List.length_map] at hlen
          omega
        have hus4 : T4 us.flatten := by
          intro c hc
          obtain ⟨l, h2, h3⟩ := List.mem_flatten.mp hc
          obtain ⟨c', rfl, h4⟩ := hus l h2
          rw [List.mem_singleton.mp h3]
          exact h4
        have hfl : us.flatten.length = us.length := by rw [List.length_flatten, sum_ones h1]
        walk_at "goi"
        refine okL_of (join_txs h1 (by omega)) ?_
        walk_at "goi"
        refine lright34_ok ⟨by omega, hus4⟩ ?_
        walk_at "goi"
      | true =>
        walk_at "goi"
        refine okL_atMem (by split <;> omega) (by simp only [List.length_cons, List.length_nil]; split <;> omega) fun x hx => ?_
        obtain ⟨m, rfl, hm0, hm1⟩ : ∃ m : Int, x = .int m ∧ 0 ≤ m ∧ m ≤ 150 := by
          simp only [List.mem_cons, List.not_mem_nil, or_false] at hx
          rcases hx with rfl | rfl <;> exact ⟨_, rfl, by omega, by omega⟩
        walk_at "goi"
        have hlt46 : ∀ c ∈ l, 46 < c := fun c z => by have := hc c z; unfold Lt at this; omega
        refine turned_ok (by omega) ?_
        have hL1 : (turnedL l).length = l.length + 1 := by rw [turned_lenB, wh_len]
        have hL4 : T4 (turnedL l) := fun c z => by
          rcases List.mem_append.mp ((turned_perm l).mem_iff.mp z) with z | z
          · have := hc c z
            unfold Lt at this
            omega
          · rw [List.mem_singleton.mp z]
            omega
        have hRing : Ring (turnedL l) := ⟨turned_one hlt46, lf_ring hlt46⟩
        have htl := tL_turned hlt46
        revert hL1 hL4 hRing htl
        generalize turnedL l = L
        intro hL1 hL4 hRing htl
        walk_at "goi"
        refine tback34_ok (by omega) (fun c z => (hL4 c z).2) (fun c z => (hL4 c z).1) ?_
        rintro o (⟨_, rfl⟩ | ⟨z, _⟩)
        case inr => exact (z hRing).elim
        rw [htl]
        walk_at "goi"
        refine lright34_ok ⟨by omega, hL4⟩ ?_
        walk_at "goi"
        refine os_ix (fun j en => ∃ p, Reel2 p ∧ en = [.v (.scr ns), .v (.str (tx L)), .e, .o false p, .e, .e, .e]) ⟨p, hp, rfl⟩ ?_ ?_
        · rintro j d hd2 en ⟨p, hp, rfl⟩
          obtain ⟨rfl, hlt2⟩ := upL_get hd2
          walk_at "goi"
          refine lbent34_ok hp (by omega) (by omega) hL4 fun p r hp hr => ?_
          walk_at "goi"
          refine lright34_ok hr ?_
          walk_at "goi"
          exact ⟨p, hp, rfl⟩
        rintro en ⟨p, hp, rfl⟩
        walk_at "goi"
        refine ok_lcY (fun acc en => ∃ p us, Reel2 p ∧ acc = us.map dtx ∧ (∀ l ∈ us, ∃ c, l = [c] ∧ 46 ≤ c ∧ c < 128) ∧ en = [.v (.scr ns), .e, .e, .o false p, .e, .e, .e]) ⟨p, [], hp, rfl, by simp, rfl⟩ (by rw [upL_len]; omega) ?_ ?_
        · rintro q d - acc en - ⟨p', us, hp', rfl, hus, rfl⟩
          walk_at "go"
          refine okL_atMem (by omega) (by simp only [List.length_cons, List.length_nil]; omega) fun c hc => ?_
          walk_at "ev"
          refine ⟨_, us ++ [[c]], (by assumption), by simp [dtx], ?_, rfl⟩
          intro l hl'
          rcases List.mem_append.mp hl' with z | z
          · exact hus l z
          · refine ⟨c, by simpa using z, ?_⟩
            simp only [List.mem_cons, List.not_mem_nil, or_false] at hc
            omega
        rintro acc en hlen ⟨p, us, hp, rfl, hus, rfl⟩
        have h1 : ∀ l ∈ us, l.length = 1 := fun l z => by obtain ⟨c, rfl, _⟩ := hus l z; rfl
        have hlen : us.length ≤ 8 := by
          rw [upL_len, List.length_map] at hlen
          omega
        have hus4 : T4 us.flatten := by
          intro c hc
          obtain ⟨l, h2, h3⟩ := List.mem_flatten.mp hc
          obtain ⟨c', rfl, h4⟩ := hus l h2
          rw [List.mem_singleton.mp h3]
          exact h4
        have hfl : us.flatten.length = us.length := by rw [List.length_flatten, sum_ones h1]
        walk_at "goi"
        refine okL_of (join_txs h1 (by omega)) ?_
        walk_at "goi"
        refine lright34_ok ⟨by omega, hus4⟩ ?_
        walk_at "goi"
    rintro en rfl
    walk_at "ev"
    exact ⟨_, rfl⟩
  revert this
  cases phi_law_k34 [.scr ns] with
  | bad => exact fun h => h.elim
  | ret b d o => exact fun h => h
  | exc e o => exact fun h => h
end PyD.S

end

open PySem PySem.W PyProof.Rows in
set_option maxHeartbeats 0 in
theorem PySem.Challenge.cw_touchpin_k34_turned_back_or_none_holds : PySem.Challenge.rw_touchpin_k34_turned_back_or_none.Holds := by
  w_on; o_law; k_head; (case hw => w_witness2)
  k_fill
  refine L2.walk_of (l := PySem.Challenge.rw_touchpin_k34_turned_back_or_none) (n := 63) (k := 5) (x := "script") (CX := fun w => L2.CX PySem.Challenge.rw_touchpin_k34_turned_back_or_none.prog w) (sp := fun w => PyD.spD _ [false] PyD.S.phi_law_k34) rfl (by decide) rfl ⟨rfl, by decide, by decide⟩ (fun w h Y => PySem.W.kIn_of Y) ?F (fun _ _ a ns hl hO hS => PyD.law_end (PyD.S.ok_law_k34 ns hl) hO hS) (fun w H s e s' h => PyD.law_cx w H s e s' h)
  case F =>
    intro w mg fa h KX G hmg
    refine' PyD.k34.all_mk KX G hmg ?a0 ?l0 ?c0 ?k0 ?a1 ?l1 ?c1 ?k1 ?a2 ?l2 ?c2 ?k2 ?a3 ?l3 ?c3 ?k3 ?a4 ?l4 ?c4 ?k4 ?a5 ?l5 ?c5 ?k5 ?a6 ?l6 ?c6 ?k6 ?a7 ?l7 ?c7 ?k7 ?a8 ?l8 ?c8 ?k8 ?a9 ?l9 ?c9 ?k9 ?z0 ?z1 ?z2 ?z3 ?z4 ?z5 ?z6 ?z7 ?z8 ?z9 ?z10 ?q0 ?xa_pin ?xa_many ?xa_noturned ?xa_norow ?xa_round ?xa_missed ?xa_notext ?xB ?ei_noturned
    (case a0 => k_is); (case l0 => k_is); (case c0 => k_is); (case k0 => k_is); (case a1 => k_is); (case l1 => k_is); (case c1 => k_is); (case k1 => k_is); (case a2 => k_is); (case l2 => k_is); (case c2 => k_is); (case k2 => k_is); (case a3 => k_is); (case l3 => k_is); (case c3 => k_is); (case k3 => k_is); (case a4 => k_is); (case l4 => k_is); (case c4 => k_is); (case k4 => k_is); (case a5 => k_is); (case l5 => k_is); (case c5 => k_is); (case k5 => k_is); (case a6 => k_is); (case l6 => k_is); (case c6 => k_is); (case k6 => k_is); (case a7 => k_is); (case l7 => k_is); (case c7 => k_is); (case k7 => k_is); (case a8 => k_is); (case l8 => k_is); (case c8 => k_is); (case k8 => k_is); (case a9 => k_is); (case l9 => k_is); (case c9 => k_is); (case k9 => k_is); (case z0 => k_is); (case z1 => k_is); (case z2 => k_is); (case z3 => k_is); (case z4 => k_is); (case z5 => k_is); (case z6 => k_is); (case z7 => k_is); (case z8 => k_is); (case z9 => k_is); (case z10 => k_is); (case q0 => k_is); (case xa_pin => k_is); (case xa_many => k_is); (case xa_noturned => k_is); (case xa_norow => k_is); (case xa_round => k_is); (case xa_missed => k_is); (case xa_notext => k_is); (case xB => kernel_rfl); (case ei_noturned => k_exc)
