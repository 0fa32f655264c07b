import PyProof.Rows.All
import HandS.ForMost
import HandS.ForExc
import HandS.Walk
import HandS.IsInst
import HandS.ExcValue
import HandS.ExcInit
import HandS.ExcIs
import HandS.ExcField
import KE.KExcIs
import HandS.Wide
import HandS.TupAny
import HandS.TupMul
import HandS.TupLe
import HandS.Style
import HandS.Conv
import HandS.StrMore
import HandS.SortInts
import HandS.Rev
import HandS.RevRange
import HandS.Zip
import HandS.More
import HandS.TupSets
import KE.SortData
import HandS.Replace
import PyProof.Rows.FactsN_abs
import HandS.SetFor
import KE.GoesMore
import KE.GoesEnum
import PyProof.ReprRoads
import PyProof.ReprText
import PyProof.ReprLen
import PyProof.ListStr
import HandS.SetTxt0
import HandS.FStr
import HandS.RaiseMore
import PyProof.EnumMake
import HandS.Flow
import HandS.ReplaceLit
import HandS.ReplaceList
import PyProof.CollectStr
import KE.KDictZip
import PyProof.TupleOfStr
import PySem.Challenge.RW_touchpin_k10_least_with_a_tree
set_option Elab.async false
set_option linter.all false
set_option maxRecDepth 100000

namespace PyD
open PySem PySem.Spec L2
inductive XN where
  | pin | many | noturned | norow | round | missed | notext
  deriving DecidableEq
noncomputable def XN.nm : XN → Str
  | .pin => "PinError"
  | .many => "TooMany"
  | .noturned => "NoTurned"
  | .norow => "NoRow"
  | .round => "GoesRound"
  | .missed => "Missed"
  | .notext => "NoText"
inductive ON where
  | growing | desk
  deriving DecidableEq
noncomputable def ON.nm : ON → Str
  | .growing => "Growing"
  | .desk => "Desk"
inductive D where
  | non | bl (b : Bool) | int (i : Int) | str (s : Str)
  | tup (ds : List D) | lst (ds : List D) | dic (kvs : List (Key × D)) | obj (n : ON) (fs : List (Str × D)) | scr (ns : List Int) | exn (C : XN) (fs : List (Str × D))
  /-- within a thing of one's own: one of one's own, too; as a thing of one's own: one with such within -/
  | ow (d : D)
  /-- a thing of which its place is known, and its data but for .non -/
  | adr (a : Addr) (d : D)
noncomputable def KLst (K : PySem.W.Frag) (a : Addr) (xs : List V) : Prop :=
  ∃ (o : Obj) (its : Array Value) (n : Nat), K.lookup a = some o ∧ o.cls = .type "list" ∧ o.dict = none ∧ o.data = .seq its n ∧ its.size ≤ sizeLine ∧ Vals xs its.toList
noncomputable def exT (a : Addr) (c : Value) (od : Option Addr) : HO := .ext fun h => ∃ (o : Obj) (vs : Array Value), h.get? a = some o ∧ Zc c od o ∧ o.data = .fields vs
noncomputable def ClsN (K : PySem.W.Frag) (n : XN) (c : Value) : Prop := PySem.W.nsIn K mainGlobals n.nm = some (some c) ∧ ∃ C, c = .ref C
noncomputable def ClsO (K : PySem.W.Frag) (n : ON) (C : Addr) : Prop := PySem.W.nsIn K mainGlobals n.nm = some (some (.ref C))
noncomputable def XdAt (U : Addr → Prop) (H : Hp) (od : Option Addr) (ws : List (Str × V)) : Prop := (ws = [] ∧ od = none) ∨ ∃ dx, od = some dx ∧ ¬ U dx ∧ H dx = some (.xd ws)
section
variable (K : PySem.W.Frag)
mutual
noncomputable def Rep (U : Addr → Prop) (H : Hp) : D → V → Prop
  | .non, v => v = .non
  | .bl b, v => v = .bl b
  | .int i, v => v = .int i
  | .str s, v => v = .str s
  | .tup ds, v => ∃ a vs, v = .ref a ∧ ¬ U a ∧ H a = some (.tup vs) ∧ RepL U H ds vs
  | .lst ds, v => ∃ a vs, v = .ref a ∧ ¬ U a ∧ H a = some (.lst vs) ∧ RepL U H ds vs
  | .dic kvs, v => ∃ a ws, v = .ref a ∧ ¬ U a ∧ H a = some (.dK ws) ∧ RepK U H kvs ws
  | .obj n fs, v => ∃ a C dx ws, v = .ref a ∧ ¬ U a ∧ H a = some (.ins C dx ws) ∧ ClsO K n C ∧ RepF U H fs ws
  | .scr ns, v => ∃ a, v = .ref a ∧ ((¬ U a ∧ ∃ o, H a = some (.frz o (.lst (ns.map V.int)))) ∨ KLst K a (ns.map V.int))
  | .exn C fs, v => ∃ a c od ws, v = .ref a ∧ ¬ U a ∧ H a = some (exT a c od) ∧ ClsN K C c ∧ XdAt U H od ws ∧ RepF U H fs ws
  | .ow d, v => v ≠ .non ∧ Rep U H d v
  | .adr a d, v => v = .ref a ∧ (d = .non ∨ Rep U H d v)
noncomputable def RepL (U : Addr → Prop) (H : Hp) : List D → List V → Prop
  | [], vs => vs = []
  | d :: ds, vs => ∃ v r, vs = v :: r ∧ Rep U H d v ∧ RepL U H ds r
noncomputable def RepK (U : Addr → Prop) (H : Hp) : List (Key × D) → List (Key × V) → Prop
  | [], ws => ws = []
  | (k, d) :: r, ws => ∃ v s, ws = (k, v) :: s ∧ Rep U H d v ∧ RepK U H r s
noncomputable def RepF (U : Addr → Prop) (H : Hp) : List (Str × D) → List (Str × V) → Prop
  | [], ws => ws = []
  | (k, d) :: r, ws => ∃ v s, ws = (k, v) :: s ∧ Rep U H d v ∧ RepF U H r s
end
end
section
variable {K : PySem.W.Frag} {U U' : Addr → Prop} {H H' : Hp}
mutual
theorem Rep.to (h : ∀ a o, H a = some o → ¬ U a → H' a = some o ∧ ¬ U' a) : ∀ (d : D) (v : V), Rep K U H d v → Rep K U' H' d v
  | .non, v, r => by unfold Rep at r ⊢; exact r
  | .bl b, v, r => by unfold Rep at r ⊢; exact r
  | .int i, v, r => by unfold Rep at r ⊢; exact r
  | .str s, v, r => by unfold Rep at r ⊢; exact r
  | .tup ds, v, r => by
    unfold Rep at r ⊢
    obtain ⟨a, vs, e, nu, ha, q⟩ := r
    obtain ⟨ha', nu'⟩ := h a _ ha nu
    exact ⟨a, vs, e, nu', ha', RepL.to h ds vs q⟩
  | .lst ds, v, r => by
    unfold Rep at r ⊢
    obtain ⟨a, vs, e, nu, ha, q⟩ := r
    obtain ⟨ha', nu'⟩ := h a _ ha nu
    exact ⟨a, vs, e, nu', ha', RepL.to h ds vs q⟩
  | .dic kvs, v, r => by
    unfold Rep at r ⊢
    obtain ⟨a, ws, e, nu, ha, q⟩ := r
    obtain ⟨ha', nu'⟩ := h a _ ha nu
    exact ⟨a, ws, e, nu', ha', RepK.to h kvs ws q⟩
  | .obj n fs, v, r => by
    unfold Rep at r ⊢
    obtain ⟨a, C, dx, ws, e, nu, ha, hc, q⟩ := r
    obtain ⟨ha', nu'⟩ := h a _ ha nu
    exact ⟨a, C, dx, ws, e, nu', ha', hc, RepF.to h fs ws q⟩
  | .scr ns, v, r => by
    unfold Rep at r ⊢
    obtain ⟨a, e, c⟩ := r
    refine ⟨a, e, ?_⟩
    rcases c with ⟨nu, o, hr⟩ | c
    · obtain ⟨ha', nu'⟩ := h a _ hr nu
      exact .inl ⟨nu', o, ha'⟩
    · exact .inr c
  | .exn C fs, v, r => by
    unfold Rep at r ⊢
    obtain ⟨a, c, od, ws, e, nu, ha, hc, hx, q⟩ := r
    obtain ⟨ha', nu'⟩ := h a _ ha nu
    refine ⟨a, c, od, ws, e, nu', ha', hc, ?_, RepF.to h fs ws q⟩
    rcases hx with hx | ⟨dx, e1, n1, h1⟩
    · exact .inl hx
    · obtain ⟨h1', n1'⟩ := h dx _ h1 n1
      exact .inr ⟨dx, e1, n1', h1'⟩
  | .ow d, v, r => by unfold Rep at r ⊢; exact ⟨r.1, Rep.to h d v r.2⟩
  | .adr _ d, v, r => by unfold Rep at r ⊢; exact ⟨r.1, r.2.imp id (Rep.to h d v)⟩
theorem RepL.to (h : ∀ a o, H a = some o → ¬ U a → H' a = some o ∧ ¬ U' a) : ∀ (ds : List D) (vs : List V), RepL K U H ds vs → RepL K U' H' ds vs
  | [], vs, r => by unfold RepL at r ⊢; exact r
  | d :: ds, vs, r => by
    unfold RepL at r ⊢
    obtain ⟨v, s, e, q1, q2⟩ := r
    exact ⟨v, s, e, Rep.to h d v q1, RepL.to h ds s q2⟩
theorem RepK.to (h : ∀ a o, H a = some o → ¬ U a → H' a = some o ∧ ¬ U' a) : ∀ (ds : List (Key × D)) (vs : List (Key × V)), RepK K U H ds vs → RepK K U' H' ds vs
  | [], vs, r => by unfold RepK at r ⊢; exact r
  | (k, d) :: ds, vs, r => by
    unfold RepK at r ⊢
    obtain ⟨v, s, e, q1, q2⟩ := r
    exact ⟨v, s, e, Rep.to h d v q1, RepK.to h ds s q2⟩
theorem RepF.to (h : ∀ a o, H a = some o → ¬ U a → H' a = some o ∧ ¬ U' a) : ∀ (ds : List (Str × D)) (vs : List (Str × V)), RepF K U H ds vs → RepF K U' H' ds vs
  | [], vs, r => by unfold RepF at r ⊢; exact r
  | (k, d) :: ds, vs, r => by
    unfold RepF at r ⊢
    obtain ⟨v, s, e, q1, q2⟩ := r
    exact ⟨v, s, e, Rep.to h d v q1, RepF.to h ds s q2⟩
end
end
end PyD

namespace PyD
open PySem PySem.Spec L2
inductive Sl where
  | e | v (d : D) | o (b : Bool) (d : D)
noncomputable abbrev En := List Sl
inductive R where
  | sh (d : D) | fr (d : D) | sl (i : Nat)
structure Ex where
  cls : XN
  fld : Option (Str × D)
inductive Res (α : Type) where
  | ok (a : α) (en : En) | exc (x : Ex) (en : En) | bad
noncomputable abbrev M (α : Type) := En → Res α
inductive Fl where
  | nx (en : En) | rt (r : R) (en : En) | bk (en : En) | ct (en : En) | exc (x : Ex) (en : En) | bad
inductive Out where
  | ret (fr : Bool) (d : D) (outs : List D) | exc (x : Ex) (outs : List D) | bad
mutual
noncomputable def flatD : D → Bool
  | .tup ds => flatL ds
  | .lst _ => false
  | .dic _ => false
  | .obj _ _ => false
  | .scr _ => false
  | .exn _ _ => false
  | .adr _ _ => false
  | .ow _ => false
  | _ => true
noncomputable def flatL : List D → Bool
  | [] => true
  | d :: ds => flatD d && flatL ds
end
mutual
noncomputable def Rch (H : Hp) : D → Addr → Addr → Prop
  | .ow d, p, a => a = p ∨ RcN H d p a
  | _, p, a => a = p
noncomputable def RcN (H : Hp) : D → Addr → Addr → Prop
  | .lst ds, p, a => ∃ vs, H p = some (.lst vs) ∧ RcL H ds vs a
  | .tup ds, p, a => ∃ vs, H p = some (.tup vs) ∧ RcL H ds vs a
  | .obj _ fs, p, a => ∃ C dx ws, H p = some (.ins C dx ws) ∧ RcF H fs ws a
  | _, _, _ => False
noncomputable def RcL (H : Hp) : List D → List V → Addr → Prop
  | [], _, _ => False
  | d :: ds, vs, a => ∃ v us, vs = v :: us ∧ (RcV H d v a ∨ RcL H ds us a)
noncomputable def RcF (H : Hp) : List (Str × D) → List (Str × V) → Addr → Prop
  | [], _, _ => False
  | (_, d) :: ds, vs, a => ∃ k v us, vs = (k, v) :: us ∧ (RcV H d v a ∨ RcF H ds us a)
noncomputable def RcV (H : Hp) : D → V → Addr → Prop
  | .ow d, v, a => ∃ q, v = .ref q ∧ Rch H d q a
  | _, _, _ => False
end
theorem Rch.self {H : Hp} {p : Addr} : ∀ {d : D}, Rch H d p p
  | .ow d => by unfold Rch; exact .inl rfl
  | .non => by unfold Rch; rfl
  | .bl _ => by unfold Rch; rfl
  | .int _ => by unfold Rch; rfl
  | .str _ => by unfold Rch; rfl
  | .tup _ => by unfold Rch; rfl
  | .lst _ => by unfold Rch; rfl
  | .dic _ => by unfold Rch; rfl
  | .obj _ _ => by unfold Rch; rfl
  | .scr _ => by unfold Rch; rfl
  | .exn _ _ => by unfold Rch; rfl
  | .adr _ _ => by unfold Rch; rfl
noncomputable def D.flatO : D → Bool
  | .ow _ => false
  | _ => true
theorem Rch.flat {H : Hp} {p a : Addr} : ∀ {d : D}, d.flatO = true → Rch H d p a → a = p
  | .ow d, h, _ => by cases h
  | .non, _, r => by unfold Rch at r; exact r
  | .bl _, _, r => by unfold Rch at r; exact r
  | .int _, _, r => by unfold Rch at r; exact r
  | .str _, _, r => by unfold Rch at r; exact r
  | .tup _, _, r => by unfold Rch at r; exact r
  | .lst _, _, r => by unfold Rch at r; exact r
  | .dic _, _, r => by unfold Rch at r; exact r
  | .obj _ _, _, r => by unfold Rch at r; exact r
  | .scr _, _, r => by unfold Rch at r; exact r
  | .exn _ _, _, r => by unfold Rch at r; exact r
  | .adr _ _, _, r => by unfold Rch at r; exact r
section
variable (K : PySem.W.Frag)
mutual
noncomputable def Con (U : Addr → Prop) (H : Hp) : D → Addr → Prop
  | .lst ds, p => ∃ vs, H p = some (.lst vs) ∧ RepL K U H ds vs
  | .dic kvs, p => ∃ ws, H p = some (.dK ws) ∧ RepK K U H kvs ws
  | .obj n fs, p => ∃ C dx ws, H p = some (.ins C dx ws) ∧ ClsO K n C ∧ RepF K U H fs ws
  | .ow d, p => ConN U H d p
  | _, _ => False
noncomputable def ConN (U : Addr → Prop) (H : Hp) : D → Addr → Prop
  | .lst ds, p => ∃ vs, H p = some (.lst vs) ∧ ConL U H p ds vs
  | .tup ds, p => (∃ c, D.ow c ∈ ds) ∧ ∃ vs, H p = some (.tup vs) ∧ ConL U H p ds vs
  | .obj n fs, p => ∃ C dx ws, H p = some (.ins C dx ws) ∧ ClsO K n C ∧ ConF U H p fs ws
  | _, _ => False
noncomputable def ConL (U : Addr → Prop) (H : Hp) (p : Addr) : List D → List V → Prop
  | [], vs => vs = []
  | d :: ds, vs => ∃ v us, vs = v :: us ∧ ConV U H d v ∧ ConL U H p ds us ∧ ∀ a, RcV H d v a → a ≠ p ∧ ¬ RcL H ds us a
noncomputable def ConF (U : Addr → Prop) (H : Hp) (p : Addr) : List (Str × D) → List (Str × V) → Prop
  | [], vs => vs = []
  | (k, d) :: ds, vs => ∃ v us, vs = (k, v) :: us ∧ ConV U H d v ∧ ConF U H p ds us ∧ ∀ a, RcV H d v a → a ≠ p ∧ ¬ RcF H ds us a
noncomputable def ConV (U : Addr → Prop) (H : Hp) : D → V → Prop
  | .ow d, v => ∃ q, v = .ref q ∧ Con U H d q
  | .non, v => Rep K U H .non v
  | .bl b, v => Rep K U H (.bl b) v
  | .int i, v => Rep K U H (.int i) v
  | .str s, v => Rep K U H (.str s) v
  | .tup ds, v => Rep K U H (.tup ds) v
  | .lst ds, v => Rep K U H (.lst ds) v
  | .dic ds, v => Rep K U H (.dic ds) v
  | .obj n ds, v => Rep K U H (.obj n ds) v
  | .scr ds, v => Rep K U H (.scr ds) v
  | .exn C ds, v => Rep K U H (.exn C ds) v
  | .adr C x, v => Rep K U H (.adr C x) v
end
end
noncomputable def Cont (K : PySem.W.Frag) (U : Addr → Prop) (H : Hp) : D → Addr → Prop
  | .lst ds, p => ∃ vs, H p = some (.lst vs) ∧ RepL K U H ds vs
  | .dic kvs, p => ∃ ws, H p = some (.dK ws) ∧ RepK K U H kvs ws
  | .obj n fs, p => ∃ C dx ws, H p = some (.ins C dx ws) ∧ ClsO K n C ∧ RepF K U H fs ws
  | .ow d, p => ConN K U H d p
  | _, _ => False
theorem con_iff {K : PySem.W.Frag} {U : Addr → Prop} {H : Hp} {p : Addr} : ∀ {d : D}, Con K U H d p ↔ Cont K U H d p
  | .ow d => by unfold Con; exact Iff.rfl
  | .non => by unfold Con; exact Iff.rfl
  | .bl _ => by unfold Con; exact Iff.rfl
  | .int _ => by unfold Con; exact Iff.rfl
  | .str _ => by unfold Con; exact Iff.rfl
  | .tup _ => by unfold Con; exact Iff.rfl
  | .lst _ => by unfold Con; exact Iff.rfl
  | .dic _ => by unfold Con; exact Iff.rfl
  | .obj _ _ => by unfold Con; exact Iff.rfl
  | .scr _ => by unfold Con; exact Iff.rfl
  | .exn _ _ => by unfold Con; exact Iff.rfl
  | .adr _ _ => by unfold Con; exact Iff.rfl
theorem conV_rep {K : PySem.W.Frag} {U : Addr → Prop} {H : Hp} {v : V} : ∀ {d : D}, (∀ c, d ≠ .ow c) → (ConV K U H d v ↔ Rep K U H d v)
  | .ow d, h => absurd rfl (h d)
  | .non, _ => by unfold ConV; exact Iff.rfl
  | .bl _, _ => by unfold ConV; exact Iff.rfl
  | .int _, _ => by unfold ConV; exact Iff.rfl
  | .str _, _ => by unfold ConV; exact Iff.rfl
  | .tup _, _ => by unfold ConV; exact Iff.rfl
  | .lst _, _ => by unfold ConV; exact Iff.rfl
  | .dic _, _ => by unfold ConV; exact Iff.rfl
  | .obj _ _, _ => by unfold ConV; exact Iff.rfl
  | .scr _, _ => by unfold ConV; exact Iff.rfl
  | .exn _ _, _ => by unfold ConV; exact Iff.rfl
  | .adr _ _, _ => by unfold ConV; exact Iff.rfl
theorem rcV_ow {H : Hp} {v : V} {a : Addr} : ∀ {d : D}, RcV H d v a → ∃ c q, d = .ow c ∧ v = .ref q ∧ Rch H c q a
  | .ow d, h => by
    unfold RcV at h
    obtain ⟨q, e, r⟩ := h
    exact ⟨d, q, rfl, e, r⟩
  | .non, h => by unfold RcV at h; exact h.elim
  | .bl _, h => by unfold RcV at h; exact h.elim
  | .int _, h => by unfold RcV at h; exact h.elim
  | .str _, h => by unfold RcV at h; exact h.elim
  | .tup _, h => by unfold RcV at h; exact h.elim
  | .lst _, h => by unfold RcV at h; exact h.elim
  | .dic _, h => by unfold RcV at h; exact h.elim
  | .obj _ _, h => by unfold RcV at h; exact h.elim
  | .scr _, h => by unfold RcV at h; exact h.elim
  | .exn _ _, h => by unfold RcV at h; exact h.elim
  | .adr _ _, h => by unfold RcV at h; exact h.elim
section
variable {K : PySem.W.Frag} {U U' : Addr → Prop} {H H' : Hp}
mutual
theorem Con.rch {p : Addr} : ∀ {d : D}, Con K U H d p → (∀ a o, Rch H d p a → H a = some o → H' a = some o) → ∀ a, Rch H' d p a ↔ Rch H d p a
  | .ow d, c, h, a => by
    unfold Con at c
    unfold Rch at h ⊢
    rw [ConN.rcn c (h p · (.inl rfl)) (fun a o r => h a o (.inr r)) a]
  | .non, c, h, a => by unfold Rch; exact Iff.rfl
  | .bl _, c, h, a => by unfold Rch; exact Iff.rfl
  | .int _, c, h, a => by unfold Rch; exact Iff.rfl
  | .str _, c, h, a => by unfold Rch; exact Iff.rfl
  | .tup _, c, h, a => by unfold Rch; exact Iff.rfl
  | .lst _, c, h, a => by unfold Rch; exact Iff.rfl
  | .dic _, c, h, a => by unfold Rch; exact Iff.rfl
  | .obj _ _, c, h, a => by unfold Rch; exact Iff.rfl
  | .scr _, c, h, a => by unfold Rch; exact Iff.rfl
  | .exn _ _, c, h, a => by unfold Rch; exact Iff.rfl
  | .adr _ _, c, h, a => by unfold Rch; exact Iff.rfl
theorem ConN.rcn {p : Addr} : ∀ {d : D}, ConN K U H d p → (∀ o, H p = some o → H' p = some o) → (∀ a o, RcN H d p a → H a = some o → H' a = some o) → ∀ a, RcN H' d p a ↔ RcN H d p a
  | .lst ds, c, hp, h, a => by
    unfold ConN at c
    obtain ⟨vs, e, c⟩ := c
    have e' := hp _ e
    have q := ConL.rcl c (fun a o r => h a o (by unfold RcN; exact ⟨vs, e, r⟩)) a
    unfold RcN
    constructor
    · rintro ⟨us, e1, r⟩
      rw [e'] at e1; cases e1
      exact ⟨vs, e, q.mp r⟩
    · rintro ⟨us, e1, r⟩
      rw [e] at e1; cases e1
      exact ⟨vs, e', q.mpr r⟩
  | .tup ds, c, hp, h, a => by
    unfold ConN at c
    obtain ⟨_, vs, e, c⟩ := c
    have e' := hp _ e
    have q := ConL.rcl c (fun a o r => h a o (by unfold RcN; exact ⟨vs, e, r⟩)) a
    unfold RcN
    constructor
    · rintro ⟨us, e1, r⟩
      rw [e'] at e1; cases e1
      exact ⟨vs, e, q.mp r⟩
    · rintro ⟨us, e1, r⟩
      rw [e] at e1; cases e1
      exact ⟨vs, e', q.mpr r⟩
  | .obj n fs, c, hp, h, a => by
    unfold ConN at c
    obtain ⟨C, dx, ws, e, _, c⟩ := c
    have e' := hp _ e
    have q := ConF.rcf c (fun a o r => h a o (by unfold RcN; exact ⟨C, dx, ws, e, r⟩)) a
    unfold RcN
    constructor
    · rintro ⟨C1, dx1, us, e1, r⟩
      rw [e'] at e1; cases e1
      exact ⟨C, dx, ws, e, q.mp r⟩
    · rintro ⟨C1, dx1, us, e1, r⟩
      rw [e] at e1; cases e1
      exact ⟨C, dx, ws, e', q.mpr r⟩
  | .ow _, c, hp, h, a => by unfold RcN; exact Iff.rfl
  | .non, c, hp, h, a => by unfold RcN; exact Iff.rfl
  | .bl _, c, hp, h, a => by unfold RcN; exact Iff.rfl
  | .int _, c, hp, h, a => by unfold RcN; exact Iff.rfl
  | .str _, c, hp, h, a => by unfold RcN; exact Iff.rfl
  | .dic _, c, hp, h, a => by unfold RcN; exact Iff.rfl
  | .scr _, c, hp, h, a => by unfold RcN; exact Iff.rfl
  | .exn _ _, c, hp, h, a => by unfold RcN; exact Iff.rfl
  | .adr _ _, c, hp, h, a => by unfold RcN; exact Iff.rfl
theorem ConL.rcl {p : Addr} : ∀ {ds : List D} {vs : List V}, ConL K U H p ds vs → (∀ a o, RcL H ds vs a → H a = some o → H' a = some o) → ∀ a, RcL H' ds vs a ↔ RcL H ds vs a
  | [], vs, c, h, a => by unfold RcL; exact Iff.rfl
  | d :: ds, vs, c, h, a => by
    unfold ConL at c
    obtain ⟨v, us, e, c1, c2, _⟩ := c
    have q1 := ConV.rcv c1 (fun a o r => h a o (by unfold RcL; exact ⟨v, us, e, .inl r⟩)) a
    have q2 := ConL.rcl c2 (fun a o r => h a o (by unfold RcL; exact ⟨v, us, e, .inr r⟩)) a
    unfold RcL
    subst e
    constructor
    · rintro ⟨v1, us1, e1, r⟩
      cases e1
      exact ⟨v, us, rfl, r.imp q1.mp q2.mp⟩
    · rintro ⟨v1, us1, e1, r⟩
      cases e1
      exact ⟨v, us, rfl, r.imp q1.mpr q2.mpr⟩
theorem ConF.rcf {p : Addr} : ∀ {ds : List (Str × D)} {vs : List (Str × V)}, ConF K U H p ds vs → (∀ a o, RcF H ds vs a → H a = some o → H' a = some o) → ∀ a, RcF H' ds vs a ↔ RcF H ds vs a
  | [], vs, c, h, a => by unfold RcF; exact Iff.rfl
  | (k, d) :: ds, vs, c, h, a => by
    unfold ConF at c
    obtain ⟨v, us, e, c1, c2, _⟩ := c
    have q1 := ConV.rcv c1 (fun a o r => h a o (by unfold RcF; exact ⟨k, v, us, e, .inl r⟩)) a
    have q2 := ConF.rcf c2 (fun a o r => h a o (by unfold RcF; exact ⟨k, v, us, e, .inr r⟩)) a
    unfold RcF
    subst e
    constructor
    · rintro ⟨k1, v1, us1, e1, r⟩
      cases e1
      exact ⟨k, v, us, rfl, r.imp q1.mp q2.mp⟩
    · rintro ⟨k1, v1, us1, e1, r⟩
      cases e1
      exact ⟨k, v, us, rfl, r.imp q1.mpr q2.mpr⟩
theorem ConV.rcv : ∀ {d : D} {v : V}, ConV K U H d v → (∀ a o, RcV H d v a → H a = some o → H' a = some o) → ∀ a, RcV H' d v a ↔ RcV H d v a
  | .ow d, v, c, h, a => by
    unfold ConV at c
    obtain ⟨q, e, c⟩ := c
    have z := Con.rch c (fun a o r => h a o (by unfold RcV; exact ⟨q, e, r⟩)) a
    unfold RcV
    subst e
    constructor
    · rintro ⟨q1, e1, r⟩
      cases e1
      exact ⟨q, rfl, z.mp r⟩
    · rintro ⟨q1, e1, r⟩
      cases e1
      exact ⟨q, rfl, z.mpr r⟩
  | .non, v, c, h, a => by unfold RcV; exact Iff.rfl
  | .bl _, v, c, h, a => by unfold RcV; exact Iff.rfl
  | .int _, v, c, h, a => by unfold RcV; exact Iff.rfl
  | .str _, v, c, h, a => by unfold RcV; exact Iff.rfl
  | .tup _, v, c, h, a => by unfold RcV; exact Iff.rfl
  | .lst _, v, c, h, a => by unfold RcV; exact Iff.rfl
  | .dic _, v, c, h, a => by unfold RcV; exact Iff.rfl
  | .obj _ _, v, c, h, a => by unfold RcV; exact Iff.rfl
  | .scr _, v, c, h, a => by unfold RcV; exact Iff.rfl
  | .exn _ _, v, c, h, a => by unfold RcV; exact Iff.rfl
  | .adr _ _, v, c, h, a => by unfold RcV; exact Iff.rfl
end
mutual
theorem Con.to (t : ∀ a o, H a = some o → ¬ U a → H' a = some o ∧ ¬ U' a) {p : Addr} : ∀ {d : D}, Con K U H d p → (∀ a o, Rch H d p a → H a = some o → H' a = some o) → Con K U' H' d p
  | .lst ds, c, h => by
    unfold Con at c ⊢
    obtain ⟨vs, a, r⟩ := c
    exact ⟨vs, h _ _ Rch.self a, RepL.to t ds vs r⟩
  | .dic ds, c, h => by
    unfold Con at c ⊢
    obtain ⟨vs, a, r⟩ := c
    exact ⟨vs, h _ _ Rch.self a, RepK.to t ds vs r⟩
  | .obj n ds, c, h => by
    unfold Con at c ⊢
    obtain ⟨C, dx, vs, a, c, r⟩ := c
    exact ⟨C, dx, vs, h _ _ Rch.self a, c, RepF.to t ds vs r⟩
  | .ow d, c, h => by
    unfold Con at c ⊢
    unfold Rch at h
    exact ConN.to t c (fun o => h p o (.inl rfl)) (fun a o r => h a o (.inr r))
  | .non, c, h => by unfold Con at c; exact c.elim
  | .bl _, c, h => by unfold Con at c; exact c.elim
  | .int _, c, h => by unfold Con at c; exact c.elim
  | .str _, c, h => by unfold Con at c; exact c.elim
  | .tup _, c, h => by unfold Con at c; exact c.elim
  | .scr _, c, h => by unfold Con at c; exact c.elim
  | .exn _ _, c, h => by unfold Con at c; exact c.elim
  | .adr _ _, c, h => by unfold Con at c; exact c.elim
theorem ConN.to (t : ∀ a o, H a = some o → ¬ U a → H' a = some o ∧ ¬ U' a) {p : Addr} : ∀ {d : D}, ConN K U H d p → (∀ o, H p = some o → H' p = some o) → (∀ a o, RcN H d p a → H a = some o → H' a = some o) → ConN K U' H' d p
  | .lst ds, c, hp, h => by
    unfold ConN at c ⊢
    obtain ⟨vs, a, r⟩ := c
    exact ⟨vs, hp _ a, ConL.to t r fun b o r => h b o (by unfold RcN; exact ⟨vs, a, r⟩)⟩
  | .tup ds, c, hp, h => by
    unfold ConN at c ⊢
    obtain ⟨m, vs, a, r⟩ := c
    exact ⟨m, vs, hp _ a, ConL.to t r fun b o r => h b o (by unfold RcN; exact ⟨vs, a, r⟩)⟩
  | .obj n ds, c, hp, h => by
    unfold ConN at c ⊢
    obtain ⟨C, dx, vs, a, c, r⟩ := c
    exact ⟨C, dx, vs, hp _ a, c, ConF.to t r fun b o r => h b o (by unfold RcN; exact ⟨C, dx, vs, a, r⟩)⟩
  | .ow _, c, hp, h => by unfold ConN at c; exact c.elim
  | .non, c, hp, h => by unfold ConN at c; exact c.elim
  | .bl _, c, hp, h => by unfold ConN at c; exact c.elim
  | .int _, c, hp, h => by unfold ConN at c; exact c.elim
  | .str _, c, hp, h => by unfold ConN at c; exact c.elim
  | .dic _, c, hp, h => by unfold ConN at c; exact c.elim
  | .scr _, c, hp, h => by unfold ConN at c; exact c.elim
  | .exn _ _, c, hp, h => by unfold ConN at c; exact c.elim
  | .adr _ _, c, hp, h => by unfold ConN at c; exact c.elim
theorem ConL.to (t : ∀ a o, H a = some o → ¬ U a → H' a = some o ∧ ¬ U' a) {p : Addr} : ∀ {ds : List D} {vs : List V}, ConL K U H p ds vs → (∀ a o, RcL H ds vs a → H a = some o → H' a = some o) → ConL K U' H' p ds vs
  | [], vs, c, h => by unfold ConL at c ⊢; exact c
  | d :: ds, vs, c, h => by
    unfold ConL at c ⊢
    obtain ⟨v, us, e, c1, c2, c3⟩ := c
    have h1 : ∀ a o, RcV H d v a → H a = some o → H' a = some o := fun a o r => h a o (by unfold RcL; exact ⟨v, us, e, .inl r⟩)
    have h2 : ∀ a o, RcL H ds us a → H a = some o → H' a = some o := fun a o r => h a o (by unfold RcL; exact ⟨v, us, e, .inr r⟩)
    refine ⟨v, us, e, ConV.to t c1 h1, ConL.to t c2 h2, fun a r => ?_⟩
    obtain ⟨q1, q2⟩ := c3 a ((ConV.rcv c1 h1 a).mp r)
    exact ⟨q1, fun z => q2 ((ConL.rcl c2 h2 a).mp z)⟩
theorem ConF.to (t : ∀ a o, H a = some o → ¬ U a → H' a = some o ∧ ¬ U' a) {p : Addr} : ∀ {ds : List (Str × D)} {vs : List (Str × V)}, ConF K U H p ds vs → (∀ a o, RcF H ds vs a → H a = some o → H' a = some o) → ConF K U' H' p ds vs
  | [], vs, c, h => by unfold ConF at c ⊢; exact c
  | (k, d) :: ds, vs, c, h => by
    unfold ConF at c ⊢
    obtain ⟨v, us, e, c1, c2, c3⟩ := c
    have h1 : ∀ a o, RcV H d v a → H a = some o → H' a = some o := fun a o r => h a o (by unfold RcF; exact ⟨k, v, us, e, .inl r⟩)
    have h2 : ∀ a o, RcF H ds us a → H a = some o → H' a = some o := fun a o r => h a o (by unfold RcF; exact ⟨k, v, us, e, .inr r⟩)
    refine ⟨v, us, e, ConV.to t c1 h1, ConF.to t c2 h2, fun a r => ?_⟩
    obtain ⟨q1, q2⟩ := c3 a ((ConV.rcv c1 h1 a).mp r)
    exact ⟨q1, fun z => q2 ((ConF.rcf c2 h2 a).mp z)⟩
theorem ConV.to (t : ∀ a o, H a = some o → ¬ U a → H' a = some o ∧ ¬ U' a) : ∀ {d : D} {v : V}, ConV K U H d v → (∀ a o, RcV H d v a → H a = some o → H' a = some o) → ConV K U' H' d v
  | .ow d, v, c, h => by
    unfold ConV at c ⊢
    obtain ⟨q, e, c⟩ := c
    exact ⟨q, e, Con.to t c fun a o r => h a o (by unfold RcV; exact ⟨q, e, r⟩)⟩
  | .non, v, c, h => by unfold ConV at c ⊢; exact Rep.to t _ v c
  | .bl _, v, c, h => by unfold ConV at c ⊢; exact Rep.to t _ v c
  | .int _, v, c, h => by unfold ConV at c ⊢; exact Rep.to t _ v c
  | .str _, v, c, h => by unfold ConV at c ⊢; exact Rep.to t _ v c
  | .tup _, v, c, h => by unfold ConV at c ⊢; exact Rep.to t _ v c
  | .lst _, v, c, h => by unfold ConV at c ⊢; exact Rep.to t _ v c
  | .dic _, v, c, h => by unfold ConV at c ⊢; exact Rep.to t _ v c
  | .obj _ _, v, c, h => by unfold ConV at c ⊢; exact Rep.to t _ v c
  | .scr _, v, c, h => by unfold ConV at c ⊢; exact Rep.to t _ v c
  | .exn _ _, v, c, h => by unfold ConV at c ⊢; exact Rep.to t _ v c
  | .adr _ _, v, c, h => by unfold ConV at c ⊢; exact Rep.to t _ v c
end
noncomputable def Knd (K : PySem.W.Frag) (H : Hp) (a : Addr) : Prop := (∀ xs, H a ≠ some (.xd xs)) ∧ ∀ (U : Addr → Prop) (d : D), flatD d = true → ¬ Rep K U H d (.ref a)
theorem knd_of {K : PySem.W.Frag} {H : Hp} {a : Addr} {o : HO} (e : H a = some o) (h1 : ∀ xs, o ≠ .tup xs) (h2 : ∀ xs, o ≠ .xd xs) : Knd K H a := by
  refine ⟨fun xs z => h2 xs (Option.some.inj (e.symm.trans z)), fun U d hf r => ?_⟩
  cases d with
  | tup ds =>
    unfold Rep at r
    obtain ⟨p, vs, e1, _, e2, _⟩ := r
    cases e1
    exact h1 vs (Option.some.inj (e.symm.trans e2))
  | non => unfold Rep at r; cases r
  | bl _ => unfold Rep at r; cases r
  | int _ => unfold Rep at r; cases r
  | str _ => unfold Rep at r; cases r
  | _ => unfold flatD at hf; cases hf
mutual
theorem Con.at {p : Addr} : ∀ {d : D}, Con K U H d p → ∀ a, Rch H d p a → ∃ o, H a = some o ∧ Knd K H a
  | .lst ds, c, a, r => by unfold Con at c; unfold Rch at r; subst r; obtain ⟨vs, e, _⟩ := c; exact ⟨_, e, knd_of e (fun _ z => by cases z) (fun _ z => by cases z)⟩
  | .dic ds, c, a, r => by unfold Con at c; unfold Rch at r; subst r; obtain ⟨vs, e, _⟩ := c; exact ⟨_, e, knd_of e (fun _ z => by cases z) (fun _ z => by cases z)⟩
  | .obj n ds, c, a, r => by unfold Con at c; unfold Rch at r; subst r; obtain ⟨C, dx, vs, e, _⟩ := c; exact ⟨_, e, knd_of e (fun _ z => by cases z) (fun _ z => by cases z)⟩
  | .ow d, c, a, r => by
    unfold Con at c
    unfold Rch at r
    rcases r with rfl | r
    · exact ConN.at0 c
    · exact ConN.at c a r
  | .non, c, _, _ => by unfold Con at c; exact c.elim
  | .bl _, c, _, _ => by unfold Con at c; exact c.elim
  | .int _, c, _, _ => by unfold Con at c; exact c.elim
  | .str _, c, _, _ => by unfold Con at c; exact c.elim
  | .tup _, c, _, _ => by unfold Con at c; exact c.elim
  | .scr _, c, _, _ => by unfold Con at c; exact c.elim
  | .exn _ _, c, _, _ => by unfold Con at c; exact c.elim
  | .adr _ _, c, _, _ => by unfold Con at c; exact c.elim
theorem ConN.at0 {p : Addr} : ∀ {d : D}, ConN K U H d p → ∃ o, H p = some o ∧ Knd K H p
  | .lst ds, c => by unfold ConN at c; obtain ⟨vs, e, _⟩ := c; exact ⟨_, e, knd_of e (fun _ z => by cases z) (fun _ z => by cases z)⟩
  | .tup ds, c => by
    unfold ConN at c
    obtain ⟨m, vs, e, c⟩ := c
    refine ⟨_, e, fun xs z => ?_, fun U' d hf r => ?_⟩
    · rw [e] at z; cases z
    · cases d with
      | tup es =>
        unfold Rep at r
        obtain ⟨q, us, e1, _, e2, r⟩ := r
        cases e1
        rw [e] at e2
        cases e2
        unfold flatD at hf
        exact ConL.nf c m U' es hf r
      | non => unfold Rep at r; cases r
      | bl _ => unfold Rep at r; cases r
      | int _ => unfold Rep at r; cases r
      | str _ => unfold Rep at r; cases r
      | _ => unfold flatD at hf; cases hf
  | .obj n ds, c => by unfold ConN at c; obtain ⟨C, dx, vs, e, _⟩ := c; exact ⟨_, e, knd_of e (fun _ z => by cases z) (fun _ z => by cases z)⟩
  | .ow _, c => by unfold ConN at c; exact c.elim
  | .non, c => by unfold ConN at c; exact c.elim
  | .bl _, c => by unfold ConN at c; exact c.elim
  | .int _, c => by unfold ConN at c; exact c.elim
  | .str _, c => by unfold ConN at c; exact c.elim
  | .dic _, c => by unfold ConN at c; exact c.elim
  | .scr _, c => by unfold ConN at c; exact c.elim
  | .exn _ _, c => by unfold ConN at c; exact c.elim
  | .adr _ _, c => by unfold ConN at c; exact c.elim
theorem ConN.at {p : Addr} : ∀ {d : D}, ConN K U H d p → ∀ a, RcN H d p a → ∃ o, H a = some o ∧ Knd K H a
  | .lst ds, c, a, r => by
    unfold ConN at c; unfold RcN at r
    obtain ⟨vs, e, c⟩ := c
    obtain ⟨us, e1, r⟩ := r
    rw [e] at e1; cases e1
    exact ConL.at c a r
  | .tup ds, c, a, r => by
    unfold ConN at c; unfold RcN at r
    obtain ⟨_, vs, e, c⟩ := c
    obtain ⟨us, e1, r⟩ := r
    rw [e] at e1; cases e1
    exact ConL.at c a r
  | .obj n ds, c, a, r => by
    unfold ConN at c; unfold RcN at r
    obtain ⟨C, dx, vs, e, _, c⟩ := c
    obtain ⟨C1, dx1, us, e1, r⟩ := r
    rw [e] at e1; cases e1
    exact ConF.at c a r
  | .ow _, c, _, _ => by unfold ConN at c; exact c.elim
  | .non, c, _, _ => by unfold ConN at c; exact c.elim
  | .bl _, c, _, _ => by unfold ConN at c; exact c.elim
  | .int _, c, _, _ => by unfold ConN at c; exact c.elim
  | .str _, c, _, _ => by unfold ConN at c; exact c.elim
  | .dic _, c, _, _ => by unfold ConN at c; exact c.elim
  | .scr _, c, _, _ => by unfold ConN at c; exact c.elim
  | .exn _ _, c, _, _ => by unfold ConN at c; exact c.elim
  | .adr _ _, c, _, _ => by unfold ConN at c; exact c.elim
theorem ConL.nf {p : Addr} : ∀ {ds : List D} {vs : List V}, ConL K U H p ds vs → (∃ c, D.ow c ∈ ds) → ∀ (U' : Addr → Prop) (es : List D), flatL es = true → ¬ RepL K U' H es vs
  | [], vs, c, m, _, _, _, _ => by obtain ⟨_, m⟩ := m; cases m
  | .ow d :: ds, vs, c, m, U', es, hf, r => by
    unfold ConL at c
    obtain ⟨v, us, e, c1, c2, _⟩ := c
    unfold ConV at c1
    obtain ⟨q, e1, c1⟩ := c1
    subst e
    subst e1
    cases es with
    | nil => unfold RepL at r; cases r
    | cons x es =>
      unfold RepL at r
      unfold flatL at hf
      obtain ⟨v', us', e', r1, r2⟩ := r
      cases e'
      obtain ⟨o, _, kd⟩ := Con.at c1 q Rch.self
      exact kd.2 U' x (Bool.and_eq_true_iff.mp hf).1 r1
  | .non :: ds, vs, c, m, U', es, hf, r => by
    unfold ConL at c
    obtain ⟨v, us, e, c1, c2, _⟩ := c
    subst e
    have m2 : ∃ c, D.ow c ∈ ds := by
      obtain ⟨x, hx⟩ := m
      rcases List.mem_cons.mp hx with z | z
      · cases z
      · exact ⟨x, z⟩
    cases es with
    | nil => unfold RepL at r; cases r
    | cons x es =>
      unfold RepL at r
      unfold flatL at hf
      obtain ⟨v', us', e', r1, r2⟩ := r
      cases e'
      exact ConL.nf c2 m2 U' es (Bool.and_eq_true_iff.mp hf).2 r2
  | .bl _ :: ds, vs, c, m, U', es, hf, r => by
    unfold ConL at c
    obtain ⟨v, us, e, c1, c2, _⟩ := c
    subst e
    have m2 : ∃ c, D.ow c ∈ ds := by
      obtain ⟨x, hx⟩ := m
      rcases List.mem_cons.mp hx with z | z
      · cases z
      · exact ⟨x, z⟩
    cases es with
    | nil => unfold RepL at r; cases r
    | cons x es =>
      unfold RepL at r
      unfold flatL at hf
      obtain ⟨v', us', e', r1, r2⟩ := r
      cases e'
      exact ConL.nf c2 m2 U' es (Bool.and_eq_true_iff.mp hf).2 r2
  | .int _ :: ds, vs, c, m, U', es, hf, r => by
    unfold ConL at c
    obtain ⟨v, us, e, c1, c2, _⟩ := c
    subst e
    have m2 : ∃ c, D.ow c ∈ ds := by
      obtain ⟨x, hx⟩ := m
      rcases List.mem_cons.mp hx with z | z
      · cases z
      · exact ⟨x, z⟩
    cases es with
    | nil => unfold RepL at r; cases r
    | cons x es =>
      unfold RepL at r
      unfold flatL at hf
      obtain ⟨v', us', e', r1, r2⟩ := r
      cases e'
      exact ConL.nf c2 m2 U' es (Bool.and_eq_true_iff.mp hf).2 r2
  | .str _ :: ds, vs, c, m, U', es, hf, r => by
    unfold ConL at c
    obtain ⟨v, us, e, c1, c2, _⟩ := c
    subst e
    have m2 : ∃ c, D.ow c ∈ ds := by
      obtain ⟨x, hx⟩ := m
      rcases List.mem_cons.mp hx with z | z
      · cases z
      · exact ⟨x, z⟩
    cases es with
    | nil => unfold RepL at r; cases r
    | cons x es =>
      unfold RepL at r
      unfold flatL at hf
      obtain ⟨v', us', e', r1, r2⟩ := r
      cases e'
      exact ConL.nf c2 m2 U' es (Bool.and_eq_true_iff.mp hf).2 r2
  | .tup _ :: ds, vs, c, m, U', es, hf, r => by
    unfold ConL at c
    obtain ⟨v, us, e, c1, c2, _⟩ := c
    subst e
    have m2 : ∃ c, D.ow c ∈ ds := by
      obtain ⟨x, hx⟩ := m
      rcases List.mem_cons.mp hx with z | z
      · cases z
      · exact ⟨x, z⟩
    cases es with
    | nil => unfold RepL at r; cases r
    | cons x es =>
      unfold RepL at r
      unfold flatL at hf
      obtain ⟨v', us', e', r1, r2⟩ := r
      cases e'
      exact ConL.nf c2 m2 U' es (Bool.and_eq_true_iff.mp hf).2 r2
  | .lst _ :: ds, vs, c, m, U', es, hf, r => by
    unfold ConL at c
    obtain ⟨v, us, e, c1, c2, _⟩ := c
    subst e
    have m2 : ∃ c, D.ow c ∈ ds := by
      obtain ⟨x, hx⟩ := m
      rcases List.mem_cons.mp hx with z | z
      · cases z
      · exact ⟨x, z⟩
    cases es with
    | nil => unfold RepL at r; cases r
    | cons x es =>
      unfold RepL at r
      unfold flatL at hf
      obtain ⟨v', us', e', r1, r2⟩ := r
      cases e'
      exact ConL.nf c2 m2 U' es (Bool.and_eq_true_iff.mp hf).2 r2
  | .dic _ :: ds, vs, c, m, U', es, hf, r => by
    unfold ConL at c
    obtain ⟨v, us, e, c1, c2, _⟩ := c
    subst e
    have m2 : ∃ c, D.ow c ∈ ds := by
      obtain ⟨x, hx⟩ := m
      rcases List.mem_cons.mp hx with z | z
      · cases z
      · exact ⟨x, z⟩
    cases es with
    | nil => unfold RepL at r; cases r
    | cons x es =>
      unfold RepL at r
      unfold flatL at hf
      obtain ⟨v', us', e', r1, r2⟩ := r
      cases e'
      exact ConL.nf c2 m2 U' es (Bool.and_eq_true_iff.mp hf).2 r2
  | .obj _ _ :: ds, vs, c, m, U', es, hf, r => by
    unfold ConL at c
    obtain ⟨v, us, e, c1, c2, _⟩ := c
    subst e
    have m2 : ∃ c, D.ow c ∈ ds := by
      obtain ⟨x, hx⟩ := m
      rcases List.mem_cons.mp hx with z | z
      · cases z
      · exact ⟨x, z⟩
    cases es with
    | nil => unfold RepL at r; cases r
    | cons x es =>
      unfold RepL at r
      unfold flatL at hf
      obtain ⟨v', us', e', r1, r2⟩ := r
      cases e'
      exact ConL.nf c2 m2 U' es (Bool.and_eq_true_iff.mp hf).2 r2
  | .scr _ :: ds, vs, c, m, U', es, hf, r => by
    unfold ConL at c
    obtain ⟨v, us, e, c1, c2, _⟩ := c
    subst e
    have m2 : ∃ c, D.ow c ∈ ds := by
      obtain ⟨x, hx⟩ := m
      rcases List.mem_cons.mp hx with z | z
      · cases z
      · exact ⟨x, z⟩
    cases es with
    | nil => unfold RepL at r; cases r
    | cons x es =>
      unfold RepL at r
      unfold flatL at hf
      obtain ⟨v', us', e', r1, r2⟩ := r
      cases e'
      exact ConL.nf c2 m2 U' es (Bool.and_eq_true_iff.mp hf).2 r2
  | .exn _ _ :: ds, vs, c, m, U', es, hf, r => by
    unfold ConL at c
    obtain ⟨v, us, e, c1, c2, _⟩ := c
    subst e
    have m2 : ∃ c, D.ow c ∈ ds := by
      obtain ⟨x, hx⟩ := m
      rcases List.mem_cons.mp hx with z | z
      · cases z
      · exact ⟨x, z⟩
    cases es with
    | nil => unfold RepL at r; cases r
    | cons x es =>
      unfold RepL at r
      unfold flatL at hf
      obtain ⟨v', us', e', r1, r2⟩ := r
      cases e'
      exact ConL.nf c2 m2 U' es (Bool.and_eq_true_iff.mp hf).2 r2
  | .adr _ _ :: ds, vs, c, m, U', es, hf, r => by
    unfold ConL at c
    obtain ⟨v, us, e, c1, c2, _⟩ := c
    subst e
    have m2 : ∃ c, D.ow c ∈ ds := by
      obtain ⟨x, hx⟩ := m
      rcases List.mem_cons.mp hx with z | z
      · cases z
      · exact ⟨x, z⟩
    cases es with
    | nil => unfold RepL at r; cases r
    | cons x es =>
      unfold RepL at r
      unfold flatL at hf
      obtain ⟨v', us', e', r1, r2⟩ := r
      cases e'
      exact ConL.nf c2 m2 U' es (Bool.and_eq_true_iff.mp hf).2 r2
theorem ConL.at {p : Addr} : ∀ {ds : List D} {vs : List V}, ConL K U H p ds vs → ∀ a, RcL H ds vs a → ∃ o, H a = some o ∧ Knd K H a
  | [], vs, c, a, r => by unfold RcL at r; exact r.elim
  | d :: ds, vs, c, a, r => by
    unfold ConL at c; unfold RcL at r
    obtain ⟨v, us, e, c1, c2, _⟩ := c
    obtain ⟨v1, us1, e1, r⟩ := r
    subst e; cases e1
    rcases r with r | r
    · exact ConV.at c1 a r
    · exact ConL.at c2 a r
theorem ConF.at {p : Addr} : ∀ {ds : List (Str × D)} {vs : List (Str × V)}, ConF K U H p ds vs → ∀ a, RcF H ds vs a → ∃ o, H a = some o ∧ Knd K H a
  | [], vs, c, a, r => by unfold RcF at r; exact r.elim
  | (k, d) :: ds, vs, c, a, r => by
    unfold ConF at c; unfold RcF at r
    obtain ⟨v, us, e, c1, c2, _⟩ := c
    obtain ⟨k1, v1, us1, e1, r⟩ := r
    subst e; cases e1
    rcases r with r | r
    · exact ConV.at c1 a r
    · exact ConF.at c2 a r
theorem ConV.at : ∀ {d : D} {v : V}, ConV K U H d v → ∀ a, RcV H d v a → ∃ o, H a = some o ∧ Knd K H a
  | .ow d, v, c, a, r => by
    unfold ConV at c; unfold RcV at r
    obtain ⟨q, e, c⟩ := c
    obtain ⟨q1, e1, r⟩ := r
    subst e; cases e1
    exact Con.at c a r
  | .non, _, _, _, r => by unfold RcV at r; exact r.elim
  | .bl _, _, _, _, r => by unfold RcV at r; exact r.elim
  | .int _, _, _, _, r => by unfold RcV at r; exact r.elim
  | .str _, _, _, _, r => by unfold RcV at r; exact r.elim
  | .tup _, _, _, _, r => by unfold RcV at r; exact r.elim
  | .lst _, _, _, _, r => by unfold RcV at r; exact r.elim
  | .dic _, _, _, _, r => by unfold RcV at r; exact r.elim
  | .obj _ _, _, _, _, r => by unfold RcV at r; exact r.elim
  | .scr _, _, _, _, r => by unfold RcV at r; exact r.elim
  | .exn _ _, _, _, _, r => by unfold RcV at r; exact r.elim
  | .adr _ _, _, _, _, r => by unfold RcV at r; exact r.elim
end
mutual
theorem Con.rep {p : Addr} : ∀ {d : D}, Con K U H d p → (∀ a, Rch H d p a → ¬ U a) → Rep K U H d (.ref p)
  | .lst ds, c, nu => by
    unfold Con at c
    obtain ⟨vs, a, r⟩ := c
    unfold Rep
    exact ⟨p, vs, rfl, nu _ Rch.self, a, r⟩
  | .dic ds, c, nu => by
    unfold Con at c
    obtain ⟨vs, a, r⟩ := c
    unfold Rep
    exact ⟨p, vs, rfl, nu _ Rch.self, a, r⟩
  | .obj n ds, c, nu => by
    unfold Con at c
    obtain ⟨C, dx, vs, a, c, r⟩ := c
    unfold Rep
    exact ⟨p, C, dx, vs, rfl, nu _ Rch.self, a, c, r⟩
  | .ow d, c, nu => by
    unfold Con at c
    unfold Rep
    unfold Rch at nu
    refine ⟨by simp, ?_⟩
    exact ConN.rep c (nu p (.inl rfl)) fun a r => nu a (.inr r)
  | .non, c, _ => by unfold Con at c; exact c.elim
  | .bl _, c, _ => by unfold Con at c; exact c.elim
  | .int _, c, _ => by unfold Con at c; exact c.elim
  | .str _, c, _ => by unfold Con at c; exact c.elim
  | .tup _, c, _ => by unfold Con at c; exact c.elim
  | .scr _, c, _ => by unfold Con at c; exact c.elim
  | .exn _ _, c, _ => by unfold Con at c; exact c.elim
  | .adr _ _, c, _ => by unfold Con at c; exact c.elim
theorem ConN.rep {p : Addr} : ∀ {d : D}, ConN K U H d p → ¬ U p → (∀ a, RcN H d p a → ¬ U a) → Rep K U H d (.ref p)
  | .lst ds, c, np, nu => by
    unfold ConN at c
    obtain ⟨vs, e, c⟩ := c
    unfold Rep
    exact ⟨p, vs, rfl, np, e, ConL.rep c fun a r => nu a (by unfold RcN; exact ⟨vs, e, r⟩)⟩
  | .tup ds, c, np, nu => by
    unfold ConN at c
    obtain ⟨_, vs, e, c⟩ := c
    unfold Rep
    exact ⟨p, vs, rfl, np, e, ConL.rep c fun a r => nu a (by unfold RcN; exact ⟨vs, e, r⟩)⟩
  | .obj n fs, c, np, nu => by
    unfold ConN at c
    obtain ⟨C, dx, ws, e, hc, c⟩ := c
    unfold Rep
    exact ⟨p, C, dx, ws, rfl, np, e, hc, ConF.rep c fun a r => nu a (by unfold RcN; exact ⟨C, dx, ws, e, r⟩)⟩
  | .ow _, c, _, _ => by unfold ConN at c; exact c.elim
  | .non, c, _, _ => by unfold ConN at c; exact c.elim
  | .bl _, c, _, _ => by unfold ConN at c; exact c.elim
  | .int _, c, _, _ => by unfold ConN at c; exact c.elim
  | .str _, c, _, _ => by unfold ConN at c; exact c.elim
  | .dic _, c, _, _ => by unfold ConN at c; exact c.elim
  | .scr _, c, _, _ => by unfold ConN at c; exact c.elim
  | .exn _ _, c, _, _ => by unfold ConN at c; exact c.elim
  | .adr _ _, c, _, _ => by unfold ConN at c; exact c.elim
theorem ConL.rep {p : Addr} : ∀ {ds : List D} {vs : List V}, ConL K U H p ds vs → (∀ a, RcL H ds vs a → ¬ U a) → RepL K U H ds vs
  | [], vs, c, _ => by unfold ConL at c; unfold RepL; exact c
  | d :: ds, vs, c, nu => by
    unfold ConL at c
    obtain ⟨v, us, e, c1, c2, _⟩ := c
    unfold RepL
    exact ⟨v, us, e, ConV.rep c1 fun a r => nu a (by unfold RcL; exact ⟨v, us, e, .inl r⟩), ConL.rep c2 fun a r => nu a (by unfold RcL; exact ⟨v, us, e, .inr r⟩)⟩
theorem ConF.rep {p : Addr} : ∀ {ds : List (Str × D)} {vs : List (Str × V)}, ConF K U H p ds vs → (∀ a, RcF H ds vs a → ¬ U a) → RepF K U H ds vs
  | [], vs, c, _ => by unfold ConF at c; unfold RepF; exact c
  | (k, d) :: ds, vs, c, nu => by
    unfold ConF at c
    obtain ⟨v, us, e, c1, c2, _⟩ := c
    unfold RepF
    exact ⟨v, us, e, ConV.rep c1 fun a r => nu a (by unfold RcF; exact ⟨k, v, us, e, .inl r⟩), ConF.rep c2 fun a r => nu a (by unfold RcF; exact ⟨k, v, us, e, .inr r⟩)⟩
theorem ConV.rep : ∀ {d : D} {v : V}, ConV K U H d v → (∀ a, RcV H d v a → ¬ U a) → Rep K U H d v
  | .ow d, v, c, nu => by
    unfold ConV at c
    obtain ⟨q, e, c⟩ := c
    subst e
    unfold Rep
    exact ⟨by simp, Con.rep c fun a r => nu a (by unfold RcV; exact ⟨q, rfl, r⟩)⟩
  | .non, v, c, _ => by unfold ConV at c; exact c
  | .bl _, v, c, _ => by unfold ConV at c; exact c
  | .int _, v, c, _ => by unfold ConV at c; exact c
  | .str _, v, c, _ => by unfold ConV at c; exact c
  | .tup _, v, c, _ => by unfold ConV at c; exact c
  | .lst _, v, c, _ => by unfold ConV at c; exact c
  | .dic _, v, c, _ => by unfold ConV at c; exact c
  | .obj _ _, v, c, _ => by unfold ConV at c; exact c
  | .scr _, v, c, _ => by unfold ConV at c; exact c
  | .exn _ _, v, c, _ => by unfold ConV at c; exact c
  | .adr _ _, v, c, _ => by unfold ConV at c; exact c
end
end
noncomputable def Own (H : Hp) (σ : L2.St) (en : En) (a : Addr) : Prop := ∃ (i : Nat) (b : Bool) (d : D) (p : Addr), en[i]? = some (.o b d) ∧ σ[i]? = some (some (.ref p)) ∧ Rch H d p a
noncomputable def Un (B : Addr → Prop) (H : Hp) (σ : L2.St) (en : En) (a : Addr) : Prop := B a ∨ Own H σ en a
structure Good (K : PySem.W.Frag) (B : Addr → Prop) (H : Hp) (σ : L2.St) (en : En) : Prop where
  len : σ.length = en.length
  all : ∀ a, B a → H a ≠ none
  rep : ∀ (i : Nat) (d : D), en[i]? = some (.v d) → ∃ v, σ[i]? = some (some v) ∧ Rep K (Un B H σ en) H d v
  own : ∀ (i : Nat) (b : Bool) (d : D), en[i]? = some (.o b d) → ∃ p, σ[i]? = some (some (.ref p)) ∧ (∀ a, Rch H d p a → ¬ B a) ∧ Cont K (Un B H σ en) H d p
  inj : ∀ (i j : Nat) (p q a : Addr) (b c : Bool) (d d' : D), en[i]? = some (.o b d) → en[j]? = some (.o c d') → σ[i]? = some (some (.ref p)) → σ[j]? = some (some (.ref q)) → Rch H d p a → Rch H d' q a → i = j
noncomputable def OwnF (H : Hp) (σ : L2.St) (en : En) (a : Addr) : Prop := ∃ (i : Nat) (d : D) (p : Addr), en[i]? = some (.o false d) ∧ σ[i]? = some (some (.ref p)) ∧ Rch H d p a
structure Stp (σ : L2.St) (en : En) (H : Hp) (σ' : L2.St) (en' : En) (H' : Hp) : Prop where
  len : en'.length = en.length
  fr : ∀ a o, H a = some o → ¬ Own H σ en a → H' a = some o
  al : ∀ a, H a ≠ none → H' a ≠ none
  ow : ∀ a, Own H' σ' en' a → Own H σ en a ∨ H a = none
  of : ∀ a, OwnF H' σ' en' a → OwnF H σ en a ∨ H a = none
  pin : ∀ (i : Nat) (d : D), en[i]? = some (.o true d) → σ'[i]? = σ[i]? ∧ ∃ d', en'[i]? = some (.o true d')
  pb : ∀ (i : Nat) (d : D), en'[i]? = some (.o true d) → ∃ d', en[i]? = some (.o true d')
  pr : ∀ (i : Nat) (d d' : D) (p a : Addr), en[i]? = some (.o true d) → en'[i]? = some (.o true d') → σ[i]? = some (some (.ref p)) → Rch H' d' p a → Rch H d p a ∨ H a = none ∨ OwnF H σ en a
structure Bx (B B' : Addr → Prop) (σ : L2.St) (en : En) (H : Hp) : Prop where
  up : ∀ a, B a → B' a
  new : ∀ a, B' a → B a ∨ H a = none ∨ Own H σ en a
noncomputable def Ext (H H' : Hp) : Prop := ∀ a o, H a = some o → H' a = some o
section
variable {K : PySem.W.Frag} {B B' B2 : Addr → Prop} {U U' : Addr → Prop} {H H' H2 : Hp} {σ σ' σ2 : L2.St} {en en' en2 : En} {d : D} {v : V} {p : Addr} {i : Nat}
theorem Cont.to (h : ∀ a o, H a = some o → ¬ U a → H' a = some o ∧ ¬ U' a) (hp : ∀ a o, Rch H d p a → H a = some o → H' a = some o) (c : Cont K U H d p) : Cont K U' H' d p :=
  con_iff.mp (Con.to h (con_iff.mpr c) hp)
theorem Cont.rch (hp : ∀ a o, Rch H d p a → H a = some o → H' a = some o) (c : Cont K U H d p) (a : Addr) : Rch H' d p a ↔ Rch H d p a := Con.rch (con_iff.mpr c) hp a
theorem Cont.atK (c : Cont K U H d p) {a : Addr} (r : Rch H d p a) : ∃ o, H a = some o ∧ Knd K H a := Con.at (con_iff.mpr c) a r
theorem Cont.atR (c : Cont K U H d p) {a : Addr} (r : Rch H d p a) : ∃ o, H a = some o := let ⟨o, e, _⟩ := c.atK r; ⟨o, e⟩
theorem Cont.at (c : Cont K U H d p) : ∃ o, H p = some o := c.atR Rch.self
theorem Cont.rep (nu : ∀ a, Rch H d p a → ¬ U a) (c : Cont K U H d p) : Rep K U H d (.ref p) := Con.rep (con_iff.mpr c) nu
theorem Good.ownAt (G : Good K B H σ en) {a : Addr} (h : Own H σ en a) : ∃ o, H a = some o := by
  obtain ⟨i, b, d, p, e, s, r⟩ := h
  obtain ⟨p, s', _, c⟩ := G.own i b d e
  rw [s] at s'
  cases s'
  exact c.atR r
theorem Good.ownNB (G : Good K B H σ en) {a : Addr} (h : Own H σ en a) : ¬ B a := by
  obtain ⟨i, b, d, p, e, s, r⟩ := h
  obtain ⟨p, s', n, c⟩ := G.own i b d e
  rw [s] at s'
  cases s'
  exact n a r
theorem Good.unAt (G : Good K B H σ en) {a : Addr} (h : Un B H σ en a) : H a ≠ none := by
  rcases h with h | h
  · exact G.all a h
  · obtain ⟨o, e⟩ := G.ownAt h
    rw [e]
    simp
theorem Good.ownIff (G : Good K B H σ en) (h : ∀ a o, Own H σ en a → H a = some o → H' a = some o) (a : Addr) : Own H' σ en a ↔ Own H σ en a := by
  constructor
  · rintro ⟨i, b, d, p, e, s, r⟩
    obtain ⟨p', s', _, c⟩ := G.own i b d e
    rw [s] at s'
    cases s'
    exact ⟨i, b, d, p, e, s, (c.rch (fun a o r => h a o ⟨i, b, d, p, e, s, r⟩) a).mp r⟩
  · rintro ⟨i, b, d, p, e, s, r⟩
    obtain ⟨p', s', _, c⟩ := G.own i b d e
    rw [s] at s'
    cases s'
    exact ⟨i, b, d, p, e, s, (c.rch (fun a o r => h a o ⟨i, b, d, p, e, s, r⟩) a).mpr r⟩
theorem Good.ownFIff (G : Good K B H σ en) (h : ∀ a o, Own H σ en a → H a = some o → H' a = some o) (a : Addr) : OwnF H' σ en a ↔ OwnF H σ en a := by
  constructor
  · rintro ⟨i, d, p, e, s, r⟩
    obtain ⟨p', s', _, c⟩ := G.own i false d e
    rw [s] at s'
    cases s'
    exact ⟨i, d, p, e, s, (c.rch (fun a o r => h a o ⟨i, false, d, p, e, s, r⟩) a).mp r⟩
  · rintro ⟨i, d, p, e, s, r⟩
    obtain ⟨p', s', _, c⟩ := G.own i false d e
    rw [s] at s'
    cases s'
    exact ⟨i, d, p, e, s, (c.rch (fun a o r => h a o ⟨i, false, d, p, e, s, r⟩) a).mpr r⟩
theorem OwnF.own {a : Addr} (h : OwnF H σ en a) : Own H σ en a := let ⟨i, d, p, e, s, r⟩ := h; ⟨i, false, d, p, e, s, r⟩
theorem Stp.refl (σ : L2.St) (en : En) (H : Hp) : Stp σ en H σ en H := ⟨rfl, fun _ _ h _ => h, fun _ h => h, fun _ h => .inl h, fun _ h => .inl h, fun _ d h => ⟨rfl, d, h⟩, fun _ d h => ⟨d, h⟩, fun i d d' p a e1 e2 _ r => .inl (by rw [e1] at e2; cases e2; exact r)⟩
theorem Stp.trans (a : Stp σ en H σ' en' H') (b : Stp σ' en' H' σ2 en2 H2) : Stp σ en H σ2 en2 H2 where
  len := b.len.trans a.len
  fr := fun x o h n => b.fr x o (a.fr x o h n) fun q => by
    rcases a.ow x q with q | q
    · exact n q
    · rw [h] at q; cases q
  al := fun x h => b.al x (a.al x h)
  ow := fun x h => by
    rcases b.ow x h with q | q
    · exact a.ow x q
    · refine .inr (Classical.byContradiction fun z => a.al x z q)
  of := fun x h => by
    rcases b.of x h with q | q
    · exact a.of x q
    · refine .inr (Classical.byContradiction fun z => a.al x z q)
  pin := fun i d h => by
    obtain ⟨e1, d1, h1⟩ := a.pin i d h
    obtain ⟨e2, d2, h2⟩ := b.pin i d1 h1
    exact ⟨e2.trans e1, d2, h2⟩
  pb := fun i d h => by
    obtain ⟨d1, h1⟩ := b.pb i d h
    exact a.pb i d1 h1
  pr := fun i d d' p x h1 h2 s r => by
    obtain ⟨e1, d1, h3⟩ := a.pin i d h1
    rcases b.pr i d1 d' p x h3 h2 (e1.trans s) r with q | q | q
    · exact a.pr i d d1 p x h1 h3 s q
    · exact .inr (.inl (Classical.byContradiction fun z => a.al x z q))
    · exact .inr (a.of x q).symm
theorem Stp.ext (G : Good K B H σ en) (h : Ext H H') : Stp σ en H σ en H' := ⟨rfl, fun a o e _ => h a o e, fun a e => by
  cases q : H a with
  | none => exact absurd q e
  | some o => rw [h a o q]; simp, fun a q => .inl ((G.ownIff (fun a o _ => h a o) a).mp q), fun a q => .inl ((G.ownFIff (fun a o _ => h a o) a).mp q), fun _ d h => ⟨rfl, d, h⟩, fun _ d h => ⟨d, h⟩, fun i d d' p a e1 e2 s r => .inl (by
    rw [e1] at e2; cases e2
    obtain ⟨p', s', _, c⟩ := G.own i true d e1
    rw [s] at s'; cases s'
    exact (c.rch (fun a o _ => h a o) a).mp r)⟩
theorem Bx.refl (B : Addr → Prop) (σ : L2.St) (en : En) (H : Hp) : Bx B B σ en H := ⟨fun _ h => h, fun _ h => .inl h⟩
theorem Bx.trans (a : Bx B B' σ en H) (s : Stp σ en H σ' en' H') (b : Bx B' B2 σ' en' H') : Bx B B2 σ en H :=
  ⟨fun x h => b.up x (a.up x h), fun x h => by
    rcases b.new x h with q | q | q
    · exact a.new x q
    · exact .inr (.inl (Classical.byContradiction fun z => s.al x z q))
    · rcases s.ow x q with q | q
      · exact .inr (.inr q)
      · exact .inr (.inl q)⟩
theorem stepTo (s : Stp σ en H σ' en' H') (b : Bx B B' σ en H) : ∀ a o, H a = some o → ¬ Un B H σ en a → H' a = some o ∧ ¬ Un B' H' σ' en' a := fun a o h n =>
  ⟨s.fr a o h fun q => n (.inr q), fun q => by
    rcases q with q | q
    · rcases b.new a q with q | q | q
      · exact n (.inl q)
      · rw [h] at q; cases q
      · exact n (.inr q)
    · rcases s.ow a q with q | q
      · exact n (.inr q)
      · rw [h] at q; cases q⟩
theorem Rep.step (s : Stp σ en H σ' en' H') (b : Bx B B' σ en H) (r : Rep K (Un B H σ en) H d v) : Rep K (Un B' H' σ' en') H' d v := Rep.to (stepTo s b) d v r
theorem Un.mono (h : ∀ a, B a → B' a) {a : Addr} (q : Un B H σ en a) : Un B' H σ en a := q.imp (h a) id
theorem Good.mono (G : Good K B' H σ en) (h : ∀ a, B a → B' a) : Good K B H σ en where
  len := G.len
  all := fun a q => G.all a (h a q)
  rep := fun i d e => by
    obtain ⟨v, s, r⟩ := G.rep i d e
    exact ⟨v, s, Rep.to (fun a o x n => ⟨x, fun q => n (Un.mono h q)⟩) d v r⟩
  own := fun i b d e => by
    obtain ⟨p, s, n, c⟩ := G.own i b d e
    exact ⟨p, s, fun a r q => n a r (h a q), Cont.to (fun a o x n => ⟨x, fun q => n (Un.mono h q)⟩) (fun _ _ _ x => x) c⟩
  inj := G.inj
theorem Good.ext (G : Good K B H σ en) (h : Ext H H') (hb : ∀ a, B' a → B a ∨ (H a = none ∧ H' a ≠ none)) : Good K B' H' σ en := by
  have oi := G.ownIff (H' := H') (fun a o _ => h a o)
  have t : ∀ a o, H a = some o → ¬ Un B H σ en a → H' a = some o ∧ ¬ Un B' H' σ en a := fun a o e n => ⟨h a o e, fun q => by
    rcases q with q | q
    · rcases hb a q with q | q
      · exact n (.inl q)
      · rw [e] at q; cases q.1
    · exact n (.inr ((oi a).mp q))⟩
  exact {
    len := G.len
    all := fun a q => by
      rcases hb a q with q | q
      · have := G.all a q
        cases e : H a with
        | none => exact absurd e this
        | some o => rw [h a o e]; simp
      · exact q.2
    rep := fun i d e => by
      obtain ⟨v, s, r⟩ := G.rep i d e
      exact ⟨v, s, Rep.to t d v r⟩
    own := fun i b d e => by
      obtain ⟨p, s, n, c⟩ := G.own i b d e
      refine ⟨p, s, fun a r z => ?_, Cont.to t (fun a o _ x => h a o x) c⟩
      have r' := (c.rch (H' := H') (fun a o _ => h a o) a).mp r
      obtain ⟨o, q⟩ := c.atR r'
      rcases hb a z with z | z
      · exact n a r' z
      · rw [q] at z; cases z.1
    inj := fun i j p q a b c d d' e1 e2 s1 s2 r1 r2 => by
      obtain ⟨p', t1, _, c1⟩ := G.own i b d e1
      rw [s1] at t1; cases t1
      obtain ⟨q', t2, _, c2⟩ := G.own j c d' e2
      rw [s2] at t2; cases t2
      exact G.inj i j p q a b c d d' e1 e2 s1 s2 ((c1.rch (H' := H') (fun a o _ => h a o) a).mp r1) ((c2.rch (H' := H') (fun a o _ => h a o) a).mp r2) }
theorem Good.ext0 (G : Good K B H σ en) (h : Ext H H') : Good K B H' σ en := G.ext h fun _ q => .inl q
noncomputable def ArgR (K : PySem.W.Frag) (B : Addr → Prop) (σ : L2.St) (en : En) (H : Hp) : R → V → Prop
  | .sh d, v => Rep K (Un B H σ en) H d v
  | .fr d, v => ∃ p, v = .ref p ∧ (∀ a, Rch H d p a → B a) ∧ Cont K (Un B H σ en) H d p
  | .sl i, v => σ[i]? = some (some v)
noncomputable def frN (σ : L2.St) (en : En) (H H' : Hp) (r : R) (v : V) : Prop := match r with
  | .fr d => ∀ p a, v = .ref p → Rch H' d p a → H a = none ∨ OwnF H σ en a
  | _ => True
noncomputable def frNs (σ : L2.St) (en : En) (H H' : Hp) : List R → List V → Prop
  | r :: rs, v :: vs => frN σ en H H' r v ∧ frNs σ en H H' rs vs
  | _, _ => True
theorem frN.step (s : Stp σ en H σ' en' H') : ∀ {r : R} {v : V}, frN σ' en' H' H2 r v → frN σ en H H2 r v
  | .sh _, _, _ => trivial
  | .sl _, _, _ => trivial
  | .fr d, v, h => fun p a e r => by
    rcases h p a e r with q | q
    · exact .inl (Classical.byContradiction fun z => s.al a z q)
    · exact (s.of a q).symm
noncomputable def RcR (H : Hp) : R → V → Addr → Prop
  | .fr d, v, a => ∃ p, v = .ref p ∧ Rch H d p a
  | _, _, _ => False
noncomputable def RcRs (H : Hp) : List R → List V → Addr → Prop
  | r :: rs, v :: vs, a => RcR H r v a ∨ RcRs H rs vs a
  | _, _, _ => False
noncomputable def ArgRs (K : PySem.W.Frag) (B : Addr → Prop) (σ : L2.St) (en : En) (H : Hp) : List R → List V → Prop
  | [], vs => vs = []
  | r :: rs, vs => ∃ v us, vs = v :: us ∧ ArgR K B σ en H r v ∧ ArgRs K B σ en H rs us ∧ ∀ a, RcR H r v a → ¬ RcRs H rs us a
theorem frNs.step (s : Stp σ en H σ' en' H') : ∀ {rs : List R} {vs : List V}, frNs σ' en' H' H2 rs vs → frNs σ en H H2 rs vs
  | [], _, _ => trivial
  | _ :: _, [], _ => trivial
  | r :: rs, v :: vs, h => ⟨h.1.step s, frNs.step s h.2⟩
theorem Cont.step (s : Stp σ en H σ' en' H') (b : Bx B B' σ en H) (hp : ∀ a, Rch H d p a → ¬ Own H σ en a) (c : Cont K (Un B H σ en) H d p) : Cont K (Un B' H' σ' en') H' d p :=
  Cont.to (stepTo s b) (fun a o r x => s.fr a o x (hp a r)) c
theorem ArgR.step (G : Good K B H σ en) (s : Stp σ en H σ' en' H') (hs : σ' = σ) (b : Bx B B' σ en H) : ∀ {r : R} {v : V}, ArgR K B σ en H r v → ArgR K B' σ' en' H' r v
  | .sh d, v, h => Rep.step s b h
  | .fr d, v, ⟨p, e, q, c⟩ => by
    have no : ∀ a, Rch H d p a → ¬ Own H σ en a := fun a r z => G.ownNB z (q a r)
    exact ⟨p, e, fun a r => b.up a (q a ((c.rch (fun a o r x => s.fr a o x (no a r)) a).mp r)), c.step s b no⟩
  | .sl i, v, h => by
    show σ'[i]? = _
    rw [hs]; exact h
theorem ArgR.rcR (G : Good K B H σ en) (s : Stp σ en H σ' en' H') : ∀ {r : R} {v : V}, ArgR K B σ en H r v → ∀ a, RcR H' r v a ↔ RcR H r v a
  | .sh d, v, h, a => Iff.rfl
  | .sl i, v, h, a => Iff.rfl
  | .fr d, v, ⟨p, e, q, c⟩, a => by
    have z := c.rch (H' := H') (fun a o r x => s.fr a o x fun z => G.ownNB z (q a r)) a
    subst e
    constructor
    · rintro ⟨p1, e1, r⟩
      cases e1
      exact ⟨p, rfl, z.mp r⟩
    · rintro ⟨p1, e1, r⟩
      cases e1
      exact ⟨p, rfl, z.mpr r⟩
theorem ArgRs.rcRs (G : Good K B H σ en) (s : Stp σ en H σ' en' H') : ∀ {rs : List R} {vs : List V}, ArgRs K B σ en H rs vs → ∀ a, RcRs H' rs vs a ↔ RcRs H rs vs a
  | [], vs, h, a => by unfold RcRs; exact Iff.rfl
  | r :: rs, vs, ⟨v, us, e, h1, h2, _⟩, a => by
    subst e
    show _ ∨ _ ↔ _ ∨ _
    rw [ArgR.rcR G s h1 a, ArgRs.rcRs G s h2 a]
theorem ArgRs.step (G : Good K B H σ en) (s : Stp σ en H σ' en' H') (hs : σ' = σ) (b : Bx B B' σ en H) : ∀ {rs : List R} {vs : List V}, ArgRs K B σ en H rs vs → ArgRs K B' σ' en' H' rs vs
  | [], vs, h => h
  | r :: rs, vs, ⟨v, us, e, h1, h2, h3⟩ => ⟨v, us, e, ArgR.step G s hs b h1, ArgRs.step G s hs b h2, fun a q z => h3 a ((ArgR.rcR G s h1 a).mp q) ((ArgRs.rcRs G s h2 a).mp z)⟩
noncomputable def ExR (K : PySem.W.Frag) (U : Addr → Prop) (H : Hp) (x : Ex) (c : Value) (od : Option Addr) : Prop :=
  ClsN K x.cls c ∧ match x.fld with
    | none => od = none
    | some (f, d) => ∃ a v, od = some a ∧ ¬ U a ∧ H a = some (.xd [(f, v)]) ∧ Rep K U H d v
end
section
variable (K : PySem.W.Frag) (W : WX)
noncomputable def RdE (f : M R) : TE := fun σ H Q => ∃ B en, Good K B H σ en ∧ match f en with
  | .ok r en' => ∀ v H', (∃ B', Bx B B' σ en H ∧ Good K B' H' σ en' ∧ ArgR K B' σ en' H' r v ∧ frN σ en H H' r v) → Stp σ en H σ en' H' → Q v H'
  | .exc x en' => ∀ c od H', ExR K (Un B H' σ en') H' x c od → Good K B H' σ en' → Stp σ en H σ en' H' → W c od σ H'
  | .bad => False
noncomputable def RdA (f : M (List R)) : TA := fun σ H Q => ∃ B en, Good K B H σ en ∧ match f en with
  | .ok rs en' => ∀ vs H', (∃ B', Bx B B' σ en H ∧ Good K B' H' σ en' ∧ ArgRs K B' σ en' H' rs vs ∧ frNs σ en H H' rs vs) → Stp σ en H σ en' H' → Q vs H'
  | .exc x en' => ∀ c od H', ExR K (Un B H' σ en') H' x c od → Good K B H' σ en' → Stp σ en H σ en' H' → W c od σ H'
  | .bad => False
noncomputable def RdT (f : M Bool) : TT := fun σ H Q => ∃ B en, Good K B H σ en ∧ match f en with
  | .ok b en' => ∀ H', (∃ B', Bx B B' σ en H ∧ Good K B' H' σ en') → Stp σ en H σ en' H' → Q b H'
  | .exc x en' => ∀ c od H', ExR K (Un B H' σ en') H' x c od → Good K B H' σ en' → Stp σ en H σ en' H' → W c od σ H'
  | .bad => False
noncomputable def RdS (f : En → Fl) : TS := fun D σ H => ∃ B en, Good K B H σ en ∧ match f en with
  | .nx en' => ∀ σ' H', Good K B H' σ' en' → Stp σ en H σ' en' H' → D.nx σ' H'
  | .bk en' => ∀ σ' H', Good K B H' σ' en' → Stp σ en H σ' en' H' → D.bk σ' H'
  | .ct en' => ∀ σ' H', Good K B H' σ' en' → Stp σ en H σ' en' H' → D.ct σ' H'
  | .rt r en' => ∀ v σ' H', (∃ B', Bx B B' σ en H ∧ Good K B' H' σ' en' ∧ ArgR K B' σ' en' H' r v ∧ frN σ en H H' r v) → Stp σ en H σ' en' H' → D.rt v H'
  | .exc x en' => ∀ c od σ' H', ExR K (Un B H' σ' en') H' x c od → Good K B H' σ' en' → Stp σ en H σ' en' H' → W c od σ' H'
  | .bad => False
noncomputable def RdG (f : D → M Unit) : TG := fun v σ H Q => ∃ B en d, Good K B H σ en ∧ Rep K (Un B H σ en) H d v ∧ match f d en with
  | .ok _ en' => ∀ σ' H', Good K B H' σ' en' → Stp σ en H σ' en' H' → Q σ' H'
  | _ => False
end
end PyD

namespace PyD
open PySem PySem.Spec L2
section
variable {X : Cx}
theorem pe_imp {e : Expr} {t t' : TE} (h : PE X e t) (i : ∀ σ H Q, t' σ H Q → t σ H Q) : PE X e t' := ⟨fun pins s σ H Q I q => h.run pins s σ H Q I (i σ H Q q)⟩
theorem pt_imp {e : Expr} {t t' : TT} (h : PT X e t) (i : ∀ σ H Q, t' σ H Q → t σ H Q) : PT X e t' := ⟨fun pins s σ H Q I q => h.run pins s σ H Q I (i σ H Q q)⟩
theorem pw_imp {e : Expr} {t t' : TT} (h : PW X e t) (i : ∀ σ H Q, t' σ H Q → t σ H Q) : PW X e t' := ⟨fun wh pins s σ H Q I q => h.run wh pins s σ H Q I (i σ H Q q)⟩
theorem pa_imp {e : List Expr} {t t' : TA} (h : PA X e t) (i : ∀ σ H Q, t' σ H Q → t σ H Q) : PA X e t' := ⟨fun pos pins s σ H Q I q => h.run pos pins s σ H Q I (i σ H Q q)⟩
theorem ps_imp {e : Stmt} {t t' : TS} (h : PS X e t) (i : ∀ D σ H, t' D σ H → t D σ H) : PS X e t' := ⟨fun pins s σ H D I q => h.run pins s σ H D I (i D σ H q)⟩
theorem pss_imp {e : List Stmt} {t t' : TS} (h : PSs X e t) (i : ∀ D σ H, t' D σ H → t D σ H) : PSs X e t' := ⟨fun pins s σ H D I q => h.run pins s σ H D I (i D σ H q)⟩
theorem pg_imp {e : Expr} {t t' : TG} (h : PG X e t) (i : ∀ v σ H Q, t' v σ H Q → t v σ H Q) : PG X e t' := ⟨fun pins s σ H v u Q I r q => h.run pins s σ H v u Q I r (i v σ H Q q)⟩
theorem pi_imp {tg e : Expr} {t t' : TI} (h : PI X tg e t) (i : ∀ σ H R, t' σ H R → t σ H R) : PI X tg e t' := ⟨fun pins s σ H R I q => h.run pins s σ H R I (i σ H R q)⟩
theorem CallR_or {f : Value} {r r' : List V → Hp → VK → Prop} (h : CallR X f r) (h' : CallR X f r') : CallR X f (fun xs H Q => r xs H Q ∨ r' xs H Q) :=
  fun pins s σ H xs us Q I v q => q.elim (h pins s σ H xs us Q I v) (h' pins s σ H xs us Q I v)
end
noncomputable def nmF (i : Nat) : M R := fun en => match en[i]? with
  | some (.v d) => .ok (.sh d) en
  | some (.o _ _) => .ok (.sl i) en
  | _ => .bad
noncomputable def mvF (i : Nat) : M R := fun en => match en[i]? with
  | some (.v d) => .ok (.sh d) en
  | some (.o false d) => .ok (.fr d) (en.set i .e)
  | _ => .bad
noncomputable def dmF (i : Nat) : M R := fun en => match en[i]? with
  | some (.v d) => .ok (.sh d) en
  | some (.o false d) => .ok (.sh d) (en.set i (.v d))
  | _ => .bad
noncomputable def cF (d : D) : M R := fun en => .ok (.sh d) en
noncomputable def nilF : M (List R) := fun en => .ok [] en
noncomputable def consF (f : M R) (fs : M (List R)) : M (List R) := fun en => match f en with
  | .ok r en1 => (match fs en1 with
    | .ok rs en2 => .ok (r :: rs) en2
    | .exc x en2 => .exc x en2
    | .bad => .bad)
  | .exc x en1 => .exc x en1
  | .bad => .bad
noncomputable def rsl (en : En) : R → Option D
  | .sh d => some d
  | .fr d => some d
  | .sl i => match en[i]? with
    | some (.o _ d) => some d
    | _ => none
noncomputable def rsls (en : En) : List R → Option (List D)
  | [] => some []
  | r :: rs => match rsl en r with
    | some d => (match rsls en rs with
      | some ds => some (d :: ds)
      | none => none)
    | none => none
noncomputable def mkR (b : Bool) (d : D) : R := match b with
  | true => .fr d
  | false => .sh d
noncomputable def opF (g : List D → Option (Bool × D)) (fs : M (List R)) : M R := fun en => match fs en with
  | .ok rs en1 => (match rsls en1 rs with
    | some ds => (match g ds with
      | some (b, d) => .ok (mkR b d) en1
      | none => .bad)
    | none => .bad)
  | .exc x en1 => .exc x en1
  | .bad => .bad
section
variable (K : PySem.W.Frag)
noncomputable def HdN (H : Hp) : D → V → Prop
  | .lst ds, v => ∃ a vs, v = .ref a ∧ H a = some (.lst vs) ∧ vs.length = ds.length
  | .obj n fs, v => ∃ a C dx ws, v = .ref a ∧ H a = some (.ins C dx ws) ∧ ClsO K n C ∧ ws.map (·.1) = fs.map (·.1)
  | _, v => v ≠ .non
noncomputable def ARep (U : Addr → Prop) (H : Hp) : D → V → Prop
  | .lst ds, v => ∃ a vs, v = .ref a ∧ H a = some (.lst vs) ∧ RepL K U H ds vs
  | .dic kvs, v => ∃ a ws, v = .ref a ∧ H a = some (.dK ws) ∧ RepK K U H kvs ws
  | .obj n fs, v => ∃ a C dx ws, v = .ref a ∧ H a = some (.ins C dx ws) ∧ ClsO K n C ∧ RepF K U H fs ws
  | .ow d, v => HdN K H d v
  | d, v => Rep K U H d v
noncomputable def ARepL (U : Addr → Prop) (H : Hp) : List D → List V → Prop
  | [], vs => vs = []
  | d :: ds, vs => ∃ v us, vs = v :: us ∧ ARep K U H d v ∧ ARepL U H ds us
noncomputable def Fresh (U : Addr → Prop) (H H' : Hp) (d : D) (v : V) : Prop := ∃ p, v = .ref p ∧ H p = none ∧ Cont K (fun a => U a ∨ a = p) H' d p ∧ d.flatO = true
noncomputable def Prim (r : List V → Hp → VK → Prop) (g : List D → Option (Bool × D)) : Prop :=
  ∀ (U : Addr → Prop) (H : Hp) (ds : List D) (vs : List V) (Q : VK) (b : Bool) (d : D), (∀ a, U a → H a ≠ none) → ARepL K U H ds vs → g ds = some (b, d) →
    (∀ v H', Ext H H' → (b = false → Rep K U H' d v) → (b = true → Fresh K U H H' d v) → Q v H') → r vs H Q
end
section
variable {K : PySem.W.Frag} {W : WX} {B B' : Addr → Prop} {U U' : Addr → Prop} {H H' : Hp} {σ : L2.St} {en en' : En} {d : D} {v : V} {Q Q' : VK}
theorem HdN.ne : ∀ {d : D} {v : V}, HdN K H d v → v ≠ .non
  | .lst _, v, ⟨_, _, e, _⟩ => by rw [e]; simp
  | .obj _ _, v, ⟨_, _, _, _, e, _⟩ => by rw [e]; simp
  | .non, _, h => h
  | .bl _, _, h => h
  | .int _, _, h => h
  | .str _, _, h => h
  | .tup _, _, h => h
  | .dic _, _, h => h
  | .scr _, _, h => h
  | .exn _ _, _, h => h
  | .adr _ _, _, h => h
  | .ow _, _, h => h
theorem repL_len : ∀ {ds : List D} {vs : List V}, RepL K U H ds vs → vs.length = ds.length
  | [], vs, h => by unfold RepL at h; rw [h]; rfl
  | d :: ds, vs, h => by
    unfold RepL at h
    obtain ⟨v, us, e, _, r⟩ := h
    rw [e, List.length_cons, List.length_cons, repL_len r]
theorem repF_keys : ∀ {ds : List (Str × D)} {vs : List (Str × V)}, RepF K U H ds vs → vs.map (·.1) = ds.map (·.1)
  | [], vs, h => by unfold RepF at h; rw [h]; rfl
  | (k, d) :: ds, vs, h => by
    unfold RepF at h
    obtain ⟨v, us, e, _, r⟩ := h
    rw [e, List.map_cons, List.map_cons, repF_keys r]
theorem conL_len {p : Addr} : ∀ {ds : List D} {vs : List V}, ConL K U H p ds vs → vs.length = ds.length
  | [], vs, h => by unfold ConL at h; rw [h]; rfl
  | d :: ds, vs, h => by
    unfold ConL at h
    obtain ⟨v, us, e, _, r, _⟩ := h
    rw [e, List.length_cons, List.length_cons, conL_len r]
theorem conF_keys {p : Addr} : ∀ {ds : List (Str × D)} {vs : List (Str × V)}, ConF K U H p ds vs → vs.map (·.1) = ds.map (·.1)
  | [], vs, h => by unfold ConF at h; rw [h]; rfl
  | (k, d) :: ds, vs, h => by
    unfold ConF at h
    obtain ⟨v, us, e, _, r, _⟩ := h
    rw [e, List.map_cons, List.map_cons, conF_keys r]
theorem repHdN (hv : v ≠ .non) : ∀ {d : D}, Rep K U H d v → HdN K H d v
  | .lst ds, h => by
    unfold Rep at h
    obtain ⟨a, vs, e, _, ha, r⟩ := h
    exact ⟨a, vs, e, ha, repL_len r⟩
  | .obj n fs, h => by
    unfold Rep at h
    obtain ⟨a, C, dx, ws, e, _, ha, hc, r⟩ := h
    exact ⟨a, C, dx, ws, e, ha, hc, repF_keys r⟩
  | .non, _ => hv
  | .bl _, _ => hv
  | .int _, _ => hv
  | .str _, _ => hv
  | .tup _, _ => hv
  | .dic _, _ => hv
  | .scr _, _ => hv
  | .exn _ _, _ => hv
  | .adr _ _, _ => hv
  | .ow _, _ => hv
theorem conHdN {p : Addr} : ∀ {d : D}, ConN K U H d p → HdN K H d (.ref p)
  | .lst ds, h => by
    unfold ConN at h
    obtain ⟨vs, ha, r⟩ := h
    exact ⟨p, vs, rfl, ha, conL_len r⟩
  | .obj n fs, h => by
    unfold ConN at h
    obtain ⟨C, dx, ws, ha, hc, r⟩ := h
    exact ⟨p, C, dx, ws, rfl, ha, hc, conF_keys r⟩
  | .non, _ => by simp [HdN]
  | .bl _, _ => by simp [HdN]
  | .int _, _ => by simp [HdN]
  | .str _, _ => by simp [HdN]
  | .tup _, _ => by simp [HdN]
  | .dic _, _ => by simp [HdN]
  | .scr _, _ => by simp [HdN]
  | .exn _ _, _ => by simp [HdN]
  | .adr _ _, _ => by simp [HdN]
  | .ow _, _ => by simp [HdN]
theorem Rep.arep : ∀ {d : D} {v : V}, Rep K U H d v → ARep K U H d v
  | .non, v, h => h
  | .bl _, v, h => h
  | .int _, v, h => h
  | .str _, v, h => h
  | .tup _, v, h => h
  | .scr _, v, h => h
  | .exn _ _, v, h => h
  | .adr _ _, v, h => h
  | .ow d, v, h => by unfold Rep at h; exact repHdN h.1 h.2
  | .lst ds, v, h => by
    unfold Rep at h
    obtain ⟨a, vs, e, _, c, q⟩ := h
    exact ⟨a, vs, e, c, q⟩
  | .dic _, v, h => by
    unfold Rep at h
    obtain ⟨a, ws, e, _, ha, q⟩ := h
    exact ⟨a, ws, e, ha, q⟩
  | .obj _ _, v, h => by
    unfold Rep at h
    obtain ⟨a, C, dx, ws, e, _, ha, hc, q⟩ := h
    exact ⟨a, C, dx, ws, e, ha, hc, q⟩
theorem Cont.arep {p : Addr} : ∀ {d : D}, Cont K U H d p → ARep K U H d (.ref p)
  | .lst _, ⟨vs, a, r⟩ => ⟨p, vs, rfl, a, r⟩
  | .dic _, ⟨vs, a, r⟩ => ⟨p, vs, rfl, a, r⟩
  | .obj _ _, ⟨C, dx, vs, a, c, r⟩ => ⟨p, C, dx, vs, rfl, a, c, r⟩
  | .ow d, c => conHdN c
theorem ArgR.arep (G : Good K B H σ en) : ∀ {r : R} {v : V} {d : D}, ArgR K B σ en H r v → rsl en r = some d → ARep K (Un B H σ en) H d v
  | .sh d', v, d, h, e => by
    cases e
    exact Rep.arep h
  | .fr d', v, d, ⟨p, e1, _, c⟩, e => by
    cases e
    rw [e1]
    exact c.arep
  | .sl i, v, d, h, e => by
    unfold rsl at e
    dsimp only at e
    cases q : en[i]? with
    | none => rw [q] at e; cases e
    | some s =>
      rw [q] at e
      cases s with
      | e => cases e
      | v x => cases e
      | o b x =>
        cases e
        obtain ⟨p, s1, _, c⟩ := G.own i b d q
        have h' : σ[i]? = some (some v) := h
        rw [s1] at h'
        cases h'
        exact c.arep
theorem ArgRs.arep (G : Good K B H σ en) : ∀ {rs : List R} {vs : List V} {ds : List D}, ArgRs K B σ en H rs vs → rsls en rs = some ds → ARepL K (Un B H σ en) H ds vs
  | [], vs, ds, h, e => by
    cases e
    exact h
  | r :: rs, vs, ds, ⟨v, us, e1, h1, h2, _⟩, e => by
    unfold rsls at e
    cases q : rsl en r with
    | none => rw [q] at e; cases e
    | some d =>
      rw [q] at e
      dsimp only at e
      cases q2 : rsls en rs with
      | none => rw [q2] at e; cases e
      | some ds' =>
        rw [q2] at e
        cases e
        exact ⟨v, us, e1, ArgR.arep G h1 q, ArgRs.arep G h2 q2⟩
theorem RdE.mono {f : M R} (h : ∀ v H, Q v H → Q' v H) (r : RdE K W f σ H Q) : RdE K W f σ H Q' := by
  obtain ⟨B, en, G, m⟩ := r
  refine ⟨B, en, G, ?_⟩
  revert m
  cases f en with
  | ok r en' => exact fun m v H' a b => h v H' (m v H' a b)
  | exc x en' => exact fun m => m
  | bad => exact fun m => m
theorem frN.later {B1 : Addr → Prop} {H1 H2 : Hp} {en1 en2 : En} {r : R} (G1 : Good K B1 H1 σ en1) (st : Stp σ en1 H1 σ en2 H2) (h : ArgR K B1 σ en1 H1 r v) (n : frN σ en H H1 r v) : frN σ en H H2 r v := by
  cases r with
  | sh d => trivial
  | sl i => trivial
  | fr d =>
    intro p a e q
    have z := (ArgR.rcR G1 st h a).mp ⟨p, e, q⟩
    obtain ⟨p', e', q'⟩ := z
    exact n p' a e' q'
theorem frNs.rc {H2 : Hp} : ∀ {rs : List R} {vs : List V} {a : Addr}, frNs σ en H H2 rs vs → RcRs H2 rs vs a → H a = none ∨ OwnF H σ en a
  | [], vs, a, _, z => by unfold RcRs at z; exact z.elim
  | r :: rs, [], a, _, z => by unfold RcRs at z; exact z.elim
  | r :: rs, v :: vs, a, n, z => by
    rcases z with z | z
    · cases r with
      | sh d => exact z.elim
      | sl i => exact z.elim
      | fr d =>
        obtain ⟨p, e, q⟩ := z
        exact n.1 p a e q
    · exact frNs.rc n.2 z
theorem ArgRs.cons' {B1 B2 : Addr → Prop} {H1 H2 : Hp} {en1 en2 : En} {r : R} {rs : List R} {us : List V} (G1 : Good K B1 H1 σ en1) (st2 : Stp σ en1 H1 σ en2 H2) (b2 : Bx B1 B2 σ en1 H1) (r1 : ArgR K B1 σ en1 H1 r v) (r2 : ArgRs K B2 σ en2 H2 rs us) (n2 : frNs σ en1 H1 H2 rs us) :
    ArgRs K B2 σ en2 H2 (r :: rs) (v :: us) := by
  refine ⟨v, us, rfl, ArgR.step G1 st2 rfl b2 r1, r2, fun a q z => ?_⟩
  have q1 := (ArgR.rcR G1 st2 r1 a).mp q
  cases r with
  | sh d => exact q1
  | sl i => exact q1
  | fr d =>
    obtain ⟨p, e, rr⟩ := q1
    obtain ⟨p', e', bb, cc⟩ := r1
    rw [e] at e'; cases e'
    rcases frNs.rc n2 z with y | y
    · obtain ⟨o, ho⟩ := cc.atR rr
      rw [ho] at y; cases y
    · exact G1.ownNB y.own (bb a rr)
theorem consImp {f : M R} {fs : M (List R)} {Q : List V → Hp → Prop} (r : RdA K W (consF f fs) σ H Q) : tCons (RdE K W f) (RdA K W fs) σ H Q := by
  obtain ⟨B, en, G, m⟩ := r
  refine ⟨B, en, G, ?_⟩
  unfold consF at m
  cases e1 : f en with
  | bad => rw [e1] at m; exact m
  | exc x en1 => rw [e1] at m; exact m
  | ok r en1 =>
    rw [e1] at m
    dsimp only at m ⊢
    intro v H1 ⟨B1, b1, G1, r1, n1⟩ st1
    refine ⟨B1, en1, G1, ?_⟩
    cases e2 : fs en1 with
    | bad => rw [e2] at m; exact m
    | exc x en2 =>
      rw [e2] at m
      intro c od H2 hx G2 st2
      exact m c od H2 (by
        obtain ⟨h1, h2⟩ := hx
        refine ⟨h1, ?_⟩
        revert h2
        cases x.fld with
        | none => exact fun h2 => h2
        | some fd => exact fun ⟨a, v, e, nu, ha, hr⟩ => ⟨a, v, e, fun q => nu (Un.mono b1.up q), ha, Rep.to (fun a o x n => ⟨x, fun q => n (Un.mono b1.up q)⟩) _ _ hr⟩) (G2.mono b1.up) (st1.trans st2)
    | ok rs en2 =>
      rw [e2] at m
      intro us H2 ⟨B2, b2, G2, r2, n2⟩ st2
      refine m (v :: us) H2 ⟨B2, b1.trans st1 b2, G2, ⟨v, us, rfl, ArgR.step G1 st2 rfl b2 r1, r2, fun a q z => ?_⟩, frN.later G1 st2 r1 n1, n2.step st1⟩ (st1.trans st2)
      have q1 := (ArgR.rcR G1 st2 r1 a).mp q
      cases r with
      | sh d => exact q1
      | sl i => exact q1
      | fr d =>
        obtain ⟨p, e, rr⟩ := q1
        obtain ⟨p', e', bb, cc⟩ := r1
        rw [e] at e'; cases e'
        rcases frNs.rc n2 z with y | y
        · obtain ⟨o, ho⟩ := cc.atR rr
          rw [ho] at y; cases y
        · exact G1.ownNB y.own (bb a rr)
theorem nilImp {Q : List V → Hp → Prop} (r : RdA K W nilF σ H Q) : tNil σ H Q := by
  obtain ⟨B, en, G, m⟩ := r
  exact m [] H ⟨B, Bx.refl B σ en H, G, rfl, trivial⟩ (Stp.refl σ en H)
theorem un_or {p : Addr} {a : Addr} (h : Un (fun x => B x ∨ x = p) H σ en a) : Un B H σ en a ∨ a = p := by
  rcases h with (h | h) | h
  · exact .inl (.inl h)
  · exact .inr h
  · exact .inl (.inr h)
theorem opImp {r : List V → Hp → VK → Prop} {g : List D → Option (Bool × D)} {fs : M (List R)} (hp : Prim K r g) (m : RdE K W (opF g fs) σ H Q) : RdA K W fs σ H (fun vs H' => r vs H' Q) := by
  obtain ⟨B, en, G, m⟩ := m
  refine ⟨B, en, G, ?_⟩
  unfold opF at m
  cases e1 : fs en with
  | bad => rw [e1] at m; exact m
  | exc x en1 => rw [e1] at m; exact m
  | ok rs en1 =>
    rw [e1] at m
    dsimp only at m ⊢
    intro vs H1 ⟨B1, b1, G1, r1, n1⟩ st1
    cases e2 : rsls en1 rs with
    | none => rw [e2] at m; exact m.elim
    | some ds =>
      rw [e2] at m
      dsimp only at m
      cases e3 : g ds with
      | none => rw [e3] at m; exact m.elim
      | some bd =>
        obtain ⟨b, d⟩ := bd
        rw [e3] at m
        dsimp only at m
        refine hp (Un B1 H1 σ en1) H1 ds vs Q b d (fun a => G1.unAt) (ArgRs.arep G1 r1 e2) e3 fun v H2 x2 h1 h2 => ?_
        have st2 : Stp σ en1 H1 σ en1 H2 := Stp.ext G1 x2
        have oi := G1.ownIff (H' := H2) (fun a o _ => x2 a o)
        cases b with
        | false => exact m v H2 ⟨B1, b1, G1.ext0 x2, Rep.to (fun a o x n => ⟨x, fun z => n (z.imp id (oi a).mp)⟩) _ _ (h1 rfl), trivial⟩ (st1.trans st2)
        | true =>
          obtain ⟨p, ep, np, c, fl⟩ := h2 rfl
          obtain ⟨o, ho⟩ := c.at
          have b2 : Bx B1 (fun x => B1 x ∨ x = p) σ en1 H1 := ⟨fun a h => .inl h, fun a h => by
            rcases h with h | h
            · exact .inl h
            · rw [h]; exact .inr (.inl np)⟩
          refine m v H2 ⟨fun x => B1 x ∨ x = p, b1.trans st1 b2, G1.ext x2 (fun a h => ?_), ⟨p, ep, fun a r => .inr (Rch.flat fl r), Cont.to (fun a o x n => ⟨x, fun q => n ((un_or q).imp (fun z => z.imp id (oi a).mp) id)⟩) (fun _ _ _ x => x) c⟩, ?_⟩ (st1.trans st2)
          · rcases h with h | h
            · exact .inl h
            · rw [h, ho]; exact .inr ⟨np, by simp⟩
          · intro q a e r
            rw [ep] at e
            cases e
            rw [Rch.flat fl r]
            exact .inl (Classical.byContradiction fun z => st1.al p z np)
end
section
variable {X : Cx} {W : WX} {pos : Pos}
theorem e_nm (i : Nat) {x : Str} (hN : X.N[i]? = some x := by rfl) (hv : Vis X.env.scope x := by first | exact Or.inl rfl | exact Or.inr (Or.inl rfl) | exact Or.inr (Or.inr rfl)) (hd : (x == ("__debug__" : Str)) = false := by decide)
    (hcd : (x == ("__classdict__" : Str)) = false := by decide) : PE X (.Name x pos) (RdE X.K W (nmF i)) := by
  refine pe_imp (pe_var (i := i) hN hv hd hcd) fun σ H Q ⟨B, en, G, m⟩ => ?_
  unfold nmF at m
  revert m
  cases e : en[i]? with
  | none => exact fun m => m.elim
  | some s =>
    cases s with
    | e => exact fun m => m.elim
    | v d =>
      intro m
      obtain ⟨v, s, r⟩ := G.rep i d e
      exact ⟨v, s, m v H ⟨B, Bx.refl B σ en H, G, r, trivial⟩ (Stp.refl σ en H)⟩
    | o b d =>
      intro m
      obtain ⟨p, s, n, c⟩ := G.own i b d e
      exact ⟨.ref p, s, m (.ref p) H ⟨B, Bx.refl B σ en H, G, s, trivial⟩ (Stp.refl σ en H)⟩
end
section
variable {K : PySem.W.Frag} {B B' : Addr → Prop} {H H' : Hp} {σ : L2.St} {en en' : En} {d : D} {i : Nat} {p : Addr}
theorem set_get {α : Type} {l : List α} {i j : Nat} {x y : α} (h : (l.set i x)[j]? = some y) : (i = j ∧ y = x ∧ i < l.length) ∨ (i ≠ j ∧ l[j]? = some y) := by
  by_cases e : i = j
  · subst e
    rw [List.getElem?_set] at h
    by_cases q : i < l.length
    · rw [if_pos rfl, if_pos q] at h
      exact .inl ⟨rfl, (Option.some.inj h).symm, q⟩
    · rw [if_pos rfl, if_neg q] at h
      cases h
  · rw [List.getElem?_set_ne e] at h
    exact .inr ⟨e, h⟩
theorem get_lt {α : Type} {l : List α} {i : Nat} {x : α} (h : l[i]? = some x) : i < l.length := by
  rcases Nat.lt_or_ge i l.length with q | q
  · exact q
  · rw [List.getElem?_eq_none q] at h; cases h
theorem own_set_e {a : Addr} (h : Own H σ (en.set i .e) a) : Own H σ en a := by
  obtain ⟨j, b, d, p, e, s, r⟩ := h
  rcases set_get e with ⟨_, q, _⟩ | ⟨_, q⟩
  · cases q
  · exact ⟨j, b, d, p, q, s, r⟩
theorem Good.drop (G : Good K B H σ en) : Good K B H σ (en.set i .e) where
  len := by rw [List.length_set]; exact G.len
  all := G.all
  rep := fun j d e => by
    rcases set_get e with ⟨_, q, _⟩ | ⟨_, q⟩
    · cases q
    · obtain ⟨v, s, r⟩ := G.rep j d q
      exact ⟨v, s, Rep.to (fun a o x n => ⟨x, fun z => n (z.imp id own_set_e)⟩) d v r⟩
  own := fun j b d e => by
    rcases set_get e with ⟨_, q, _⟩ | ⟨_, q⟩
    · cases q
    · obtain ⟨p, s, n, c⟩ := G.own j b d q
      exact ⟨p, s, n, Cont.to (fun a o x n => ⟨x, fun z => n (z.imp id own_set_e)⟩) (fun _ _ _ x => x) c⟩
  inj := fun j k p p' a b c d d' e1 e2 s1 s2 => by
    rcases set_get e1 with ⟨_, q, _⟩ | ⟨_, q1⟩
    · cases q
    · rcases set_get e2 with ⟨_, q, _⟩ | ⟨_, q2⟩
      · cases q
      · exact G.inj j k p p' a b c d d' q1 q2 s1 s2
theorem own_drop (G : Good K B H σ en) {d0 : D} {b0 : Bool} (e0 : en[i]? = some (.o b0 d0)) (s0 : σ[i]? = some (some (.ref p))) {s : Sl} (hs : ∀ b d, s ≠ .o b d) {a : Addr} (h : Own H σ (en.set i s) a) : Own H σ en a ∧ ¬ Rch H d0 p a := by
  obtain ⟨j, b, d, p1, e, s1, r⟩ := h
  rcases set_get e with ⟨_, q, _⟩ | ⟨ne, q⟩
  · exact absurd q.symm (hs b d)
  · exact ⟨⟨j, b, d, p1, q, s1, r⟩, fun z => ne (G.inj i j p p1 a b0 b d0 d e0 q s0 s1 z r)⟩
theorem Good.moved (G : Good K B H σ en) {d0 : D} {b0 : Bool} (e0 : en[i]? = some (.o b0 d0)) (s0 : σ[i]? = some (some (.ref p))) : Good K (fun a => B a ∨ Rch H d0 p a) H σ (en.set i .e) := by
  have t : ∀ a, Un (fun a => B a ∨ Rch H d0 p a) H σ (en.set i .e) a → Un B H σ en a := fun a h => by
    rcases h with (h | h) | h
    · exact .inl h
    · exact .inr ⟨i, b0, d0, p, e0, s0, h⟩
    · exact .inr (own_set_e h)
  have t' : ∀ a o, H a = some o → ¬ Un B H σ en a → H a = some o ∧ ¬ Un (fun a => B a ∨ Rch H d0 p a) H σ (en.set i .e) a := fun a o x n => ⟨x, fun z => n (t a z)⟩
  have G' := G.drop (i := i)
  exact {
    len := G'.len
    all := fun a h => by
      rcases h with h | h
      · exact G.all a h
      · obtain ⟨o, e⟩ := G.ownAt ⟨i, b0, d0, p, e0, s0, h⟩
        rw [e]; simp
    rep := fun j d e => by
      rcases set_get e with ⟨_, q, _⟩ | ⟨_, q⟩
      · cases q
      · obtain ⟨v, s, r⟩ := G.rep j d q
        exact ⟨v, s, Rep.to t' d v r⟩
    own := fun j b d e => by
      rcases set_get e with ⟨_, q, _⟩ | ⟨ne, q⟩
      · cases q
      · obtain ⟨p', s, n, c⟩ := G.own j b d q
        refine ⟨p', s, fun a r z => ?_, Cont.to t' (fun _ _ _ x => x) c⟩
        rcases z with z | z
        · exact n a r z
        · exact ne (G.inj i j p p' a b0 b d0 d e0 q s0 s z r)
    inj := G'.inj }
theorem Stp.drop {s : Sl} (hs : ∀ b d, s ≠ .o b d) (e0 : ∀ d, en[i]? ≠ some (.o true d)) (h : ∀ a, Own H σ (en.set i s) a → Own H σ en a) : Stp σ en H σ (en.set i s) H where
  len := List.length_set
  fr := fun _ _ h _ => h
  al := fun _ h => h
  ow := fun a q => .inl (h a q)
  of := fun a q => .inl (by
    obtain ⟨j, d, p, e, s1, r⟩ := q
    rcases set_get e with ⟨_, q, _⟩ | ⟨_, q⟩
    · exact absurd q.symm (hs false d)
    · exact ⟨j, d, p, q, s1, r⟩)
  pin := fun j d e => ⟨rfl, d, by
    by_cases q : i = j
    · subst q
      exact absurd e (e0 d)
    · rw [List.getElem?_set_ne q]
      exact e⟩
  pb := fun j d e => by
    rcases set_get e with ⟨_, q, _⟩ | ⟨_, q⟩
    · exact absurd q.symm (hs true d)
    · exact ⟨d, q⟩
  pr := fun j d d' p a e1 e2 _ r => by
    rcases set_get e2 with ⟨_, q, _⟩ | ⟨_, q⟩
    · exact absurd q.symm (hs true d')
    · rw [e1] at q; cases q; exact .inl r
end
section
variable {X : Cx} {W : WX} {pos : Pos}
theorem e_mv (i : Nat) {x : Str} (hN : X.N[i]? = some x := by rfl) (hv : Vis X.env.scope x := by first | exact Or.inl rfl | exact Or.inr (Or.inl rfl) | exact Or.inr (Or.inr rfl)) (hd : (x == ("__debug__" : Str)) = false := by decide)
    (hcd : (x == ("__classdict__" : Str)) = false := by decide) : PE X (.Name x pos) (RdE X.K W (mvF i)) := by
  refine pe_imp (pe_var (i := i) hN hv hd hcd) fun σ H Q ⟨B, en, G, m⟩ => ?_
  unfold mvF at m
  revert m
  cases e : en[i]? with
  | none => exact fun m => m.elim
  | some s =>
    cases s with
    | e => exact fun m => m.elim
    | v d =>
      intro m
      obtain ⟨v, s, r⟩ := G.rep i d e
      exact ⟨v, s, m v H ⟨B, Bx.refl B σ en H, G, r, trivial⟩ (Stp.refl σ en H)⟩
    | o b d =>
      cases b with
      | true => exact fun m => m.elim
      | false =>
        intro m
        obtain ⟨p, s, n, c⟩ := G.own i false d e
        have t : ∀ a, Un (fun a => B a ∨ Rch H d p a) H σ (en.set i .e) a → Un B H σ en a := fun a h => by
          rcases h with (h | h) | h
          · exact .inl h
          · exact .inr ⟨i, false, d, p, e, s, h⟩
          · exact .inr (own_set_e h)
        refine ⟨.ref p, s, m (.ref p) H ⟨fun a => B a ∨ Rch H d p a, ⟨fun a h => .inl h, fun a h => ?_⟩, G.moved e s, ⟨p, rfl, fun a r => .inr r, Cont.to (fun a o x n => ⟨x, fun z => n (t a z)⟩) (fun _ _ _ x => x) c⟩, ?_⟩ (Stp.drop (fun b d z => by cases z) (fun d' z => by rw [e] at z; cases z) fun a z => own_set_e z)⟩
        · rcases h with h | h
          · exact .inl h
          · exact .inr (.inr ⟨i, false, d, p, e, s, h⟩)
        · intro q a eq r
          cases eq
          exact .inr ⟨i, d, p, e, s, r⟩
theorem e_c {e : Expr} {d : D} {v : V} (h : PE X e (tC v)) (r : ∀ U H, Rep X.K U H d v) : PE X e (RdE X.K W (cF d)) :=
  pe_imp h fun σ H Q ⟨B, en, G, m⟩ => m v H ⟨B, Bx.refl B σ en H, G, r _ _, trivial⟩ (Stp.refl σ en H)
theorem e_int {i j} : PE X (.Constant (.int i) j pos) (RdE X.K W (cF (.int i))) := e_c pe_int fun _ _ => by unfold Rep; rfl
theorem e_bl {i j} : PE X (.Constant (.bool i) j pos) (RdE X.K W (cF (.bl i))) := e_c pe_bl fun _ _ => by unfold Rep; rfl
theorem e_non {j} : PE X (.Constant .none j pos) (RdE X.K W (cF .non)) := e_c pe_non fun _ _ => by unfold Rep; rfl
theorem e_str {x j} : PE X (.Constant (.str x) j pos) (RdE X.K W (cF (.str x))) := e_c pe_str fun _ _ => by unfold Rep; rfl
theorem a_nil : PA X [] (RdA X.K W nilF) := pa_imp pa_nil fun σ H Q q => nilImp q
theorem a_cons {e : Expr} {es : List Expr} {f : M R} {fs : M (List R)} (ha : PE X e (RdE X.K W f)) (hr : PA X es (RdA X.K W fs)) (hs : starEach (e :: es) X.env = (false, eval e X.env) :: starEach es X.env := by rfl) :
    PA X (e :: es) (RdA X.K W (consF f fs)) := pa_imp (pa_cons ha hr hs) fun σ H Q q => consImp q
noncomputable def r1 (r : V → Hp → VK → Prop) : List V → Hp → VK → Prop := fun vs H Q => ∃ x, vs = [x] ∧ r x H Q
noncomputable def r2 (r : R2) : List V → Hp → VK → Prop := fun vs H Q => ∃ x y, vs = [x, y] ∧ r x y H Q
noncomputable def one (f : M R) : M (List R) := consF f nilF
noncomputable def two (f g : M R) : M (List R) := consF f (consF g nilF)
theorem imp1 {K : PySem.W.Frag} {f : M R} {σ : L2.St} {H : Hp} {k : List V → Hp → Prop} (m : RdA K W (one f) σ H k) : RdE K W f σ H fun x H1 => k [x] H1 :=
  RdE.mono (fun v H1 q => (nilImp q : tNil σ H1 fun xs H2 => k (v :: xs) H2)) (consImp m)
theorem imp2 {K : PySem.W.Frag} {f g : M R} {σ : L2.St} {H : Hp} {k : List V → Hp → Prop} (m : RdA K W (two f g) σ H k) : RdE K W f σ H fun x H1 => RdE K W g σ H1 fun y H2 => k [x, y] H2 :=
  RdE.mono (fun v H q => imp1 q) (consImp m)
theorem impOp {K : PySem.W.Frag} {r : R2} {g : List D → Option (Bool × D)} {fa fb : M R} {σ : L2.St} {H : Hp} {Q : VK} (hp : Prim K (r2 r) g) (m : RdE K W (opF g (two fa fb)) σ H Q) : tOp r (RdE K W fa) (RdE K W fb) σ H Q := by
  refine RdE.mono (fun x H1 q => RdE.mono (fun y H2 q => ?_) q) (imp2 (opImp hp m))
  obtain ⟨a, b, e, z⟩ := q
  cases e
  exact z
theorem impUn {K : PySem.W.Frag} {r : V → Hp → VK → Prop} {g : List D → Option (Bool × D)} {fa : M R} {σ : L2.St} {H : Hp} {Q : VK} (hp : Prim K (r1 r) g) (m : RdE K W (opF g (one fa)) σ H Q) : tUn r (RdE K W fa) σ H Q := by
  refine RdE.mono (fun x H1 q => ?_) (imp1 (opImp hp m))
  obtain ⟨a, e, z⟩ := q
  cases e
  exact z
variable {a b : Expr} {fa fb : M R} {g : List D → Option (Bool × D)}
theorem e_bin {op : Operator} {r : R2} (ho : OpR X (binaryOp op) r) (hp : Prim X.K (r2 r) g) (ha : PE X a (RdE X.K W fa)) (hb : PE X b (RdE X.K W fb)) : PE X (.BinOp a op b pos) (RdE X.K W (opF g (two fa fb))) :=
  pe_imp (pe_op ho ha hb) fun σ H Q m => impOp hp m
theorem e_un {op : UnaryOp} {r : V → Hp → VK → Prop} (ho : UnR X (unaryOp op) r) (hp : Prim X.K (r1 r) g) (ha : PE X a (RdE X.K W fa)) : PE X (.UnaryOp op a pos) (RdE X.K W (opF g (one fa))) :=
  pe_imp (pe_un ho ha) fun σ H Q m => impUn hp m
theorem e_cmp {op : CmpOp} {r : R2} (ho : OpR X (compareOp op) r) (hp : Prim X.K (r2 r) g) (ha : PE X a (RdE X.K W fa)) (hb : PE X b (RdE X.K W fb)) (hm : behindInMarks op b = false) : PE X (.Compare a [op] [b] pos) (RdE X.K W (opF g (two fa fb))) :=
  pe_imp (pe_cmpR ho ha hb hm) fun σ H Q m => impOp hp m
theorem e_ix {r : R2} (hr : IxR X r) (hp : Prim X.K (r2 r) g) (ha : PE X a (RdE X.K W fa)) (hb : PE X b (RdE X.K W fb)) (hs : PlainIx b) : PE X (.Subscript a b pos) (RdE X.K W (opF g (two fa fb))) :=
  pe_imp (pe_ix hr ha hb hs) fun σ H Q m => impOp hp m
variable {x : Str} {p : Pos} {e : Expr} {es : List Expr} {fs : M (List R)} {id T : String} {r : List V → Hp → VK → Prop}
theorem e_callB (hc : CallR X (.builtin id) r) (hp : Prim X.K r g) (hg : Gl X x) (hm : X.mg x = none) (hv : bootBuiltins x = some (.builtin id)) (ha : PA X (e :: es) (RdA X.K W fs)) (hn : x ≠ "__name__" := by decide) (hdb : (x == ("__debug__" : Str)) = false := by decide)
    (he : starEach (e :: es) X.env = (false, eval e X.env) :: starEach es X.env := by rfl) (hpl : (backTo pos (starEach es X.env)).any (·.1) = false := by rfl) : PE X (.Call (.Name x p) (e :: es) [] pos) (RdE X.K W (opF g fs)) :=
  pe_imp (pe_callB hc hg hm hv ha hn hdb he hpl) fun σ H Q m => opImp hp m
theorem e_callTy (hc : CallR X (.type T) r) (hp : Prim X.K r g) (hg : Gl X x) (hm : X.mg x = none) (hv : bootBuiltins x = some (.type T)) (ha : PA X (e :: es) (RdA X.K W fs)) (hn : x ≠ "__name__" := by decide) (hdb : (x == ("__debug__" : Str)) = false := by decide)
    (he : starEach (e :: es) X.env = (false, eval e X.env) :: starEach es X.env := by rfl) (hpl : (backTo pos (starEach es X.env)).any (·.1) = false := by rfl) : PE X (.Call (.Name x p) (e :: es) [] pos) (RdE X.K W (opF g fs)) :=
  pe_imp (pe_callTy hc hg hm hv ha hn hdb he hpl) fun σ H Q m => opImp hp m
end
end PyD

namespace PyD
open PySem PySem.Spec L2
noncomputable def truD : D → Option Bool
  | .non => some false
  | .bl b => some b
  | .int i => some (i != 0)
  | .str s => if s.length ≤ sizeLine then some ((s.length : Int) != 0) else none
  | .tup ds => some (!ds.isEmpty)
  | .lst ds => some (!ds.isEmpty)
  | .dic ds => some (!ds.isEmpty)
  | .obj _ _ => none
  | .scr _ => none
  | .exn _ _ => none
  | .adr _ _ => none
  | .ow _ => none
noncomputable def tstF (f : M R) : M Bool := fun en => match f en with
  | .ok r en1 => (match rsl en1 r with
    | some d => (match truD d with
      | some b => .ok b en1
      | none => .bad)
    | none => .bad)
  | .exc x en1 => .exc x en1
  | .bad => .bad
noncomputable def blD : D → Option Bool
  | .bl b => some b
  | _ => none
noncomputable def tstB (f : M R) : M Bool := fun en => match f en with
  | .ok r en1 => (match rsl en1 r with
    | some d => (match blD d with
      | some b => .ok b en1
      | none => .bad)
    | none => .bad)
  | .exc x en1 => .exc x en1
  | .bad => .bad
noncomputable def notT (f : M Bool) : M Bool := fun en => match f en with
  | .ok b en1 => .ok (!b) en1
  | .exc x en1 => .exc x en1
  | .bad => .bad
noncomputable def andT (f g : M Bool) : M Bool := fun en => match f en with
  | .ok true en1 => g en1
  | .ok false en1 => .ok false en1
  | .exc x en1 => .exc x en1
  | .bad => .bad
noncomputable def orT (f g : M Bool) : M Bool := fun en => match f en with
  | .ok true en1 => .ok true en1
  | .ok false en1 => g en1
  | .exc x en1 => .exc x en1
  | .bad => .bad
noncomputable def ifF (t : M Bool) (f g : M R) : M R := fun en => match t en with
  | .ok true en1 => f en1
  | .ok false en1 => g en1
  | .exc x en1 => .exc x en1
  | .bad => .bad
noncomputable def andF (f g : M R) : M R := fun en => match tstB f en with
  | .ok true en1 => g en1
  | .ok false en1 => .ok (.sh (.bl false)) en1
  | .exc x en1 => .exc x en1
  | .bad => .bad
noncomputable def orF (f g : M R) : M R := fun en => match tstB f en with
  | .ok true en1 => .ok (.sh (.bl true)) en1
  | .ok false en1 => g en1
  | .exc x en1 => .exc x en1
  | .bad => .bad
noncomputable def notF (f : M R) : M R := fun en => match tstB f en with
  | .ok b en1 => .ok (.sh (.bl (!b))) en1
  | .exc x en1 => .exc x en1
  | .bad => .bad
section
variable {K : PySem.W.Frag} {W : WX} {B B' : Addr → Prop} {U : Addr → Prop} {H H' : Hp} {σ : L2.St} {en en' : En} {d : D} {v : V}
theorem RepL.nil_iff : ∀ {ds : List D} {vs : List V}, RepL K U H ds vs → (!ds.isEmpty) = !vs.isEmpty
  | [], vs, h => by
    unfold RepL at h
    rw [h] <;> rfl
  | d :: ds, vs, h => by
    unfold RepL at h
    obtain ⟨v, r, e, _⟩ := h
    rw [e] <;> rfl
theorem RepK.nil_iff : ∀ {ds : List (Key × D)} {vs : List (Key × V)}, RepK K U H ds vs → (!ds.isEmpty) = !vs.isEmpty
  | [], vs, h => by
    unfold RepK at h
    rw [h] <;> rfl
  | (k, d) :: ds, vs, h => by
    unfold RepK at h
    obtain ⟨v, r, e, _⟩ := h
    rw [e] <;> rfl
theorem ARep.tru : ∀ {d : D} {v : V} {b : Bool}, ARep K U H d v → truD d = some b → TruV K v H b
  | .non, v, b, h, e => by
    unfold ARep Rep at h
    rw [h]
    exact (Option.some.inj e).symm
  | .bl _, v, b, h, e => by
    unfold ARep Rep at h
    rw [h]
    exact (Option.some.inj e).symm
  | .int _, v, b, h, e => by
    unfold ARep Rep at h
    rw [h]
    exact (Option.some.inj e).symm
  | .str s, v, b, h, e => by
    unfold ARep Rep at h
    rw [h]
    unfold truD at e
    dsimp only at e
    by_cases q : s.length ≤ sizeLine
    · rw [if_pos q] at e
      exact ⟨q, (Option.some.inj e).symm⟩
    · rw [if_neg q] at e
      cases e
  | .tup ds, v, b, h, e => by
    unfold ARep Rep at h
    obtain ⟨a, vs, e1, _, ha, r⟩ := h
    rw [e1, ← Option.some.inj e]
    exact .inr (.inl ⟨vs, SqT.of ha, r.nil_iff⟩)
  | .lst ds, v, b, h, e => by
    obtain ⟨a, vs, e1, ha, r⟩ := h
    rw [e1, ← Option.some.inj e]
    exact .inl ⟨vs, SqL.of ha, r.nil_iff⟩
  | .dic ds, v, b, h, e => by
    obtain ⟨a, vs, e1, ha, r⟩ := h
    rw [e1, ← Option.some.inj e]
    exact .inr (.inr ⟨vs, ha, r.nil_iff⟩)
  | .obj _ _, v, b, h, e => by
    unfold truD at e
    cases e
  | .scr _, v, b, h, e => by
    unfold truD at e
    cases e
  | .exn _ _, v, b, h, e => by
    unfold truD at e
    cases e
  | .ow _, v, b, h, e => by
    unfold truD at e
    cases e
  | .adr _ _, v, b, h, e => by
    unfold truD at e
    cases e
theorem RdT.mono {f : M Bool} {Q Q' : Bool → Hp → Prop} (h : ∀ v H, Q v H → Q' v H) (r : RdT K W f σ H Q) : RdT K W f σ H Q' := by
  obtain ⟨B, en, G, m⟩ := r
  refine ⟨B, en, G, ?_⟩
  revert m
  cases f en with
  | ok r en' => exact fun m H' a b => h _ H' (m H' a b)
  | exc x en' => exact fun m => m
  | bad => exact fun m => m
theorem tstImp {f : M R} {Q : Bool → Hp → Prop} (m : RdT K W (tstF f) σ H Q) : RdE K W f σ H fun x H' => ∃ k, TruV K x H' k ∧ Q k H' := by
  obtain ⟨B, en, G, m⟩ := m
  refine ⟨B, en, G, ?_⟩
  unfold tstF at m
  cases e1 : f en with
  | bad => rw [e1] at m; exact m
  | exc x en1 => rw [e1] at m; exact m
  | ok r en1 =>
    rw [e1] at m
    dsimp only at m ⊢
    intro v H1 ⟨B1, b1, G1, r1, n1⟩ st1
    cases e2 : rsl en1 r with
    | none => rw [e2] at m; exact m.elim
    | some d =>
      rw [e2] at m
      dsimp only at m
      cases e3 : truD d with
      | none => rw [e3] at m; exact m.elim
      | some b =>
        rw [e3] at m
        exact ⟨b, ARep.tru (ArgR.arep G1 r1 e2) e3, m H1 ⟨B1, b1, G1⟩ st1⟩
theorem tstBImp {f : M R} {Q : Bool → Hp → Prop} (m : RdT K W (tstB f) σ H Q) : RdE K W f σ H fun x H' => ∃ k, x = .bl k ∧ Q k H' := by
  obtain ⟨B, en, G, m⟩ := m
  refine ⟨B, en, G, ?_⟩
  unfold tstB at m
  cases e1 : f en with
  | bad => rw [e1] at m; exact m
  | exc x en1 => rw [e1] at m; exact m
  | ok r en1 =>
    rw [e1] at m
    dsimp only at m ⊢
    intro v H1 ⟨B1, b1, G1, r1, n1⟩ st1
    cases e2 : rsl en1 r with
    | none => rw [e2] at m; exact m.elim
    | some d =>
      rw [e2] at m
      dsimp only at m
      have ar := ArgR.arep G1 r1 e2
      cases d with
      | bl b =>
        unfold ARep Rep at ar
        exact ⟨b, ar, m H1 ⟨B1, b1, G1⟩ st1⟩
      | non => exact m.elim
      | int _ => exact m.elim
      | str _ => exact m.elim
      | tup _ => exact m.elim
      | lst _ => exact m.elim
      | dic _ => exact m.elim
      | obj _ _ => exact m.elim
      | scr _ => exact m.elim
      | exn _ _ => exact m.elim
      | adr _ => exact m.elim
      | ow _ => exact m.elim
theorem ExR.mono {x : Ex} {c : Value} {od : Option Addr} {U U' : Addr → Prop} (h : ∀ a, U' a → U a) (e : ExR K U H x c od) : ExR K U' H x c od := by
  obtain ⟨h1, h2⟩ := e
  refine ⟨h1, ?_⟩
  revert h2
  cases x.fld with
  | none => exact fun h2 => h2
  | some fd => exact fun ⟨a, v, e, nu, ha, hr⟩ => ⟨a, v, e, fun q => nu (h a q), ha, Rep.to (fun a o x n => ⟨x, fun q => n (h a q)⟩) _ _ hr⟩
theorem RdT.bind {f : M Bool} {Q : Bool → Hp → Prop} (G : Good K B H σ en) (m : match f en with
    | .ok b en' => ∀ H' B', Bx B B' σ en H → Good K B' H' σ en' → Stp σ en H σ en' H' → Q b H'
    | .exc x en' => ∀ c od H', ExR K (Un B H' σ en') H' x c od → Good K B H' σ en' → Stp σ en H σ en' H' → W c od σ H'
    | .bad => False) : RdT K W f σ H Q := by
  refine ⟨B, en, G, ?_⟩
  revert m
  cases f en with
  | ok b en' => exact fun m H' ⟨B', b, g⟩ st => m H' B' b g st
  | exc x en' => exact fun m => m
  | bad => exact fun m => m
theorem RdT.of {f : M Bool} {Q : Bool → Hp → Prop} {en1 : En} {H1 : Hp} {B1 : Addr → Prop} (b1 : Bx B B1 σ en H) (G1 : Good K B1 H1 σ en1) (st1 : Stp σ en H σ en1 H1) (m : match f en1 with
    | .ok b en' => ∀ H', (∃ B', Bx B B' σ en H ∧ Good K B' H' σ en') → Stp σ en H σ en' H' → Q b H'
    | .exc x en' => ∀ c od H', ExR K (Un B H' σ en') H' x c od → Good K B H' σ en' → Stp σ en H σ en' H' → W c od σ H'
    | .bad => False) : RdT K W f σ H1 Q := by
  refine ⟨B1, en1, G1, ?_⟩
  revert m
  cases f en1 with
  | ok b en' => exact fun m H' ⟨B', b', g⟩ st => m H' ⟨B', b1.trans st1 b', g⟩ (st1.trans st)
  | exc x en' => exact fun m c od H' e g st => m c od H' (e.mono fun a q => Un.mono b1.up q) (g.mono b1.up) (st1.trans st)
  | bad => exact fun m => m
theorem RdE.of {f : M R} {Q : VK} {en1 : En} {H1 : Hp} {B1 : Addr → Prop} (b1 : Bx B B1 σ en H) (G1 : Good K B1 H1 σ en1) (st1 : Stp σ en H σ en1 H1) (m : match f en1 with
    | .ok r en' => ∀ v H', (∃ B', Bx B B' σ en H ∧ Good K B' H' σ en' ∧ ArgR K B' σ en' H' r v ∧ frN σ en H H' r v) → Stp σ en H σ en' H' → Q v H'
    | .exc x en' => ∀ c od H', ExR K (Un B H' σ en') H' x c od → Good K B H' σ en' → Stp σ en H σ en' H' → W c od σ H'
    | .bad => False) : RdE K W f σ H1 Q := by
  refine ⟨B1, en1, G1, ?_⟩
  revert m
  cases f en1 with
  | ok b en' => exact fun m v H' ⟨B', b', g, r, n⟩ st => m v H' ⟨B', b1.trans st1 b', g, r, n.step st1⟩ (st1.trans st)
  | exc x en' => exact fun m c od H' e g st => m c od H' (e.mono fun a q => Un.mono b1.up q) (g.mono b1.up) (st1.trans st)
  | bad => exact fun m => m
theorem notImp {f : M Bool} {Q : Bool → Hp → Prop} (m : RdT K W (notT f) σ H Q) : tNot (RdT K W f) σ H Q := by
  obtain ⟨B, en, G, m⟩ := m
  refine ⟨B, en, G, ?_⟩
  unfold notT at m
  cases e1 : f en with
  | bad => rw [e1] at m; exact m
  | exc x en1 => rw [e1] at m; exact m
  | ok r en1 => rw [e1] at m; exact m
theorem andImp {f g : M Bool} {Q : Bool → Hp → Prop} (m : RdT K W (andT f g) σ H Q) : tAnd (RdT K W f) (RdT K W g) σ H Q := by
  obtain ⟨B, en, G, m⟩ := m
  refine ⟨B, en, G, ?_⟩
  unfold andT at m
  cases e1 : f en with
  | bad => rw [e1] at m; exact m
  | exc x en1 => rw [e1] at m; exact m
  | ok r en1 =>
    rw [e1] at m
    intro H1 ⟨B1, b1, G1⟩ st1
    cases r with
    | false => exact m H1 ⟨B1, b1, G1⟩ st1
    | true => exact RdT.of b1 G1 st1 m
theorem orImp {f g : M Bool} {Q : Bool → Hp → Prop} (m : RdT K W (orT f g) σ H Q) : tOr (RdT K W f) (RdT K W g) σ H Q := by
  obtain ⟨B, en, G, m⟩ := m
  refine ⟨B, en, G, ?_⟩
  unfold orT at m
  cases e1 : f en with
  | bad => rw [e1] at m; exact m
  | exc x en1 => rw [e1] at m; exact m
  | ok r en1 =>
    rw [e1] at m
    intro H1 ⟨B1, b1, G1⟩ st1
    cases r with
    | true => exact m H1 ⟨B1, b1, G1⟩ st1
    | false => exact RdT.of b1 G1 st1 m
theorem andVImp {f g : M R} {Q : VK} (m : RdE K W (andF f g) σ H Q) : tAndV (RdE K W f) (RdE K W g) σ H Q := by
  obtain ⟨B, en, G, m⟩ := m
  unfold andF at m
  refine RdE.mono (fun v H1 q => ?_) (tstBImp (Q := fun c H1 => if c = true then RdE K W g σ H1 Q else Q (.bl false) H1) ⟨B, en, G, ?_⟩)
  · exact q
  · cases e1 : tstB f en with
    | bad => rw [e1] at m; exact m
    | exc x en1 => rw [e1] at m; exact m
    | ok r en1 =>
      rw [e1] at m
      intro H1 ⟨B1, b1, G1⟩ st1
      cases r with
      | true => exact RdE.of b1 G1 st1 m
      | false => exact m (.bl false) H1 ⟨B1, b1, G1, (by unfold ArgR Rep; rfl), trivial⟩ st1
theorem orVImp {f g : M R} {Q : VK} (m : RdE K W (orF f g) σ H Q) : tOrV (RdE K W f) (RdE K W g) σ H Q := by
  obtain ⟨B, en, G, m⟩ := m
  unfold orF at m
  refine RdE.mono (fun v H1 q => ?_) (tstBImp (Q := fun c H1 => if c = true then Q (.bl true) H1 else RdE K W g σ H1 Q) ⟨B, en, G, ?_⟩)
  · exact q
  · cases e1 : tstB f en with
    | bad => rw [e1] at m; exact m
    | exc x en1 => rw [e1] at m; exact m
    | ok r en1 =>
      rw [e1] at m
      intro H1 ⟨B1, b1, G1⟩ st1
      cases r with
      | false => exact RdE.of b1 G1 st1 m
      | true => exact m (.bl true) H1 ⟨B1, b1, G1, (by unfold ArgR Rep; rfl), trivial⟩ st1
theorem notVImp {f : M R} {Q : VK} (m : RdE K W (notF f) σ H Q) : tNotV (RdE K W f) σ H Q := by
  obtain ⟨B, en, G, m⟩ := m
  unfold notF at m
  refine RdE.mono (fun v H1 q => ?_) (tstBImp (Q := fun c H1 => Q (.bl (!c)) H1) ⟨B, en, G, ?_⟩)
  · exact q
  · cases e1 : tstB f en with
    | bad => rw [e1] at m; exact m
    | exc x en1 => rw [e1] at m; exact m
    | ok r en1 =>
      rw [e1] at m
      intro H1 ⟨B1, b1, G1⟩ st1
      exact m (.bl (!r)) H1 ⟨B1, b1, G1, (by unfold ArgR Rep; rfl), trivial⟩ st1
end
section
variable {X : Cx} {W : WX} {pos : Pos} {a b c : Expr} {rest : List Expr} {fa fb : M R} {ta tb : M Bool} {g : List D → Option (Bool × D)}
theorem t_truth (ha : PE X a (RdE X.K W fa)) (he : ∀ whole, isTrue a X.env whole = (do let v ← whole; standAt a.pos; holding [v] (truthy v)) := by intro _; rfl) : PT X a (RdT X.K W (tstF fa)) :=
  pt_imp (pt_truth ha he) fun σ H Q m => tstImp m
theorem t_cmp {op : CmpOp} {r : R2} (ho : OpR X (compareOp op) r) (hp : Prim X.K (r2 r) g) (ha : PE X a (RdE X.K W fa)) (hb : PE X b (RdE X.K W fb)) (hm : behindInMarks op b = false) : PT X (.Compare a [op] [b] pos) (RdT X.K W (tstB (opF g (two fa fb)))) :=
  pt_imp (pt_cmpR ho ha hb hm) fun σ H Q m => impOp hp (tstBImp m)
theorem t_not (ha : PT X a (RdT X.K W ta)) : PT X (.UnaryOp .Not a pos) (RdT X.K W (notT ta)) := pt_imp (pt_not ha) fun σ H Q m => notImp m
theorem w_and1 (ha : PT X a (RdT X.K W ta)) : PW X (.BoolOp .And [a] pos) (RdT X.K W ta) := pw_and1 ha
theorem w_or1 (ha : PT X a (RdT X.K W ta)) : PW X (.BoolOp .Or [a] pos) (RdT X.K W ta) := pw_or1 ha
theorem w_and (ha : PT X a (RdT X.K W ta)) (hb : PW X (.BoolOp .And (b :: rest) pos) (RdT X.K W tb)) : PW X (.BoolOp .And (a :: b :: rest) pos) (RdT X.K W (andT ta tb)) := pw_imp (pw_and ha hb) fun σ H Q m => andImp m
theorem w_or (ha : PT X a (RdT X.K W ta)) (hb : PW X (.BoolOp .Or (b :: rest) pos) (RdT X.K W tb)) : PW X (.BoolOp .Or (a :: b :: rest) pos) (RdT X.K W (orT ta tb)) := pw_imp (pw_or ha hb) fun σ H Q m => orImp m
theorem e_one {op} (h : PE X a (RdE X.K W fa)) : PE X (.BoolOp op [a] pos) (RdE X.K W fa) := pe_one h
theorem e_and (ha : PE X a (RdE X.K W fa)) (hb : PE X (.BoolOp .And (b :: rest) pos) (RdE X.K W fb)) : PE X (.BoolOp .And (a :: b :: rest) pos) (RdE X.K W (andF fa fb)) := pe_imp (pe_and ha hb) fun σ H Q m => andVImp m
theorem e_or (ha : PE X a (RdE X.K W fa)) (hb : PE X (.BoolOp .Or (b :: rest) pos) (RdE X.K W fb)) : PE X (.BoolOp .Or (a :: b :: rest) pos) (RdE X.K W (orF fa fb)) := pe_imp (pe_or ha hb) fun σ H Q m => orVImp m
theorem e_not (ha : PE X a (RdE X.K W fa)) : PE X (.UnaryOp .Not a pos) (RdE X.K W (notF fa)) := pe_imp (pe_not ha) fun σ H Q m => notVImp m
end
end PyD

namespace PyD
open PySem PySem.Spec L2
noncomputable def skF : En → Fl := fun en => .nx en
noncomputable def seqF (f g : En → Fl) : En → Fl := fun en => match f en with
  | .nx en1 => g en1
  | o => o
noncomputable def bkF : En → Fl := fun en => .bk en
noncomputable def ctF : En → Fl := fun en => .ct en
noncomputable def drF (f : M R) : En → Fl := fun en => match f en with
  | .ok _ en1 => .nx en1
  | .exc x en1 => .exc x en1
  | .bad => .bad
noncomputable def rtF (f : M R) : En → Fl := fun en => match f en with
  | .ok r en1 => .rt r en1
  | .exc x en1 => .exc x en1
  | .bad => .bad
noncomputable def ifS (t : M Bool) (f g : En → Fl) : En → Fl := fun en => match t en with
  | .ok true en1 => f en1
  | .ok false en1 => g en1
  | .exc x en1 => .exc x en1
  | .bad => .bad
noncomputable def freeAt (en : En) (i : Nat) : Bool := match en[i]? with
  | some (.o true _) => false
  | some _ => true
  | none => false
noncomputable def asV (i : Nat) (f : M R) : En → Fl := fun en => match f en with
  | .ok r en1 => (match freeAt en1 i with
    | true => (match r with
      | .sh d => .nx (en1.set i (.v d))
      | .fr d => .nx (en1.set i (.v d))
      | .sl _ => .bad)
    | false => .bad)
  | .exc x en1 => .exc x en1
  | .bad => .bad
noncomputable def asO (i : Nat) (f : M R) : En → Fl := fun en => match f en with
  | .ok r en1 => (match freeAt en1 i with
    | true => (match r with
      | .fr d => .nx (en1.set i (.o false d))
      | _ => .bad)
    | false => .bad)
  | .exc x en1 => .exc x en1
  | .bad => .bad
noncomputable def gNm (i : Nat) : D → M Unit := fun d en => match freeAt en i with
  | true => .ok () (en.set i (.v d))
  | false => .bad
noncomputable def gNms : List Nat → List D → M Unit
  | [], [], en => .ok () en
  | i :: is, d :: ds, en => (match freeAt en i with
    | true => gNms is ds (en.set i (.v d))
    | false => .bad)
  | _, _, _ => .bad
noncomputable def gTp (is : List Nat) : D → M Unit := fun d en => match d with
  | .tup ds => gNms is ds en
  | _ => .bad
noncomputable def asG (g : D → M Unit) (f : M R) : En → Fl := fun en => match f en with
  | .ok (.sh d) en1 => (match g d en1 with
    | .ok _ en2 => .nx en2
    | _ => .bad)
  | .ok _ _ => .bad
  | .exc x en1 => .exc x en1
  | .bad => .bad
noncomputable def asP (i j : Nat) (fs : M (List R)) : En → Fl := fun en => match fs en with
  | .ok [.sh d, .sh d'] en1 => (match freeAt en1 i with
    | true => (match freeAt en1 j with
      | true => .nx ((en1.set i (.v d)).set j (.v d'))
      | false => .bad)
    | false => .bad)
  | .ok _ _ => .bad
  | .exc x en1 => .exc x en1
  | .bad => .bad
noncomputable def whF (t : M Bool) (f : En → Fl) : Nat → En → Fl
  | 0, _ => .bad
  | n + 1, en => match t en with
    | .ok true en1 => (match f en1 with
      | .nx en2 => whF t f n en2
      | .ct en2 => whF t f n en2
      | .bk en2 => .nx en2
      | o => o)
    | .ok false en1 => .nx en1
    | .exc x en1 => .exc x en1
    | .bad => .bad
noncomputable def frL (g : D → M Unit) (f : En → Fl) : List D → En → Fl
  | [], en => .nx en
  | d :: ds, en => match g d en with
    | .ok _ en1 => (match f en1 with
      | .nx en2 => frL g f ds en2
      | .ct en2 => frL g f ds en2
      | .bk en2 => .nx en2
      | o => o)
    | _ => .bad
noncomputable def frF (it : M (List D)) (g : D → M Unit) (f : En → Fl) : En → Fl := fun en => match it en with
  | .ok ds en1 => frL g f ds en1
  | .exc x en1 => .exc x en1
  | .bad => .bad
section
variable {K : PySem.W.Frag} {W : WX} {B B' B1 : Addr → Prop} {U : Addr → Prop} {H H' H1 : Hp} {σ σ' σ1 : L2.St} {en en' en1 : En} {d : D} {v : V} {i : Nat} {p : Addr} {D0 : Ends}
noncomputable def QS (K : PySem.W.Frag) (W : WX) (B : Addr → Prop) (σ : L2.St) (en : En) (H : Hp) (D : Ends) (f : Fl) : Prop := match f with
  | .nx en' => ∀ σ' H', Good K B H' σ' en' → Stp σ en H σ' en' H' → D.nx σ' H'
  | .bk en' => ∀ σ' H', Good K B H' σ' en' → Stp σ en H σ' en' H' → D.bk σ' H'
  | .ct en' => ∀ σ' H', Good K B H' σ' en' → Stp σ en H σ' en' H' → D.ct σ' H'
  | .rt r en' => ∀ v σ' H', (∃ B', Bx B B' σ en H ∧ Good K B' H' σ' en' ∧ ArgR K B' σ' en' H' r v ∧ frN σ en H H' r v) → Stp σ en H σ' en' H' → D.rt v H'
  | .exc x en' => ∀ c od σ' H', ExR K (Un B H' σ' en') H' x c od → Good K B H' σ' en' → Stp σ en H σ' en' H' → W c od σ' H'
  | .bad => False
theorem QS.to {f : Fl} (b1 : Bx B B1 σ en H) (st : Stp σ en H σ1 en1 H1) (q : QS K W B σ en H D0 f) : QS K W B1 σ1 en1 H1 D0 f := by
  cases f with
  | nx en' => exact fun σ' H' g s => q σ' H' (g.mono b1.up) (st.trans s)
  | bk en' => exact fun σ' H' g s => q σ' H' (g.mono b1.up) (st.trans s)
  | ct en' => exact fun σ' H' g s => q σ' H' (g.mono b1.up) (st.trans s)
  | rt r en' => exact fun v σ' H' ⟨B', b, g, r, n⟩ s => q v σ' H' ⟨B', b1.trans st b, g, r, n.step st⟩ (st.trans s)
  | exc x en' => exact fun c od σ' H' e g s => q c od σ' H' (e.mono fun a z => Un.mono b1.up z) (g.mono b1.up) (st.trans s)
  | bad => exact q
theorem RdS.of {f : En → Fl} (b1 : Bx B B1 σ en H) (G1 : Good K B1 H1 σ1 en1) (st : Stp σ en H σ1 en1 H1) (q : QS K W B σ en H D0 (f en1)) : RdS K W f D0 σ1 H1 :=
  ⟨B1, en1, G1, QS.to b1 st q⟩
theorem RdS.qs {f : En → Fl} (m : RdS K W f D0 σ H) : ∃ B en, Good K B H σ en ∧ QS K W B σ en H D0 (f en) := m
theorem seqImp {f g : En → Fl} (m : RdS K W (seqF f g) D0 σ H) : tSeq (RdS K W f) (RdS K W g) D0 σ H := by
  obtain ⟨B, en, G, m⟩ := RdS.qs m
  refine ⟨B, en, G, ?_⟩
  unfold seqF at m
  cases e : f en with
  | nx en1 =>
    rw [e] at m
    exact fun σ' H' g' st => RdS.of (Bx.refl B σ en H) g' st m
  | bk en1 => rw [e] at m; exact m
  | ct en1 => rw [e] at m; exact m
  | rt r en1 => rw [e] at m; exact m
  | exc x en1 => rw [e] at m; exact m
  | bad => rw [e] at m; exact m
theorem drImp {f : M R} (m : RdS K W (drF f) D0 σ H) : tDrop (RdE K W f) D0 σ H := by
  obtain ⟨B, en, G, m⟩ := RdS.qs m
  refine ⟨B, en, G, ?_⟩
  unfold drF at m
  cases e : f en with
  | ok r en1 =>
    rw [e] at m
    exact fun v H' ⟨B', b, g, _, _⟩ st => m σ H' (g.mono b.up) st
  | exc x en1 => rw [e] at m; exact fun c od H' => m c od σ H'
  | bad => rw [e] at m; exact m
theorem rtImp {f : M R} (m : RdS K W (rtF f) D0 σ H) : tRet (RdE K W f) D0 σ H := by
  obtain ⟨B, en, G, m⟩ := RdS.qs m
  refine ⟨B, en, G, ?_⟩
  unfold rtF at m
  cases e : f en with
  | ok r en1 => rw [e] at m; exact fun v H' => m v σ H'
  | exc x en1 => rw [e] at m; exact fun c od H' => m c od σ H'
  | bad => rw [e] at m; exact m
theorem ifSImp {t : M Bool} {f g : En → Fl} (m : RdS K W (ifS t f g) D0 σ H) : tIfS (RdT K W t) (RdS K W f) (RdS K W g) D0 σ H := by
  obtain ⟨B, en, G, m⟩ := RdS.qs m
  refine ⟨B, en, G, ?_⟩
  unfold ifS at m
  cases e : t en with
  | ok b en1 =>
    rw [e] at m
    intro H' ⟨B', b', g'⟩ st
    cases b with
    | true => exact RdS.of b' g' st m
    | false => exact RdS.of b' g' st m
  | exc x en1 => rw [e] at m; exact fun c od H' => m c od σ H'
  | bad => rw [e] at m; exact m
theorem freeAt_lt (h : freeAt en i = true) : i < en.length ∧ ∀ d, en[i]? ≠ some (.o true d) := by
  unfold freeAt at h
  cases e : en[i]? with
  | none => rw [e] at h; cases h
  | some s => exact ⟨get_lt e, fun d z => by
      cases z
      rw [e] at h
      cases h⟩
theorem own_set_v {a : Addr} (hi : i < en.length) (h : Own H (σ.set i (some v)) (en.set i (.v d)) a) : Own H σ en a := by
  obtain ⟨j, b, d', p, e, s, r⟩ := h
  rcases set_get e with ⟨_, q, _⟩ | ⟨ne, q⟩
  · cases q
  · rw [List.getElem?_set_ne ne] at s
    exact ⟨j, b, d', p, q, s, r⟩
theorem Good.set_v (G : Good K B' H σ en) (up : ∀ a, B a → B' a) (hi : i < en.length) (r : Rep K (Un B H σ en) H d v) : Good K B H (σ.set i (some v)) (en.set i (.v d)) := by
  have t : ∀ a o, H a = some o → ¬ Un B' H σ en a → H a = some o ∧ ¬ Un B H (σ.set i (some v)) (en.set i (.v d)) a := fun a o x n => ⟨x, fun z => n (z.imp (up a) (own_set_v hi))⟩
  exact {
    len := by rw [List.length_set, List.length_set]; exact G.len
    all := fun a h => G.all a (up a h)
    rep := fun j d' e => by
      rcases set_get e with ⟨e1, q, hl⟩ | ⟨ne, q⟩
      · cases q
        subst e1
        refine ⟨v, ?_, Rep.to (fun a o x n => ⟨x, fun z => n (z.imp id (own_set_v hi))⟩) d v r⟩
        rw [List.getElem?_set, if_pos rfl, if_pos (by rw [G.len]; exact hl)]
      · obtain ⟨v', s, r'⟩ := G.rep j d' q
        exact ⟨v', by rw [List.getElem?_set_ne ne]; exact s, Rep.to t d' v' r'⟩
    own := fun j b d' e => by
      rcases set_get e with ⟨e1, q, hl⟩ | ⟨ne, q⟩
      · cases q
      · obtain ⟨p, s, n, c⟩ := G.own j b d' q
        exact ⟨p, by rw [List.getElem?_set_ne ne]; exact s, fun a r z => n a r (up a z), Cont.to t (fun _ _ _ x => x) c⟩
    inj := fun j k p p' a b c d1 d2 e1 e2 s1 s2 => by
      rcases set_get e1 with ⟨_, q, _⟩ | ⟨ne1, q1⟩
      · cases q
      · rcases set_get e2 with ⟨_, q, _⟩ | ⟨ne2, q2⟩
        · cases q
        · rw [List.getElem?_set_ne ne1] at s1
          rw [List.getElem?_set_ne ne2] at s2
          exact G.inj j k p p' a b c d1 d2 q1 q2 s1 s2 }
theorem Stp.set_v (hf : freeAt en i = true) : Stp σ en H (σ.set i (some v)) (en.set i (.v d)) H where
  len := List.length_set
  fr := fun _ _ h _ => h
  al := fun _ h => h
  ow := fun a h => .inl (own_set_v (freeAt_lt hf).1 h)
  of := fun a h => .inl (by
    obtain ⟨j, d', p, e, s, r⟩ := h
    rcases set_get e with ⟨_, q, _⟩ | ⟨ne, q⟩
    · cases q
    · rw [List.getElem?_set_ne ne] at s
      exact ⟨j, d', p, q, s, r⟩)
  pin := fun j d' e => by
    have ne : i ≠ j := fun z => by
      subst z
      exact (freeAt_lt hf).2 d' e
    exact ⟨by rw [List.getElem?_set_ne ne], d', by rw [List.getElem?_set_ne ne]; exact e⟩
  pb := fun j d' e => by
    rcases set_get e with ⟨_, q, _⟩ | ⟨_, q⟩
    · cases q
    · exact ⟨d', q⟩
  pr := fun j d d' p a e1 e2 _ r => by
    rcases set_get e2 with ⟨_, q, _⟩ | ⟨_, q⟩
    · cases q
    · rw [e1] at q; cases q; exact .inl r
theorem fr_rep (bx : Bx B B' σ en H) (G : Good K B H σ en) (G' : Good K B' H' σ' en') (h : ArgR K B' σ' en' H' (.fr d) v) (n : frN σ en H H' (.fr d) v) : Rep K (Un B H' σ' en') H' d v := by
  obtain ⟨p, e, bp, c⟩ := h
  subst e
  refine Cont.rep (fun a r z => ?_) (Cont.to (fun a o x n => ⟨x, fun z => n (Un.mono bx.up z)⟩) (fun _ _ _ x => x) c)
  rcases z with z | z
  · rcases n p a rfl r with q | q
    · exact G.all a z q
    · exact G.ownNB q.own z
  · exact G'.ownNB z (bp a r)
theorem sto_rep (bx : Bx B B' σ en H) (G : Good K B H σ en) (G' : Good K B' H' σ' en') : ∀ {r : R} {v : V} {d : D}, ArgR K B' σ' en' H' r v → frN σ en H H' r v → (r = .sh d ∨ r = .fr d) → Rep K (Un B H' σ' en') H' d v
  | .sh d', v, d, h, n, e => by
    rcases e with e | e
    · cases e
      exact Rep.to (fun a o x n => ⟨x, fun z => n (Un.mono bx.up z)⟩) _ _ h
    · cases e
  | .fr d', v, d, h, n, e => by
    rcases e with e | e
    · cases e
    · cases e
      exact fr_rep bx G G' h n
  | .sl i, v, d, h, n, e => by rcases e with e | e <;> cases e
theorem asVImp {f : M R} (m : RdS K W (asV i f) D0 σ H) : tAsg (RdE K W f) (gName i) D0 σ H := by
  obtain ⟨B, en, G, m⟩ := RdS.qs m
  refine ⟨B, en, G, ?_⟩
  unfold asV at m
  cases e : f en with
  | exc x en1 => rw [e] at m; exact fun c od H' => m c od σ H'
  | bad => rw [e] at m; exact m
  | ok r en1 =>
    rw [e] at m
    dsimp only at m
    intro v H' ⟨B', b, g, ra, n⟩ st
    cases hf : freeAt en1 i with
    | false => rw [hf] at m; exact m.elim
    | true =>
      rw [hf] at m
      cases r with
      | sl j => exact m.elim
      | sh d => exact m _ _ (g.set_v b.up (freeAt_lt hf).1 (sto_rep b G g ra n (.inl rfl))) (st.trans (Stp.set_v hf))
      | fr d => exact m _ _ (g.set_v b.up (freeAt_lt hf).1 (sto_rep b G g ra n (.inr rfl))) (st.trans (Stp.set_v hf))
theorem Good.set_o {fb : Bool} (G : Good K B' H σ en) (up : ∀ a, B a → B' a) (hi : i < en.length) (hp : ∀ a, Rch H d p a → B' a) (nb : ∀ a, Rch H d p a → ¬ B a) (c : Cont K (Un B' H σ en) H d p) : Good K B H (σ.set i (some (.ref p))) (en.set i (.o fb d)) := by
  have no : ∀ a, Rch H d p a → ¬ Own H σ en a := fun a r z => G.ownNB z (hp a r)
  have ow : ∀ a, Own H (σ.set i (some (.ref p))) (en.set i (.o fb d)) a → Rch H d p a ∨ Own H σ en a := fun a h => by
    obtain ⟨j, b, d', p1, e, s, r⟩ := h
    rcases set_get e with ⟨e1, q, hl⟩ | ⟨ne, q⟩
    · subst e1
      rw [List.getElem?_set, if_pos rfl] at s
      split at s
      · cases s
        cases q
        exact .inl r
      · cases s
    · rw [List.getElem?_set_ne ne] at s
      exact .inr ⟨j, b, d', p1, q, s, r⟩
  have t : ∀ a o, H a = some o → ¬ Un B' H σ en a → H a = some o ∧ ¬ Un B H (σ.set i (some (.ref p))) (en.set i (.o fb d)) a := fun a o x n => ⟨x, fun z => n (by
    rcases z with z | z
    · exact .inl (up a z)
    · rcases ow a z with z | z
      · exact .inl (hp a z)
      · exact .inr z)⟩
  exact {
    len := by rw [List.length_set, List.length_set]; exact G.len
    all := fun a h => G.all a (up a h)
    rep := fun j d' e => by
      rcases set_get e with ⟨e1, q, hl⟩ | ⟨ne, q⟩
      · cases q
      · obtain ⟨v', s, r'⟩ := G.rep j d' q
        exact ⟨v', by rw [List.getElem?_set_ne ne]; exact s, Rep.to t d' v' r'⟩
    own := fun j b d' e => by
      rcases set_get e with ⟨e1, q, hl⟩ | ⟨ne, q⟩
      · cases q
        subst e1
        refine ⟨p, ?_, nb, Cont.to t (fun _ _ _ x => x) c⟩
        rw [List.getElem?_set, if_pos rfl, if_pos (by rw [G.len]; exact hl)]
      · obtain ⟨p', s, n, c'⟩ := G.own j b d' q
        exact ⟨p', by rw [List.getElem?_set_ne ne]; exact s, fun a r z => n a r (up a z), Cont.to t (fun _ _ _ x => x) c'⟩
    inj := fun j k q q' a b c d1 d2 e1 e2 s1 s2 r1 r2 => by
      rcases set_get e1 with ⟨z1, y1, hl⟩ | ⟨ne1, q1⟩
      · rcases set_get e2 with ⟨z2, _, _⟩ | ⟨ne2, q2⟩
        · rw [← z1, ← z2]
        · subst z1
          rw [List.getElem?_set, if_pos rfl, if_pos (by rw [G.len]; exact hl)] at s1
          rw [List.getElem?_set_ne ne2] at s2
          cases s1
          cases y1
          exact absurd ⟨k, c, d2, q', q2, s2, r2⟩ (no a r1)
      · rcases set_get e2 with ⟨z2, y2, hl⟩ | ⟨ne2, q2⟩
        · subst z2
          rw [List.getElem?_set, if_pos rfl, if_pos (by rw [G.len]; exact hl)] at s2
          rw [List.getElem?_set_ne ne1] at s1
          cases s2
          cases y2
          exact absurd ⟨j, b, d1, q, q1, s1, r1⟩ (no a r2)
        · rw [List.getElem?_set_ne ne1] at s1
          rw [List.getElem?_set_ne ne2] at s2
          exact G.inj j k q q' a b c d1 d2 q1 q2 s1 s2 r1 r2 }
theorem asOImp {f : M R} (m : RdS K W (asO i f) D0 σ H) : tAsg (RdE K W f) (gName i) D0 σ H := by
  obtain ⟨B, en, G, m⟩ := RdS.qs m
  refine ⟨B, en, G, ?_⟩
  unfold asO at m
  cases e : f en with
  | exc x en1 => rw [e] at m; exact fun c od H' => m c od σ H'
  | bad => rw [e] at m; exact m
  | ok r en1 =>
    rw [e] at m
    dsimp only at m
    intro v H' ⟨B', b, g, ra, n⟩ st
    cases hf : freeAt en1 i with
    | false => rw [hf] at m; exact m.elim
    | true =>
      rw [hf] at m
      cases r with
      | sl j => exact m.elim
      | sh d => exact m.elim
      | fr d =>
        obtain ⟨p, e1, bp, c⟩ := ra
        subst e1
        have nn := fun a r => n p a rfl r
        have nb : ∀ a, Rch H' d p a → ¬ B a := fun a r z => by
          rcases nn a r with q | q
          · exact G.all a z q
          · exact G.ownNB q.own z
        refine m _ _ (g.set_o b.up (freeAt_lt hf).1 bp nb c) ?_
        have fin : ∀ {j : Nat} {bb : Bool} {d' : D} {a : Addr}, (en1.set i (.o false d))[j]? = some (.o bb d') → (σ.set i (some (.ref p)))[j]? = some (some (.ref a)) → (a = p ∧ d' = d ∧ bb = false) ∨ (en1[j]? = some (.o bb d') ∧ σ[j]? = some (some (.ref a))) := fun {j bb d' a} e s => by
          rcases set_get e with ⟨z, q, hl⟩ | ⟨ne, q⟩
          · subst z
            rw [List.getElem?_set, if_pos rfl, if_pos (by rw [g.len]; exact hl)] at s
            cases s
            cases q
            exact .inl ⟨rfl, rfl, rfl⟩
          · rw [List.getElem?_set_ne ne] at s
            exact .inr ⟨q, s⟩
        exact {
          len := by rw [List.length_set]; exact st.len
          fr := st.fr
          al := st.al
          ow := fun a h => by
            obtain ⟨j, bb, d', p1, e, s, r⟩ := h
            rcases fin e s with ⟨q, q', _⟩ | ⟨q, s⟩
            · subst q
              subst q'
              rcases nn a r with z | z
              · exact .inr z
              · exact .inl z.own
            · exact st.ow a ⟨j, bb, d', p1, q, s, r⟩
          of := fun a h => by
            obtain ⟨j, d', p1, e, s, r⟩ := h
            rcases fin e s with ⟨q, q', _⟩ | ⟨q, s⟩
            · subst q
              subst q'
              rcases nn a r with z | z
              · exact .inr z
              · exact .inl z
            · exact st.of a ⟨j, d', p1, q, s, r⟩
          pin := fun j d' e => by
            obtain ⟨h1, d2, h2⟩ := st.pin j d' e
            have ne : i ≠ j := fun z => by
              subst z
              exact (freeAt_lt hf).2 d2 h2
            exact ⟨by rw [List.getElem?_set_ne ne], d2, by rw [List.getElem?_set_ne ne]; exact h2⟩
          pb := fun j d' e => by
            rcases set_get e with ⟨_, q, _⟩ | ⟨_, q⟩
            · cases q
            · exact st.pb j d' q
          pr := fun j d1 d2 p a e1 e2 s r => by
            rcases set_get e2 with ⟨_, q, _⟩ | ⟨_, q⟩
            · cases q
            · exact st.pr j d1 d2 p a e1 q s r }
theorem RdG.of {g : D → M Unit} {Q : L2.St → Hp → Prop} (G : Good K B H σ en) (r : Rep K (Un B H σ en) H d v) {en2 : En} (e : g d en = .ok () en2) (q : ∀ σ' H', Good K B H' σ' en2 → Stp σ en H σ' en2 H' → Q σ' H') : RdG K g v σ H Q :=
  ⟨B, en, d, G, r, by rw [e]; exact q⟩
theorem gNmImp {Q : L2.St → Hp → Prop} (m : RdG K (gNm i) v σ H Q) : gName i v σ H Q := by
  obtain ⟨B, en, d, G, r, m⟩ := m
  unfold gNm at m
  cases hf : freeAt en i with
  | false => rw [hf] at m; exact m.elim
  | true =>
    rw [hf] at m
    exact m _ _ (G.set_v (fun _ h => h) (freeAt_lt hf).1 r) (Stp.set_v hf)
noncomputable def gNames : List Nat → TGs
  | [] => gNil
  | i :: is => gCons (gName i) (gNames is)
theorem gNmsImp {Q : L2.St → Hp → Prop} : ∀ {is : List Nat} {ds : List D} {vs : List V} {en : En} {σ : L2.St} {en2 : En}, Good K B H σ en → RepL K (Un B H σ en) H ds vs → gNms is ds en = .ok () en2 →
    (∀ σ', Good K B H σ' en2 → Stp σ en H σ' en2 H → Q σ' H) → gNames is vs σ H Q
  | [], [], vs, en, σ, en2, G, r, e, q => by
    unfold RepL at r
    cases e
    exact ⟨r, q σ G (Stp.refl σ _ H)⟩
  | [], d :: ds, vs, en, σ, en2, G, r, e, q => by cases e
  | i :: is, [], vs, en, σ, en2, G, r, e, q => by cases e
  | i :: is, d :: ds, vs, en, σ, en2, G, r, e, q => by
    unfold RepL at r
    obtain ⟨v, us, e1, r1, r2⟩ := r
    unfold gNms at e
    cases hf : freeAt en i with
    | false => rw [hf] at e; cases e
    | true =>
      rw [hf] at e
      have st : Stp σ en H (σ.set i (some v)) (en.set i (.v d)) H := Stp.set_v hf
      refine ⟨v, us, e1, ?_⟩
      exact gNmsImp (is := is) (G.set_v (fun _ h => h) (freeAt_lt hf).1 r1) (RepL.to (stepTo st (Bx.refl B σ en H)) _ _ r2) e fun σ' g s => q σ' g (st.trans s)
theorem RepL.len : ∀ {ds : List D} {vs : List V}, RepL K U H ds vs → vs.length = ds.length
  | [], vs, h => by
    unfold RepL at h
    rw [h] <;> rfl
  | d :: ds, vs, h => by
    unfold RepL at h
    obtain ⟨v, us, e, _, r⟩ := h
    rw [e, List.length_cons, List.length_cons, RepL.len r]
theorem gNms_len : ∀ {is : List Nat} {ds : List D} {en en2 : En}, gNms is ds en = .ok () en2 → is.length = ds.length
  | [], [], _, _, _ => rfl
  | [], _ :: _, _, _, e => by cases e
  | _ :: _, [], _, _, e => by cases e
  | i :: is, d :: ds, en, en2, e => by
    unfold gNms at e
    cases hf : freeAt en i with
    | false => rw [hf] at e; cases e
    | true =>
      rw [hf] at e
      rw [List.length_cons, List.length_cons, gNms_len e]
theorem gTpImp {is : List Nat} {Q : L2.St → Hp → Prop} (m : RdG K (gTp is) v σ H Q) : gTup K is.length (gNames is) v σ H Q := by
  obtain ⟨B, en, d, G, r, m⟩ := m
  unfold gTp at m
  cases d with
  | tup ds =>
    dsimp only at m
    unfold Rep at r
    obtain ⟨a, vs, e1, nu, ha, r⟩ := r
    cases e : gNms is ds en with
    | ok u en2 =>
      rw [e] at m
      exact ⟨a, vs, e1, SqT.of ha, by rw [r.len, gNms_len e], gNmsImp G r e fun σ' g s => m σ' H g s⟩
    | exc x en2 => rw [e] at m; exact m.elim
    | bad => rw [e] at m; exact m.elim
  | non => exact m.elim
  | bl _ => exact m.elim
  | int _ => exact m.elim
  | str _ => exact m.elim
  | lst _ => exact m.elim
  | dic _ => exact m.elim
  | obj _ _ => exact m.elim
  | scr _ => exact m.elim
  | exn _ _ => exact m.elim
  | adr _ => exact m.elim
  | ow _ => exact m.elim
theorem asGImp {g : D → M Unit} {f : M R} (m : RdS K W (asG g f) D0 σ H) : tAsg (RdE K W f) (RdG K g) D0 σ H := by
  obtain ⟨B, en, G, m⟩ := RdS.qs m
  refine ⟨B, en, G, ?_⟩
  unfold asG at m
  cases e : f en with
  | exc x en1 => rw [e] at m; exact fun c od H' => m c od σ H'
  | bad => rw [e] at m; exact m
  | ok r en1 =>
    rw [e] at m
    intro v H' ⟨B', b, g', ra, n⟩ st
    cases r with
    | sl j => exact m.elim
    | fr j => exact m.elim
    | sh d =>
      dsimp only at m
      refine ⟨B', en1, d, g', ra, ?_⟩
      cases e2 : g d en1 with
      | ok u en2 =>
        rw [e2] at m
        exact fun σ' H'' g2 s2 => m σ' H'' (g2.mono b.up) (st.trans s2)
      | exc x en2 => rw [e2] at m; exact m.elim
      | bad => rw [e2] at m; exact m.elim
theorem asPImp {i j : Nat} {fs : M (List R)} (m : RdS K W (asP i j fs) D0 σ H) : tPar i j (RdA K W fs) D0 σ H := by
  obtain ⟨B, en, G, m⟩ := RdS.qs m
  refine ⟨B, en, G, ?_⟩
  unfold asP at m
  cases e : fs en with
  | exc x en1 => rw [e] at m; exact fun c od H' => m c od σ H'
  | bad => rw [e] at m; exact m
  | ok rs en1 =>
    rw [e] at m
    intro vs H' ⟨B', b, g', ra, n⟩ st
    match rs, m, ra, n with
    | [.sh d, .sh d'], m, ⟨v1, us, e1, r1, ⟨v2, us2, e2, r2, e3, _⟩, _⟩, n =>
      dsimp only at m
      subst e1
      subst e2
      have e3' : us2 = [] := e3
      subst e3'
      refine ⟨v1, v2, rfl, ?_⟩
      cases hf : freeAt en1 i with
      | false => rw [hf] at m; exact m.elim
      | true =>
        rw [hf] at m
        dsimp only at m
        cases hj : freeAt en1 j with
        | false => rw [hj] at m; exact m.elim
        | true =>
          rw [hj] at m
          have s1 : Stp σ en1 H' (σ.set i (some v1)) (en1.set i (.v d)) H' := Stp.set_v hf
          have fj : freeAt (en1.set i (.v d)) j = true := by
            unfold freeAt
            by_cases q : i = j
            · subst q
              rw [List.getElem?_set, if_pos rfl, if_pos (freeAt_lt hf).1]
            · rw [List.getElem?_set_ne q]
              exact hj
          have g1 := g'.set_v (B := B') (d := d) (v := v1) (fun _ h => h) (freeAt_lt hf).1 r1
          have g2 := g1.set_v (B := B) (i := j) (d := d') (v := v2) b.up (freeAt_lt fj).1 (Rep.to (fun a o x n => ⟨x, fun z => n (Un.mono b.up z)⟩) _ _ (Rep.step s1 (Bx.refl B' σ en1 H') r2))
          exact m _ _ g2 ((st.trans s1).trans (Stp.set_v fj))
    | [], m, _, _ => exact m.elim
    | [.sh _], m, _, _ => exact m.elim
    | [.fr _], m, _, _ => exact m.elim
    | [.sl _], m, _, _ => exact m.elim
    | .fr _ :: _ :: _, m, _, _ => exact m.elim
    | .sl _ :: _ :: _, m, _, _ => exact m.elim
    | .sh _ :: .fr _ :: _, m, _, _ => exact m.elim
    | .sh _ :: .sl _ :: _, m, _, _ => exact m.elim
    | .sh _ :: .sh _ :: _ :: _, m, _, _ => exact m.elim
end
end PyD

namespace PyD
open PySem PySem.Spec L2
noncomputable def Kp (U : Addr → Prop) (H H' : Hp) : Prop := ∀ a o, H a = some o → ¬ U a → H' a = some o
structure WalkD (K : PySem.W.Frag) (U : Addr → Prop) (H0 : Hp) (J : It) (ds : List D) : Prop where
  go : ∀ i H1, Kp U H0 H1 → i < ds.length → J.go i H1
  stop : ∀ H1, Kp U H0 H1 → J.stop ds.length H1
  yld : ∀ i H1 x H2 d, Kp U H0 H1 → ds[i]? = some d → J.yld i H1 x H2 → Ext H1 H2 ∧ ∀ U1 : Addr → Prop, (∀ a o, H0 a = some o → ¬ U a → ¬ U1 a) → (∀ a, U1 a → H1 a ≠ none) → Rep K U1 H2 d x
noncomputable def RdI (K : PySem.W.Frag) (W : WX) (f : M (List D)) : TI := fun σ H Rr => ∃ B en, Good K B H σ en ∧ match f en with
  | .ok ds en' => ∀ J H' B', Bx B B' σ en H → Good K B' H' σ en' → Stp σ en H σ en' H' → WalkD K (Un B' H' σ en') H' J ds → Rr J H'
  | .exc x en' => ∀ c od H', ExR K (Un B H' σ en') H' x c od → Good K B H' σ en' → Stp σ en H σ en' H' → W c od σ H'
  | .bad => False
section
variable {K : PySem.W.Frag} {W : WX} {B B' B1 : Addr → Prop} {U : Addr → Prop} {H H' H1 : Hp} {σ σ' σ1 : L2.St} {en en' en1 : En} {d : D} {v : V} {i : Nat} {p : Addr} {D0 : Ends}
theorem Stp.kp (s : Stp σ en H σ' en' H') : Kp (Un B H σ en) H H' := fun a o e n => s.fr a o e fun z => n (.inr z)
theorem whImp {t : M Bool} {f : En → Fl} {n : Nat} (m : RdS K W (whF t f n) D0 σ H) : tWhile (RdT K W t) (RdS K W f) D0 σ H := by
  obtain ⟨B, en, G, m⟩ := RdS.qs m
  refine ⟨fun k σ' H' => ∃ en', Good K B H' σ' en' ∧ Stp σ en H σ' en' H' ∧ QS K W B σ en H D0 (whF t f k en'), ⟨n, en, G, Stp.refl σ en H, m⟩, ?_⟩
  intro k σ1 H1 ⟨en1, G1, st1, m1⟩
  cases k with
  | zero => exact m1.elim
  | succ k =>
    refine RdT.bind G1 ?_
    unfold whF at m1
    cases e : t en1 with
    | bad => rw [e] at m1; exact m1
    | exc x en2 => rw [e] at m1; exact fun c od H2 ex g s => m1 c od σ1 H2 (ex.mono fun a q => q) g (st1.trans s)
    | ok b en2 =>
      rw [e] at m1
      intro H2 B2 b2 G2 st2
      cases b with
      | false =>
        rw [if_neg Bool.false_ne_true]
        exact m1 σ1 H2 (G2.mono b2.up) (st1.trans st2)
      | true =>
        rw [if_pos rfl]
        dsimp only at m1
        refine ⟨fun σ' H' => ∃ m', m' < k + 1 ∧ ∃ en', Good K B H' σ' en' ∧ Stp σ en H σ' en' H' ∧ QS K W B σ en H D0 (whF t f m' en'), fun σ' H' z => z, ?_⟩
        refine RdS.of (Bx.refl B σ en H) (G2.mono b2.up) (st1.trans st2) ?_
        cases e2 : f en2 with
        | nx en3 => rw [e2] at m1; exact fun σ' H' g s => ⟨k, Nat.lt_succ_self k, en3, g, s, m1⟩
        | ct en3 => rw [e2] at m1; exact fun σ' H' g s => ⟨k, Nat.lt_succ_self k, en3, g, s, m1⟩
        | bk en3 => rw [e2] at m1; exact m1
        | rt r en3 => rw [e2] at m1; exact m1
        | exc x en3 => rw [e2] at m1; exact m1
        | bad => rw [e2] at m1; exact m1
theorem frImp {it : M (List D)} {g : D → M Unit} {f : En → Fl} {tg : TG} (hg : ∀ {v σ H Q}, RdG K g v σ H Q → tg v σ H Q) (m : RdS K W (frF it g f) D0 σ H) : tFor (RdI K W it) tg (RdS K W f) D0 σ H := by
  obtain ⟨B, en, G, m⟩ := RdS.qs m
  refine ⟨B, en, G, ?_⟩
  unfold frF at m
  cases e : it en with
  | exc x en1 => rw [e] at m; exact fun c od H' => m c od σ H'
  | bad => rw [e] at m; exact m
  | ok ds en1 =>
    rw [e] at m
    dsimp only at m ⊢
    intro J H1 B1 b1 G1 st1 wk
    refine ⟨fun i k σ' H' => k + i = ds.length ∧ ∃ en', Good K B1 H' σ' en' ∧ Stp σ en1 H1 σ' en' H' ∧ QS K W B σ en H D0 (frL g f (ds.drop i) en'), ⟨ds.length, by omega, en1, G1, Stp.refl σ en1 H1, m⟩, ?_⟩
    intro i k σ2 H2 ⟨ek, en2, G2, st2, m2⟩
    have kp : Kp (Un B1 H1 σ en1) H1 H2 := st2.kp
    by_cases hi : i < ds.length
    · refine .inr ⟨wk.go i H2 kp hi, fun σ' H' => ∃ m', m' < k ∧ m' + (i + 1) = ds.length ∧ ∃ en', Good K B1 H' σ' en' ∧ Stp σ en1 H1 σ' en' H' ∧ QS K W B σ en H D0 (frL g f (ds.drop (i + 1)) en'), fun σ' H' z => z, ?_⟩
      intro x H3 hy
      have ed : ds[i]? = some ds[i] := List.getElem?_eq_getElem hi
      obtain ⟨x3, r3⟩ := wk.yld i H2 x H3 ds[i] kp ed hy
      have G3 : Good K B1 H3 σ2 en2 := G2.ext0 x3
      have st3 : Stp σ2 en2 H2 σ2 en2 H3 := Stp.ext G2 x3
      have rr : Rep K (Un B1 H3 σ2 en2) H3 ds[i] x := Rep.to (fun a o x n => ⟨x, fun z => n (z.imp id (G2.ownIff (H' := H3) (fun a o _ => x3 a o) a).mp)⟩) _ _ (r3 (Un B1 H2 σ2 en2) (fun a o e1 n z => (stepTo st2 (Bx.refl B1 σ en1 H1) a o e1 n).2 z) (fun a => G2.unAt))
      rw [List.drop_eq_getElem_cons hi] at m2
      unfold frL at m2
      cases e2 : g ds[i] en2 with
      | exc y en3 => rw [e2] at m2; exact m2.elim
      | bad => rw [e2] at m2; exact m2.elim
      | ok u en3 =>
        rw [e2] at m2
        dsimp only at m2
        refine hg (RdG.of G3 rr e2 fun σ4 H4 G4 st4 => ?_)
        have stA : Stp σ en1 H1 σ4 en3 H4 := (st2.trans st3).trans st4
        refine ⟨B1, en3, G4, ?_⟩
        have stB : Stp σ en H σ4 en3 H4 := st1.trans stA
        cases e3 : f en3 with
        | nx en5 => rw [e3] at m2; exact fun σ' H' g' s => ⟨k - 1, by omega, by omega, en5, g', stA.trans s, m2⟩
        | ct en5 => rw [e3] at m2; exact fun σ' H' g' s => ⟨k - 1, by omega, by omega, en5, g', stA.trans s, m2⟩
        | bk en5 => rw [e3] at m2; exact fun σ' H' g' s => m2 σ' H' (g'.mono b1.up) (stB.trans s)
        | rt r en5 => rw [e3] at m2; exact QS.to (W := W) (D0 := D0) (f := .rt r en5) b1 stB m2
        | exc y en5 => rw [e3] at m2; exact QS.to (W := W) (D0 := D0) (f := .exc y en5) b1 stB m2
        | bad => rw [e3] at m2; exact m2
    · have e0 : i = ds.length := by omega
      refine .inl ⟨by rw [e0]; exact wk.stop H2 kp, ?_⟩
      rw [List.drop_eq_nil_of_le (by omega)] at m2
      exact m2 σ2 H2 (G2.mono b1.up) (st1.trans st2)
end
section
variable {X : Cx} {W : WX} {pos : Pos} {e c : Expr} {st : Stmt} {rest body : List Stmt} {f g : En → Fl} {fe : M R} {t : M Bool}
theorem s_nil : PSs X [] (RdS X.K W skF) := pss_imp pss_nil fun D σ H ⟨B, en, G, m⟩ => m σ H G (Stp.refl σ en H)
theorem s_cons (h1 : PS X st (RdS X.K W f)) (h2 : PSs X rest (RdS X.K W g)) : PSs X (st :: rest) (RdS X.K W (seqF f g)) := pss_imp (pss_cons h1 h2) fun D σ H m => seqImp m
theorem s_one (h1 : PS X st (RdS X.K W f)) : PSs X [st] (RdS X.K W f) := pss_one h1
theorem s_expr (he : PE X e (RdE X.K W fe)) (hs : swapsWith e none pos.line X.env = pure false := by rfl) : PS X (.Expr e pos) (RdS X.K W (drF fe)) := ps_imp (ps_expr he hs) fun D σ H m => drImp m
theorem s_ret (he : PE X e (RdE X.K W fe)) : PS X (.Return (some e) pos) (RdS X.K W (rtF fe)) := ps_imp (ps_ret he) fun D σ H m => rtImp m
theorem s_if {a b : List Stmt} (hc : PT X c (RdT X.K W t)) (ha : PSs X a (RdS X.K W f)) (hb : PSs X b (RdS X.K W g)) : PS X (.If c a b pos) (RdS X.K W (ifS t f g)) := ps_imp (ps_if hc ha hb) fun D σ H m => ifSImp m
theorem s_asV {i : Nat} {x : Str} {pos' : Pos} (hN : X.N.Nodup) (he : PE X e (RdE X.K W fe)) (hi : X.N[i]? = some x := by rfl) (hx : Loc X.env.scope x := by first | exact Or.inl rfl | exact Or.inr rfl) (hs : swapsWith e (some (.Name x pos')) pos.line X.env = pure false := by rfl) (hf : X.fn x = true ∨ X.env.scope.names.lookup x = some .local := by first | exact .inl rfl | exact .inr rfl | assumption) :
    PS X (.Assign [.Name x pos'] e pos) (RdS X.K W (asV i fe)) := ps_imp (ps_set hN hi hx he hs hf) fun D σ H m => asVImp m
theorem s_asO {i : Nat} {x : Str} {pos' : Pos} (hN : X.N.Nodup) (he : PE X e (RdE X.K W fe)) (hi : X.N[i]? = some x := by rfl) (hx : Loc X.env.scope x := by first | exact Or.inl rfl | exact Or.inr rfl) (hs : swapsWith e (some (.Name x pos')) pos.line X.env = pure false := by rfl) (hf : X.fn x = true ∨ X.env.scope.names.lookup x = some .local := by first | exact .inl rfl | exact .inr rfl | assumption) :
    PS X (.Assign [.Name x pos'] e pos) (RdS X.K W (asO i fe)) := ps_imp (ps_set hN hi hx he hs hf) fun D σ H m => asOImp m
theorem g_nm {i : Nat} {x : Str} (hN : X.N.Nodup) (hi : X.N[i]? = some x := by rfl) (hx : Loc X.env.scope x := by first | exact Or.inl rfl | exact Or.inr rfl) (hf : X.fn x = true ∨ X.env.scope.names.lookup x = some .local := by first | exact .inl rfl | exact .inr rfl | assumption) : PG X (.Name x pos) (RdG X.K (gNm i)) :=
  pg_imp (pg_name hN hi hx hf) fun v σ H Q m => gNmImp m
theorem g_nil : PGs X [] (gNames []) := pgs_nil
theorem g_cons {i : Nat} {is : List Nat} {es : List Expr} {x : Str} (hN : X.N.Nodup) (h2 : PGs X es (gNames is)) (hi : X.N[i]? = some x := by rfl) (hx : Loc X.env.scope x := by first | exact Or.inl rfl | exact Or.inr rfl)
    (hf : X.fn x = true ∨ X.env.scope.names.lookup x = some .local := by first | exact .inl rfl | exact .inr rfl | assumption) (hs : (assignEach (.Name x pos :: es) X.env).map (·.2) = assign (.Name x pos) X.env :: (assignEach es X.env).map (·.2) := by rfl) : PGs X (.Name x pos :: es) (gNames (i :: is)) :=
  pgs_cons (pg_name hN hi hx hf) h2 hs
theorem g_tup {es : List Expr} {k : Nat} {is : List Nat} (hc : X.calm = true) (h : PGs X es (gNames is))
    (hn : (assignEach es X.env).length = is.length := by rfl) (hst : (assignEach es X.env).findIdx? (·.1) = none := by rfl) : PG X (.Tuple es k pos) (RdG X.K (gTp is)) :=
  pg_imp (pg_tup hc h hn hst) fun v σ H Q m => gTpImp m
theorem s_asG {tg : Expr} {gg : D → M Unit} (he : PE X e (RdE X.K W fe)) (hg : PG X tg (RdG X.K gg)) (hs : swapsWithSole [tg] e pos.line X.env = pure false := by rfl) (hw : swappedStores [tg] e X.env = pure none := by rfl)
    (h1 : (assignEach [tg] X.env).map (·.2) = [assign tg X.env] := by rfl) : PS X (.Assign [tg] e pos) (RdS X.K W (asG gg fe)) := ps_imp (ps_asg he hg hs hw h1) fun D σ H m => asGImp m
theorem s_par {i j : Nat} {x y : Str} {a b : Expr} {fs : M (List R)} {px py pt : Pos} {kt k2 pt2} (hc : X.calm = true) (hN : X.N.Nodup) (ha : PA X [a, b] (RdA X.K W fs)) (hi : X.N[i]? = some x := by rfl) (hj : X.N[j]? = some y := by rfl) (hij : i ≠ j := by decide)
    (hx : X.env.scope.names.lookup x = some .local := by rfl) (hy : X.env.scope.names.lookup y = some .local := by rfl)
    (hw : swappedStores [.Tuple [.Name x px, .Name y py] kt pt] (.Tuple [a, b] k2 pt2) X.env = pure (some [x, y]) := by rfl)
    (hs : swapsWithSole [.Tuple [.Name x px, .Name y py] kt pt] (.Tuple [a, b] k2 pt2) pos.line X.env = pure false := by rfl) :
    PS X (.Assign [.Tuple [.Name x px, .Name y py] kt pt] (.Tuple [a, b] k2 pt2) pos) (RdS X.K W (asP i j fs)) := ps_imp (ps_par hc hN hi hj hij hx hy ha hw hs) fun D σ H m => asPImp m
theorem s_while {n : Nat} (hp : PassesOwn (model X.prog X.w) X.A X.env X.xe) (hc : PT X c (RdT X.K W t)) (hb : PSs X body (RdS X.K W f)) : PS X (.While c body [] pos) (RdS X.K W (whF t f n)) := ps_imp (ps_while hp hc hb) fun D σ H m => whImp m
theorem s_for {tg iter : Expr} {it : M (List D)} {gg : D → M Unit} (hp : PassesOwn (model X.prog X.w) X.A X.env X.xe) (hc : X.calm = true) (hi : PI X tg iter (RdI X.K W it)) (hg : PG X tg (RdG X.K gg)) (hb : PSs X body (RdS X.K W f))
    (hs : ∀ x, foldedSetIterable iter X.env x = pure x := by intro _; rfl) : PS X (.For tg iter body [] pos) (RdS X.K W (frF it gg f)) := ps_imp (ps_for hp hc hi hg hb hs) fun D σ H m => frImp (fun m => m) m
end
end PyD

namespace PyD
open PySem PySem.Spec L2
noncomputable def slIn (b : Bool) (d : D) : Sl := match b with
  | true => .o true d
  | false => .v d
noncomputable def mkE : List Bool → List D → En
  | b :: io, d :: ds => slIn b d :: mkE io ds
  | _, _ => []
noncomputable def pick (b : Bool) (d : D) (s : Sl) : D := match b, s with
  | true, .o _ d' => d'
  | _, _ => d
noncomputable def outsOf : List Bool → List D → En → List D
  | b :: io, d :: ds, s :: en => pick b d s :: outsOf io ds en
  | _, _, _ => []
noncomputable def runF (io : List Bool) (k : Nat) (f : En → Fl) (ds : List D) : Out := match f (mkE io ds ++ List.replicate k .e) with
  | .nx en => .ret false .non (outsOf io ds en)
  | .rt (.sh d) en => .ret false d (outsOf io ds en)
  | .rt (.fr d) en => .ret true d (outsOf io ds en)
  | .exc x en => .exc x (outsOf io ds en)
  | _ => .bad
noncomputable def spD (K : PySem.W.Frag) (io : List Bool) (φ : List D → Out) : Sp := fun vs H Q E => ∃ B ds, ds.length = io.length ∧ vs.length = io.length ∧ Good K B H (vs.map some) (mkE io ds) ∧ match φ ds with
  | .ret b d outs => ∀ v H', (∃ B', Bx B B' (vs.map some) (mkE io ds) H ∧ Good K B' H' (vs.map some) (mkE io outs) ∧ (b = false → Rep K (Un B' H' (vs.map some) (mkE io outs)) H' d v) ∧
      (b = true → ∃ p, v = .ref p ∧ (∀ a, Rch H' d p a → H a = none ∧ B' a) ∧ Cont K (Un B' H' (vs.map some) (mkE io outs)) H' d p)) → Stp (vs.map some) (mkE io ds) H (vs.map some) (mkE io outs) H' → Q v H'
  | .exc x outs => ∀ c od H', ExR K (Un B H' (vs.map some) (mkE io outs)) H' x c od → Good K B H' (vs.map some) (mkE io outs) → Stp (vs.map some) (mkE io ds) H (vs.map some) (mkE io outs) H' → E c od H'
  | .bad => False
noncomputable def flatC : D → Bool
  | .lst ds => flatL ds
  | .dic kvs => flatL (kvs.map (·.2))
  | .obj _ fs => flatL (fs.map (·.2))
  | .ow _ => false
  | _ => true
noncomputable def resFlat (b : Bool) (d : D) : Bool := match b with
  | true => flatC d
  | false => flatD d
noncomputable def excFlat (x : Ex) : Bool := match x.fld with
  | some (_, d) => flatD d
  | none => true
noncomputable def slotsOf : List R → List Nat
  | [] => []
  | .sl i :: rs => i :: slotsOf rs
  | _ :: rs => slotsOf rs
noncomputable def lentOk : List Bool → List R → Bool
  | true :: io, .sl _ :: rs => lentOk io rs
  | true :: _, _ => false
  | false :: io, _ :: rs => lentOk io rs
  | [], [] => true
  | _, _ => false
noncomputable def borrows : List Bool → List R → Bool
  | false :: _, .sl _ :: _ => true
  | _ :: io, _ :: rs => borrows io rs
  | _, _ => false
noncomputable def nodupB : List Nat → Bool
  | [] => true
  | i :: is => !(is.elem i) && nodupB is
noncomputable def putBack : List Bool → List R → List D → En → En
  | true :: io, .sl j :: rs, d :: outs, en => putBack io rs outs (match en[j]? with
    | some (.o f _) => en.set j (.o f d)
    | _ => en)
  | _ :: io, _ :: rs, _ :: outs, en => putBack io rs outs en
  | _, _, _, en => en
noncomputable def callF (io : List Bool) (φ : List D → Out) (fs : M (List R)) : M R := fun en => match fs en with
  | .ok rs en1 => (match rsls en1 rs with
    | some ds => (match lentOk io rs && nodupB (slotsOf rs) with
      | true => (match φ ds with
        | .ret b d outs => (match !(borrows io rs) || (!(io.elem true) && resFlat b d) with
          | true => .ok (mkR b d) (putBack io rs outs en1)
          | false => .bad)
        | .exc x outs => (match !(borrows io rs) || (!(io.elem true) && excFlat x) with
          | true => .exc x (putBack io rs outs en1)
          | false => .bad)
        | .bad => .bad)
      | false => .bad)
    | none => .bad)
  | .exc x en1 => .exc x en1
  | .bad => .bad
section
variable {K : PySem.W.Frag} {W : WX} {B B' B1 : Addr → Prop} {U U' : Addr → Prop} {H H' H1 : Hp} {σ σ' σ1 : L2.St} {en en' en1 : En} {d : D} {v : V} {i : Nat} {p : Addr} {io : List Bool} {ds : List D}
theorem mkE_len : ∀ {io : List Bool} {ds : List D}, ds.length = io.length → (mkE io ds).length = io.length
  | [], _, _ => rfl
  | b :: io, [], h => by cases h
  | b :: io, d :: ds, h => by
    show (mkE io ds).length + 1 = io.length + 1
    rw [mkE_len (Nat.succ.inj h)]
theorem mkE_get : ∀ {io : List Bool} {ds : List D} {i : Nat} {s : Sl}, (mkE io ds)[i]? = some s → ∃ b d, io[i]? = some b ∧ ds[i]? = some d ∧ s = slIn b d
  | [], _, i, s, h => by cases h
  | b :: io, [], i, s, h => by cases h
  | b :: io, d :: ds, 0, s, h => ⟨b, d, rfl, rfl, (Option.some.inj h).symm⟩
  | b :: io, d :: ds, i + 1, s, h => mkE_get (io := io) (ds := ds) (i := i) h
theorem mkE_of : ∀ {io : List Bool} {ds : List D} {i : Nat} {b : Bool} {d : D}, io[i]? = some b → ds[i]? = some d → (mkE io ds)[i]? = some (slIn b d)
  | [], _, i, b, d, h, _ => by cases h
  | b :: io, [], i, _, d, h, h2 => by cases h2
  | b :: io, d :: ds, 0, _, _, h, h2 => by
    cases h
    cases h2
    rfl
  | b :: io, d :: ds, i + 1, _, _, h, h2 => mkE_of (io := io) (ds := ds) (i := i) h h2
theorem outs_len : ∀ {io : List Bool} {ds : List D} {en : En}, ds.length = io.length → io.length ≤ en.length → (outsOf io ds en).length = io.length
  | [], ds, en, _, _ => by
    cases ds <;> rfl
  | b :: io, [], en, h, _ => by cases h
  | b :: io, d :: ds, [], _, h => by cases h
  | b :: io, d :: ds, s :: en, h, h2 => by
    show (outsOf io ds en).length + 1 = io.length + 1
    rw [outs_len (Nat.succ.inj h) (Nat.le_of_succ_le_succ h2)]
theorem outs_get : ∀ {io : List Bool} {ds : List D} {en : En} {i : Nat} {b : Bool} {d : D} {s : Sl}, io[i]? = some b → ds[i]? = some d → en[i]? = some s → (outsOf io ds en)[i]? = some (pick b d s)
  | [], _, _, i, b, d, s, h, _, _ => by cases h
  | b :: io, [], _, i, _, d, s, _, h, _ => by cases h
  | b :: io, d :: ds, [], i, _, _, s, _, _, h => by cases h
  | b :: io, d :: ds, s :: en, 0, _, _, _, h1, h2, h3 => by
    cases h1
    cases h2
    cases h3
    rfl
  | b :: io, d :: ds, s :: en, i + 1, _, _, _, h1, h2, h3 => outs_get (io := io) (ds := ds) (en := en) (i := i) h1 h2 h3
theorem app_get {α : Type} {l : List α} {k i : Nat} {x y : α} (h : (l ++ List.replicate k x)[i]? = some y) : l[i]? = some y ∨ y = x := by
  by_cases q : i < l.length
  · rw [List.getElem?_append_left q] at h
    exact .inl h
  · rw [List.getElem?_append_right (by omega), List.getElem?_replicate] at h
    split at h
    · exact .inr (Option.some.inj h).symm
    · cases h
theorem get_app {α : Type} {l m : List α} {i : Nat} {y : α} (h : l[i]? = some y) : (l ++ m)[i]? = some y := by
  rw [List.getElem?_append_left (get_lt h)]
  exact h
theorem own_app {k k' : Nat} {a : Addr} (hl : σ.length = en.length) (h : Own H (σ ++ List.replicate k none) (en ++ List.replicate k' .e) a) : Own H σ en a := by
  obtain ⟨i, b, d, p, e, s, r⟩ := h
  rcases app_get e with e | e
  · rw [List.getElem?_append_left (by rw [hl]; exact get_lt e)] at s
    exact ⟨i, b, d, p, e, s, r⟩
  · cases e
theorem Good.app (G : Good K B H σ en) (k : Nat) : Good K B H (σ ++ List.replicate k none) (en ++ List.replicate k .e) where
  len := by rw [List.length_append, List.length_append, List.length_replicate, List.length_replicate, G.len]
  all := G.all
  rep := fun i d e => by
    rcases app_get e with e | e
    · obtain ⟨v, s, r⟩ := G.rep i d e
      exact ⟨v, get_app s, Rep.to (fun a o x n => ⟨x, fun z => n (z.imp id (own_app G.len))⟩) d v r⟩
    · cases e
  own := fun i b d e => by
    rcases app_get e with e | e
    · obtain ⟨p, s, n, c⟩ := G.own i b d e
      exact ⟨p, get_app s, n, Cont.to (fun a o x n => ⟨x, fun z => n (z.imp id (own_app G.len))⟩) (fun _ _ _ x => x) c⟩
    · cases e
  inj := fun i j p q a b c d d' e1 e2 s1 s2 => by
    rcases app_get e1 with e1 | e1
    · rcases app_get e2 with e2 | e2
      · rw [List.getElem?_append_left (by rw [G.len]; exact get_lt e1)] at s1
        rw [List.getElem?_append_left (by rw [G.len]; exact get_lt e2)] at s2
        exact G.inj i j p q a b c d d' e1 e2 s1 s2
      · cases e2
    · cases e1
theorem slIn_o {b c : Bool} {d d' : D} (h : slIn b d = .o c d') : b = true ∧ c = true ∧ d' = d := by
  cases b with
  | true => cases h; exact ⟨rfl, rfl, rfl⟩
  | false => cases h
theorem slIn_v {b : Bool} {d d' : D} (h : slIn b d = .v d') : b = false ∧ d' = d := by
  cases b with
  | true => cases h
  | false => cases h; exact ⟨rfl, rfl⟩
theorem back_to {vs : List V} {k : Nat} (hd : ds.length = io.length) (hv : vs.length = io.length) (G : Good K B H (vs.map some) (mkE io ds)) (G' : Good K B' H' σ' en') (bx : Bx B B' (vs.map some ++ List.replicate k none) (mkE io ds ++ List.replicate k .e) H)
    (st : Stp (vs.map some ++ List.replicate k none) (mkE io ds ++ List.replicate k .e) H σ' en' H') :
    Bx B B' (vs.map some) (mkE io ds) H ∧ Good K B' H' (vs.map some) (mkE io (outsOf io ds en')) ∧ Stp (vs.map some) (mkE io ds) H (vs.map some) (mkE io (outsOf io ds en')) H' ∧ ∀ a, Un B' H' (vs.map some) (mkE io (outsOf io ds en')) a → Un B' H' σ' en' a := by
  have hle : io.length ≤ en'.length := by
    rw [st.len, List.length_append, mkE_len hd]
    omega
  have ol := outs_len (en := en') hd hle
  have at_ : ∀ {i : Nat} {s : Sl}, (mkE io (outsOf io ds en'))[i]? = some s → ∃ b d s', io[i]? = some b ∧ ds[i]? = some d ∧ en'[i]? = some s' ∧ s = slIn b (pick b d s') := fun {i s} h => by
    obtain ⟨b, d, h1, h2, h3⟩ := mkE_get h
    have hi := get_lt h1
    obtain ⟨s', e'⟩ : ∃ s', en'[i]? = some s' := ⟨_, List.getElem?_eq_getElem (by omega)⟩
    have hdi : i < ds.length := by omega
    obtain ⟨d0, e0⟩ : ∃ d0, ds[i]? = some d0 := ⟨_, List.getElem?_eq_getElem hdi⟩
    have := outs_get h1 e0 e'
    rw [h2] at this
    cases this
    exact ⟨b, d0, s', h1, e0, e', h3⟩
  -- a lent one
  have lent : ∀ {i : Nat} {d : D}, io[i]? = some true → ds[i]? = some d → σ'[i]? = (vs.map some)[i]? ∧ ∃ d', en'[i]? = some (.o true d') := fun {i d} h1 h2 => by
    obtain ⟨q1, d', q2⟩ := st.pin i d (get_app (mkE_of h1 h2))
    refine ⟨?_, d', q2⟩
    rw [q1, List.getElem?_append_left]
    rw [List.length_map, hv]
    exact get_lt h1
  have lentO : ∀ {i : Nat} {b : Bool} {d : D}, (mkE io (outsOf io ds en'))[i]? = some (.o b d) → en'[i]? = some (.o true d) ∧ σ'[i]? = (vs.map some)[i]? := fun {i b d} e => by
    obtain ⟨b', d0, s', h1, h2, h3, h4⟩ := at_ e
    obtain ⟨z1, z2, z3⟩ := slIn_o h4.symm
    subst z1
    obtain ⟨q1, d', q2⟩ := lent h1 h2
    have ed : d = d' := by
      rw [z3]
      rw [h3] at q2
      cases q2
      rfl
    subst ed
    exact ⟨q2, q1⟩
  have ow : ∀ a, Own H' (vs.map some) (mkE io (outsOf io ds en')) a → Own H' σ' en' a := fun a h => by
    obtain ⟨i, b, d, p, e, s, r⟩ := h
    obtain ⟨q2, q1⟩ := lentO e
    exact ⟨i, true, d, p, q2, by rw [q1]; exact s, r⟩
  have un : ∀ a, Un B' H' (vs.map some) (mkE io (outsOf io ds en')) a → Un B' H' σ' en' a := fun a h => h.imp id (ow a)
  have oapp : ∀ {a}, Own H (vs.map some ++ List.replicate k none) (mkE io ds ++ List.replicate k .e) a → Own H (vs.map some) (mkE io ds) a := fun {a} h => own_app G.len h
  have oapp' : ∀ {a}, Own H (vs.map some) (mkE io ds) a → Own H (vs.map some ++ List.replicate k none) (mkE io ds ++ List.replicate k .e) a := fun {a} ⟨i, b, d, p, e, s, r⟩ => ⟨i, b, d, p, get_app e, get_app s, r⟩
  refine ⟨⟨bx.up, fun a h => ?_⟩, ?_, ?_, un⟩
  · rcases bx.new a h with q | q | q
    · exact .inl q
    · exact .inr (.inl q)
    · exact .inr (.inr (oapp q))
  · have t : ∀ a o, H a = some o → ¬ Un B H (vs.map some) (mkE io ds) a → H' a = some o ∧ ¬ Un B' H' (vs.map some) (mkE io (outsOf io ds en')) a := fun a o h n => by
      obtain ⟨q1, q2⟩ := stepTo st bx a o h fun z => n (z.imp id oapp)
      exact ⟨q1, fun z => q2 (un a z)⟩
    exact {
      len := by rw [List.length_map, hv, mkE_len ol]
      all := G'.all
      rep := fun i d e => by
        obtain ⟨b', d0, s', h1, h2, h3, h4⟩ := at_ e
        obtain ⟨z1, z2⟩ := slIn_v h4.symm
        subst z1
        have e0 : (mkE io ds)[i]? = some (.v d) := by
          rw [mkE_of h1 h2, z2]
          rfl
        obtain ⟨v, s, r⟩ := G.rep i d e0
        exact ⟨v, s, Rep.to t d v r⟩
      own := fun i b d e => by
        obtain ⟨b', d0, s', h1, h2, h3, h4⟩ := at_ e
        obtain ⟨z1, z2, z3⟩ := slIn_o h4.symm
        subst z1
        obtain ⟨q1, d', q2⟩ := lent h1 h2
        obtain ⟨p, s, n, c⟩ := G'.own i true d' q2
        have ed : d = d' := by
          rw [z3]
          rw [h3] at q2
          cases q2
          rfl
        subst ed
        exact ⟨p, by rw [← q1]; exact s, n, Cont.to (fun a o x n => ⟨x, fun z => n (un a z)⟩) (fun _ _ _ x => x) c⟩
      inj := fun i j p q a b c d d' e1 e2 s1 s2 => by
        obtain ⟨x1, y1⟩ := lentO e1
        obtain ⟨x2, y2⟩ := lentO e2
        exact G'.inj i j p q a true true d d' x1 x2 (by rw [y1]; exact s1) (by rw [y2]; exact s2) }
  · exact {
      len := by rw [mkE_len ol, mkE_len hd]
      fr := fun a o h n => st.fr a o h fun z => n (oapp z)
      al := st.al
      ow := fun a h => (st.ow a (ow a h)).imp oapp id
      of := fun a h => by
        obtain ⟨i, d, p, e, s, r⟩ := h
        obtain ⟨b', d0, s', h1, h2, h3, h4⟩ := at_ e
        obtain ⟨_, z2, _⟩ := slIn_o h4.symm
        cases z2
      pin := fun i d e => by
        refine ⟨rfl, ?_⟩
        obtain ⟨b, d0, h1, h2, h3⟩ := mkE_get e
        obtain ⟨z1, _, z3⟩ := slIn_o h3.symm
        subst z1
        obtain ⟨q1, d', q2⟩ := lent h1 h2
        exact ⟨_, mkE_of h1 (outs_get h1 h2 q2)⟩
      pb := fun i d e => by
        obtain ⟨b, d0, s', h1, h2, h3, h4⟩ := at_ e
        obtain ⟨z1, _, _⟩ := slIn_o h4.symm
        subst z1
        exact ⟨_, mkE_of h1 h2⟩
      pr := fun i d d' p a e1 e2 s r => by
        obtain ⟨x2, y2⟩ := lentO e2
        rcases st.pr i d d' p a (get_app e1) x2 (get_app s) r with q | q | q
        · exact .inl q
        · exact .inr (.inl q)
        · obtain ⟨i', d1, p1, f1, f2, _⟩ := q
          rcases app_get f1 with f1 | f1
          · obtain ⟨b2, d2, _, _, h4⟩ := mkE_get f1
            obtain ⟨_, z2, _⟩ := slIn_o h4.symm
            cases z2
          · cases f1 }
theorem ok_def {P : Program} {w : World} {mg : Str → Option Value} {base : Heap} {x qual : Str} {st : Stmt} {f : Addr} {fd : FuncData} {N ps : List Str} {lev k : Nat} {io : List Bool} {b : En → Fl} (F : Fun K x qual st f fd) (S : FnScope N ps (defScope st)) (hps : io.length = ps.length) (hN : N.length = ps.length + k)
    (hb : ∀ (cdv : Value) (A : Around) (outer : List Env) (s : Shared) (H : Hp) (E : XK), Room lev (A.deeper (PyProof.Rows.envOfC qual (defScope st) s.heap.objs.size f cdv)) → PSs (cxOf (L2.CX P w) P w K mg base N qual (defScope st) f cdv A outer s H E) (defBody st) (RdS K (fun cls d _ H => E cls d H) b)) :
    FnOk P w K mg base (L2.CX P w) (lev + 1) f fd ps (spD K io (runF io k b)) := by
  refine F.okX S (fun vs H Q E ⟨B, ds, h1, h2, _⟩ => h2.trans hps) fun cdv A outer s H vs Q E hr h => ⟨_, hb cdv A outer s H E hr, ?_⟩
  obtain ⟨B, ds, h1, h2, G, m⟩ := h
  have hst : L2.start N vs = vs.map some ++ List.replicate k none := by
    unfold L2.start
    rw [hN, h2, hps, Nat.add_sub_cancel_left]
  rw [hst]
  refine ⟨B, _, G.app k, ?_⟩
  unfold runF at m
  cases e : b (mkE io ds ++ List.replicate k .e) with
  | nx en' =>
    rw [e] at m
    intro σ' H' g s
    obtain ⟨b1, g1, s1, un⟩ := back_to h1 h2 G g (Bx.refl B _ _ H) s
    exact m .non H' ⟨B, b1, g1, fun _ => (by unfold Rep; rfl), fun z => (by cases z)⟩ s1
  | bk en' => rw [e] at m; exact m.elim
  | ct en' => rw [e] at m; exact m.elim
  | rt r en' =>
    rw [e] at m
    intro v σ' H' ⟨B', bx, g, ra, n⟩ s
    obtain ⟨b1, g1, s1, un⟩ := back_to h1 h2 G g bx s
    cases r with
    | sh d => exact m v H' ⟨B', b1, g1, fun _ => Rep.to (fun a o x n => ⟨x, fun z => n (un a z)⟩) _ _ ra, fun z => (by cases z)⟩ s1
    | fr d =>
      obtain ⟨p, e1, bp, c⟩ := ra
      refine m v H' ⟨B', b1, g1, fun z => (by cases z), fun _ => ⟨p, e1, fun a r => ⟨?_, bp a r⟩, Cont.to (fun a o x n => ⟨x, fun z => n (un a z)⟩) (fun _ _ _ x => x) c⟩⟩ s1
      rcases n p a e1 r with q | q
      · exact q
      · obtain ⟨i, d', p2, e2, s2, _⟩ := q
        rcases app_get e2 with e2 | e2
        · obtain ⟨b2, d2, _, _, h4⟩ := mkE_get e2
          obtain ⟨_, z2, _⟩ := slIn_o h4.symm
          cases z2
        · cases e2
    | sl i => exact m.elim
  | exc x en' =>
    rw [e] at m
    intro c od σ' H' ex g s
    obtain ⟨b1, g1, s1, un⟩ := back_to h1 h2 G g (Bx.refl B _ _ H) s
    exact m c od H' (ex.mono un) g1 s1
  | bad => rw [e] at m; exact m.elim
end
end PyD

namespace PyD
open PySem PySem.Spec L2
section
variable {K : PySem.W.Frag} {W : WX} {B B' B1 : Addr → Prop} {U U' : Addr → Prop} {H H' H1 : Hp} {σ σ' σ1 : L2.St} {en en' en1 : En} {d : D} {v : V} {i : Nat} {p : Addr} {io : List Bool} {ds : List D}
mutual
theorem Rep.flat (h : ∀ a vs d, H a = some (.tup vs) → flatD d = true → Rep K U H d (.ref a) → ¬ U a → ¬ U' a) : ∀ {d : D} {v : V}, flatD d = true → Rep K U H d v → Rep K U' H d v
  | .non, v, _, r => by unfold Rep at r ⊢; exact r
  | .bl _, v, _, r => by unfold Rep at r ⊢; exact r
  | .int _, v, _, r => by unfold Rep at r ⊢; exact r
  | .str _, v, _, r => by unfold Rep at r ⊢; exact r
  | .tup ds, v, f, r => by
    have r0 := r
    unfold Rep at r ⊢
    obtain ⟨a, vs, e, n, ha, q⟩ := r
    subst e
    exact ⟨a, vs, rfl, h a vs _ ha f r0 n, ha, RepL.flat h (by unfold flatD at f; exact f) q⟩
  | .lst _, _, f, _ => by unfold flatD at f; cases f
  | .dic _, _, f, _ => by unfold flatD at f; cases f
  | .obj _ _, _, f, _ => by unfold flatD at f; cases f
  | .scr _, _, f, _ => by unfold flatD at f; cases f
  | .exn _ _, _, f, _ => by unfold flatD at f; cases f
  | .adr _ _, _, f, _ => by unfold flatD at f; cases f
  | .ow _, _, f, _ => by unfold flatD at f; cases f
theorem RepL.flat (h : ∀ a vs d, H a = some (.tup vs) → flatD d = true → Rep K U H d (.ref a) → ¬ U a → ¬ U' a) : ∀ {ds : List D} {vs : List V}, flatL ds = true → RepL K U H ds vs → RepL K U' H ds vs
  | [], vs, _, r => by unfold RepL at r ⊢; exact r
  | d :: ds, vs, f, r => by
    unfold RepL at r ⊢
    unfold flatL at f
    obtain ⟨f1, f2⟩ := Bool.and_eq_true_iff.mp f
    obtain ⟨v, us, e, q1, q2⟩ := r
    exact ⟨v, us, e, Rep.flat h f1 q1, RepL.flat h f2 q2⟩
end
theorem RepK.flat (h : ∀ a vs d, H a = some (.tup vs) → flatD d = true → Rep K U H d (.ref a) → ¬ U a → ¬ U' a) : ∀ {ds : List (Key × D)} {vs : List (Key × V)}, flatL (ds.map (·.2)) = true → RepK K U H ds vs → RepK K U' H ds vs
  | [], vs, _, r => by unfold RepK at r ⊢; exact r
  | (k, d) :: ds, vs, f, r => by
    unfold RepK at r ⊢
    rw [List.map_cons] at f
    unfold flatL at f
    obtain ⟨f1, f2⟩ := Bool.and_eq_true_iff.mp f
    obtain ⟨v, us, e, q1, q2⟩ := r
    exact ⟨v, us, e, Rep.flat h f1 q1, RepK.flat h f2 q2⟩
theorem RepF.flat (h : ∀ a vs d, H a = some (.tup vs) → flatD d = true → Rep K U H d (.ref a) → ¬ U a → ¬ U' a) : ∀ {ds : List (Str × D)} {vs : List (Str × V)}, flatL (ds.map (·.2)) = true → RepF K U H ds vs → RepF K U' H ds vs
  | [], vs, _, r => by unfold RepF at r ⊢; exact r
  | (k, d) :: ds, vs, f, r => by
    unfold RepF at r ⊢
    rw [List.map_cons] at f
    unfold flatL at f
    obtain ⟨f1, f2⟩ := Bool.and_eq_true_iff.mp f
    obtain ⟨v, us, e, q1, q2⟩ := r
    exact ⟨v, us, e, Rep.flat h f1 q1, RepF.flat h f2 q2⟩
theorem Cont.flat (h : ∀ a vs d, H a = some (.tup vs) → flatD d = true → Rep K U H d (.ref a) → ¬ U a → ¬ U' a) : ∀ {d : D}, flatC d = true → Cont K U H d p → Cont K U' H d p
  | .lst ds, f, ⟨vs, a, r⟩ => ⟨vs, a, RepL.flat h f r⟩
  | .dic ds, f, ⟨vs, a, r⟩ => ⟨vs, a, RepK.flat h f r⟩
  | .obj n ds, f, ⟨C, dx, vs, a, c, r⟩ => ⟨C, dx, vs, a, c, RepF.flat h f r⟩
  | .ow _, f, _ => by cases f
theorem argRs_len : ∀ {rs : List R} {vs : List V}, ArgRs K B σ en H rs vs → vs.length = rs.length
  | [], vs, h => by
    have h' : vs = [] := h
    rw [h'] <;> rfl
  | r :: rs, vs, ⟨v, us, e, _, h, _⟩ => by rw [e, List.length_cons, List.length_cons, argRs_len h]
theorem argRs_get : ∀ {rs : List R} {vs : List V} {i : Nat} {r : R}, ArgRs K B σ en H rs vs → rs[i]? = some r → ∃ v, vs[i]? = some v ∧ ArgR K B σ en H r v
  | [], vs, i, r, h, e => by cases e
  | r :: rs, vs, 0, _, ⟨v, us, e, h1, h2, _⟩, e1 => by
    cases e1
    exact ⟨v, by rw [e] <;> rfl, h1⟩
  | r :: rs, vs, i + 1, _, ⟨v, us, e, h1, h2, _⟩, e1 => by
    obtain ⟨v', q, r'⟩ := argRs_get (i := i) h2 e1
    exact ⟨v', by rw [e]; exact q, r'⟩
theorem frNs_get : ∀ {rs : List R} {vs : List V} {i : Nat} {r : R} {v : V}, frNs σ en H H' rs vs → rs[i]? = some r → vs[i]? = some v → frN σ en H H' r v
  | [], vs, i, r, v, h, e, _ => by cases e
  | r :: rs, [], i, _, v, h, _, e => by cases e
  | r :: rs, v :: vs, 0, _, _, h, e, e1 => by
    cases e
    cases e1
    exact h.1
  | r :: rs, v :: vs, i + 1, _, _, h, e, e1 => frNs_get (i := i) h.2 e e1
theorem rsls_len : ∀ {rs : List R} {ds : List D}, rsls en rs = some ds → ds.length = rs.length
  | [], ds, e => by cases e; rfl
  | r :: rs, ds, e => by
    unfold rsls at e
    cases q : rsl en r with
    | none => rw [q] at e; cases e
    | some d =>
      rw [q] at e
      dsimp only at e
      cases q2 : rsls en rs with
      | none => rw [q2] at e; cases e
      | some ds' =>
        rw [q2] at e
        cases e
        rw [List.length_cons, List.length_cons, rsls_len q2]
theorem rsls_get : ∀ {rs : List R} {ds : List D} {i : Nat} {d : D}, rsls en rs = some ds → ds[i]? = some d → ∃ r, rs[i]? = some r ∧ rsl en r = some d
  | [], ds, i, d, e, h => by cases e; cases h
  | r :: rs, ds, i, d, e, h => by
    unfold rsls at e
    cases q : rsl en r with
    | none => rw [q] at e; cases e
    | some d' =>
      rw [q] at e
      dsimp only at e
      cases q2 : rsls en rs with
      | none => rw [q2] at e; cases e
      | some ds' =>
        rw [q2] at e
        cases e
        cases i with
        | zero => cases h; exact ⟨r, rfl, q⟩
        | succ i => exact rsls_get (i := i) q2 h
theorem lentOk_len : ∀ {io : List Bool} {rs : List R}, lentOk io rs = true → rs.length = io.length
  | [], [], _ => rfl
  | [], _ :: _, h => by cases h
  | true :: io, [], h => by cases h
  | false :: io, [], h => by cases h
  | true :: io, .sl j :: rs, h => by rw [List.length_cons, List.length_cons, lentOk_len (io := io) h]
  | true :: io, .sh _ :: rs, h => by cases h
  | true :: io, .fr _ :: rs, h => by cases h
  | false :: io, r :: rs, h => by
    rw [List.length_cons, List.length_cons, lentOk_len (io := io) (rs := rs) (by cases r <;> exact h)]
theorem lentOk_get : ∀ {io : List Bool} {rs : List R} {i : Nat}, lentOk io rs = true → io[i]? = some true → ∃ j, rs[i]? = some (.sl j)
  | [], [], i, _, h => by cases h
  | [], _ :: _, i, h, _ => by cases h
  | true :: io, [], i, h, _ => by cases h
  | false :: io, [], i, h, _ => by cases h
  | true :: io, .sl j :: rs, 0, h, _ => ⟨j, rfl⟩
  | true :: io, .sl j :: rs, i + 1, h, e => lentOk_get (io := io) (i := i) h e
  | true :: io, .sh _ :: rs, i, h, _ => by cases h
  | true :: io, .fr _ :: rs, i, h, _ => by cases h
  | false :: io, r :: rs, 0, h, e => by cases e
  | false :: io, r :: rs, i + 1, h, e => lentOk_get (io := io) (rs := rs) (i := i) (by cases r <;> exact h) e
theorem slots_mem : ∀ {rs : List R} {i j : Nat}, rs[i]? = some (.sl j) → j ∈ slotsOf rs
  | [], i, j, h => by cases h
  | .sl k :: rs, 0, j, h => by
    cases h
    exact List.mem_cons_self
  | .sl k :: rs, i + 1, j, h => List.mem_cons_of_mem _ (slots_mem (rs := rs) (i := i) h)
  | .sh _ :: rs, 0, j, h => by cases h
  | .fr _ :: rs, 0, j, h => by cases h
  | .sh _ :: rs, i + 1, j, h => slots_mem (rs := rs) (i := i) h
  | .fr _ :: rs, i + 1, j, h => slots_mem (rs := rs) (i := i) h
theorem nodup_cons {i : Nat} {is : List Nat} (h : nodupB (i :: is) = true) : i ∉ is ∧ nodupB is = true := by
  unfold nodupB at h
  obtain ⟨h1, h2⟩ := Bool.and_eq_true_iff.mp h
  refine ⟨fun z => ?_, h2⟩
  rw [Bool.not_eq_true'] at h1
  have q : is.elem i = true := List.elem_eq_true_of_mem z
  rw [h1] at q
  cases q
theorem slots_inj : ∀ {rs : List R} {i k j : Nat}, nodupB (slotsOf rs) = true → rs[i]? = some (.sl j) → rs[k]? = some (.sl j) → i = k
  | [], i, k, j, _, h, _ => by cases h
  | .sl m :: rs, 0, 0, j, n, h, g => rfl
  | .sl m :: rs, 0, k + 1, j, n, h, g => by
    cases h
    exact absurd (slots_mem (rs := rs) (i := k) g) (nodup_cons n).1
  | .sl m :: rs, i + 1, 0, j, n, h, g => by
    cases g
    exact absurd (slots_mem (rs := rs) (i := i) h) (nodup_cons n).1
  | .sl m :: rs, i + 1, k + 1, j, n, h, g => by rw [slots_inj (rs := rs) (i := i) (k := k) (nodup_cons n).2 h g]
  | .sh _ :: rs, 0, k, j, n, h, g => by cases h
  | .fr _ :: rs, 0, k, j, n, h, g => by cases h
  | .sh _ :: rs, i + 1, 0, j, n, h, g => by cases g
  | .fr _ :: rs, i + 1, 0, j, n, h, g => by cases g
  | .sh _ :: rs, i + 1, k + 1, j, n, h, g => by rw [slots_inj (rs := rs) (i := i) (k := k) n h g]
  | .fr _ :: rs, i + 1, k + 1, j, n, h, g => by rw [slots_inj (rs := rs) (i := i) (k := k) n h g]
theorem borrows_no : ∀ {io : List Bool} {rs : List R} {i j : Nat}, borrows io rs = false → io[i]? = some false → rs[i]? = some (.sl j) → False
  | [], rs, i, j, _, h, _ => by cases h
  | b :: io, [], i, j, _, _, h => by cases h
  | false :: io, .sl m :: rs, i, j, n, _, _ => by cases n
  | true :: io, r :: rs, 0, j, n, h, _ => by cases h
  | true :: io, r :: rs, i + 1, j, n, h, g => borrows_no (io := io) (rs := rs) (i := i) (by cases r <;> exact n) h g
  | false :: io, .sh _ :: rs, 0, j, n, _, h => by cases h
  | false :: io, .fr _ :: rs, 0, j, n, _, h => by cases h
  | false :: io, .sh _ :: rs, i + 1, j, n, h, g => borrows_no (io := io) (rs := rs) (i := i) n h g
  | false :: io, .fr _ :: rs, i + 1, j, n, h, g => borrows_no (io := io) (rs := rs) (i := i) n h g
theorem putBack_len : ∀ {io : List Bool} {rs : List R} {outs : List D} {en : En}, (putBack io rs outs en).length = en.length
  | [], rs, outs, en => by cases rs <;> cases outs <;> rfl
  | true :: io, [], outs, en => by cases outs <;> rfl
  | false :: io, [], outs, en => by cases outs <;> rfl
  | true :: io, .sh _ :: rs, [], en => rfl
  | true :: io, .fr _ :: rs, [], en => rfl
  | true :: io, .sl _ :: rs, [], en => rfl
  | false :: io, r :: rs, [], en => by cases r <;> rfl
  | true :: io, .sl j :: rs, d :: outs, en => by
    show (putBack io rs outs _).length = _
    rw [putBack_len]
    split
    · exact List.length_set
    · rfl
  | true :: io, .sh _ :: rs, d :: outs, en => putBack_len (io := io)
  | true :: io, .fr _ :: rs, d :: outs, en => putBack_len (io := io)
  | false :: io, r :: rs, d :: outs, en => by cases r <;> exact putBack_len (io := io)
noncomputable def SlSame (s s' : Sl) : Prop := s' = s ∨ ∃ f d d', s = .o f d ∧ s' = .o f d'
theorem SlSame.trans {s t u : Sl} (a : SlSame s t) (b : SlSame t u) : SlSame s u := by
  rcases a with rfl | ⟨f, d, d', rfl, rfl⟩
  · exact b
  · rcases b with rfl | ⟨g, x, x', e, rfl⟩
    · exact .inr ⟨f, d, d', rfl, rfl⟩
    · cases e
      exact .inr ⟨f, d, x', rfl, rfl⟩
theorem set_same {j : Nat} {d : D} {s : Sl} (e : en[i]? = some s) : ∃ s', (match en[j]? with
    | some (.o f _) => en.set j (.o f d)
    | _ => en)[i]? = some s' ∧ SlSame s s' := by
  split
  · rename_i f x q
    by_cases z : j = i
    · subst z
      rw [e] at q
      cases q
      exact ⟨.o f d, by rw [List.getElem?_set, if_pos rfl, if_pos (get_lt e)], .inr ⟨f, x, d, rfl, rfl⟩⟩
    · exact ⟨s, by rw [List.getElem?_set_ne z]; exact e, .inl rfl⟩
  · exact ⟨s, e, .inl rfl⟩
theorem putBack_get : ∀ {io : List Bool} {rs : List R} {outs : List D} {en : En} {i : Nat} {s : Sl}, en[i]? = some s → ∃ s', (putBack io rs outs en)[i]? = some s' ∧ SlSame s s'
  | [], rs, outs, en, i, s, e => ⟨s, by cases rs <;> cases outs <;> exact e, .inl rfl⟩
  | true :: io, [], outs, en, i, s, e => ⟨s, by cases outs <;> exact e, .inl rfl⟩
  | false :: io, [], outs, en, i, s, e => ⟨s, by cases outs <;> exact e, .inl rfl⟩
  | true :: io, .sh _ :: rs, [], en, i, s, e => ⟨s, e, .inl rfl⟩
  | true :: io, .fr _ :: rs, [], en, i, s, e => ⟨s, e, .inl rfl⟩
  | true :: io, .sl _ :: rs, [], en, i, s, e => ⟨s, e, .inl rfl⟩
  | false :: io, r :: rs, [], en, i, s, e => ⟨s, by cases r <;> exact e, .inl rfl⟩
  | true :: io, .sl j :: rs, d :: outs, en, i, s, e => by
    obtain ⟨s1, e1, q1⟩ := set_same (j := j) (d := d) e
    obtain ⟨s2, e2, q2⟩ := putBack_get (io := io) (rs := rs) (outs := outs) e1
    exact ⟨s2, e2, q1.trans q2⟩
  | true :: io, .sh _ :: rs, d :: outs, en, i, s, e => putBack_get (io := io) e
  | true :: io, .fr _ :: rs, d :: outs, en, i, s, e => putBack_get (io := io) e
  | false :: io, r :: rs, d :: outs, en, i, s, e => by cases r <;> exact putBack_get (io := io) e
theorem putBack_other : ∀ {io : List Bool} {rs : List R} {outs : List D} {en : En} {k : Nat}, (∀ i : Nat, io[i]? = some true → rs[i]? ≠ some (R.sl k)) → (putBack io rs outs en)[k]? = en[k]?
  | [], rs, outs, en, k, h => by cases rs <;> cases outs <;> rfl
  | true :: io, [], outs, en, k, h => by cases outs <;> rfl
  | false :: io, [], outs, en, k, h => by cases outs <;> rfl
  | true :: io, .sh _ :: rs, [], en, k, h => rfl
  | true :: io, .fr _ :: rs, [], en, k, h => rfl
  | true :: io, .sl _ :: rs, [], en, k, h => rfl
  | false :: io, r :: rs, [], en, k, h => by cases r <;> rfl
  | true :: io, .sl j :: rs, d :: outs, en, k, h => by
    show (putBack io rs outs _)[k]? = _
    rw [putBack_other (io := io) (fun i => h (i + 1))]
    split
    · rw [List.getElem?_set_ne]
      intro z
      subst z
      exact h 0 rfl rfl
    · rfl
  | true :: io, .sh _ :: rs, d :: outs, en, k, h => putBack_other (io := io) (fun i => h (i + 1))
  | true :: io, .fr _ :: rs, d :: outs, en, k, h => putBack_other (io := io) (fun i => h (i + 1))
  | false :: io, r :: rs, d :: outs, en, k, h => by cases r <;> exact putBack_other (io := io) (fun i => h (i + 1))
theorem putBack_lent : ∀ {io : List Bool} {rs : List R} {outs : List D} {en : En} {i k : Nat} {f : Bool} {d0 d : D}, nodupB (slotsOf rs) = true → io[i]? = some true → rs[i]? = some (.sl k) → outs[i]? = some d → en[k]? = some (.o f d0) →
    (putBack io rs outs en)[k]? = some (.o f d)
  | [], rs, outs, en, i, k, f, d0, d, n, h, _, _, _ => by cases h
  | b :: io, [], outs, en, i, k, f, d0, d, n, _, h, _, _ => by cases h
  | b :: io, r :: rs, [], en, i, k, f, d0, d, n, _, _, h, _ => by cases h
  | true :: io, .sl j :: rs, d' :: outs, en, 0, k, f, d0, d, n, h1, h2, h3, h4 => by
    cases h2
    cases h3
    show (putBack io rs outs _)[j]? = _
    rw [putBack_other (io := io) (fun i _ z => (nodup_cons n).1 (slots_mem z)), h4]
    show (en.set j (.o f d'))[j]? = _
    rw [List.getElem?_set, if_pos rfl, if_pos (get_lt h4)]
  | true :: io, .sl j :: rs, d' :: outs, en, i + 1, k, f, d0, d, n, h1, h2, h3, h4 => by
    have ne : j ≠ k := fun z => by
      subst z
      exact (nodup_cons n).1 (slots_mem (rs := rs) (i := i) h2)
    refine putBack_lent (io := io) (rs := rs) (outs := outs) (i := i) (d0 := d0) (nodup_cons n).2 h1 h2 h3 ?_
    split
    · rw [List.getElem?_set_ne ne]
      exact h4
    · exact h4
  | true :: io, .sh _ :: rs, d' :: outs, en, 0, k, f, d0, d, n, h1, h2, h3, h4 => by cases h2
  | true :: io, .fr _ :: rs, d' :: outs, en, 0, k, f, d0, d, n, h1, h2, h3, h4 => by cases h2
  | true :: io, .sh _ :: rs, d' :: outs, en, i + 1, k, f, d0, d, n, h1, h2, h3, h4 => putBack_lent (io := io) (rs := rs) (outs := outs) (i := i) (d0 := d0) n h1 h2 h3 h4
  | true :: io, .fr _ :: rs, d' :: outs, en, i + 1, k, f, d0, d, n, h1, h2, h3, h4 => putBack_lent (io := io) (rs := rs) (outs := outs) (i := i) (d0 := d0) n h1 h2 h3 h4
  | false :: io, r :: rs, d' :: outs, en, 0, k, f, d0, d, n, h1, h2, h3, h4 => by cases h1
  | false :: io, r :: rs, d' :: outs, en, i + 1, k, f, d0, d, n, h1, h2, h3, h4 => by
    have n' : nodupB (slotsOf rs) = true := by
      cases r with
      | sl m => exact (nodup_cons n).2
      | sh _ => exact n
      | fr _ => exact n
    cases r <;> exact putBack_lent (io := io) (rs := rs) (outs := outs) (i := i) (d0 := d0) n' h1 h2 h3 h4
end
end PyD

namespace PyD
open PySem PySem.Spec L2
section
variable {K : PySem.W.Frag} {W : WX} {B B' B1 : Addr → Prop} {U U' : Addr → Prop} {H H' H1 : Hp} {σ σ' σ1 : L2.St} {en en' en1 : En} {d : D} {v : V} {i : Nat} {p : Addr} {io : List Bool} {ds : List D} {φ : List D → Out} {fs : M (List R)} {Q : VK}
theorem good_outs {vs : List V} {outs : List D} (hv : vs.length = io.length) (G : Good K B H (vs.map some) (mkE io outs)) : io.length ≤ outs.length := by
  have h := G.len
  rw [List.length_map, hv] at h
  have : ∀ (io : List Bool) (ds : List D), (mkE io ds).length = min io.length ds.length := fun io => by
    induction io with
    | nil => intro ds; simp [mkE]
    | cons b io ih =>
      intro ds
      cases ds with
      | nil => simp [mkE]
      | cons d ds => simp [mkE, ih]
  rw [this] at h
  omega
noncomputable def isRoot (r : R) : Bool := match r with
  | .sh _ => false
  | _ => true
noncomputable def Ro (H : Hp) (rs : List R) (ds : List D) (vs : List V) (a : Addr) : Prop := ∃ (i : Nat) (r : R) (d : D) (p : Addr), rs[i]? = some r ∧ isRoot r = true ∧ ds[i]? = some d ∧ vs[i]? = some (V.ref p) ∧ Rch H d p a
theorem callCore {rs : List R} {vs : List V} {E : XK} {Q : VK} (G1 : Good K B1 H1 σ en1) (ra : ArgRs K B1 σ en1 H1 rs vs) (e2 : rsls en1 rs = some ds) (e3 : (lentOk io rs && nodupB (slotsOf rs)) = true)
    (m : match φ ds with
      | .ret b d outs => (!(borrows io rs) || (!(io.elem true) && resFlat b d)) = true ∧ ∀ v H2 B3, (∀ a, B1 a → ¬ Ro H1 rs ds vs a → B3 a) → (∀ a, B3 a → (B1 a ∧ ¬ Ro H1 rs ds vs a) ∨ H1 a = none) → Good K B3 H2 σ (putBack io rs outs en1) → Stp σ en1 H1 σ (putBack io rs outs en1) H2 →
          ArgR K B3 σ (putBack io rs outs en1) H2 (mkR b d) v → (∀ a, RcR H2 (mkR b d) v a → H1 a = none) → Q v H2
      | .exc x outs => (!(borrows io rs) || (!(io.elem true) && excFlat x)) = true ∧ ∀ c od H2 B3, (∀ a, B1 a → ¬ Ro H1 rs ds vs a → B3 a) → (∀ a, B3 a → (B1 a ∧ ¬ Ro H1 rs ds vs a) ∨ H1 a = none) → ExR K (Un B3 H2 σ (putBack io rs outs en1)) H2 x c od → Good K B3 H2 σ (putBack io rs outs en1) → Stp σ en1 H1 σ (putBack io rs outs en1) H2 → E c od H2
      | .bad => False) : spD K io φ vs H1 Q E := by
  obtain ⟨lk, nd⟩ := Bool.and_eq_true_iff.mp e3
  have hrl : rs.length = io.length := lentOk_len lk
  have hdl : ds.length = io.length := (rsls_len e2).trans hrl
  have hvl : vs.length = io.length := (argRs_len ra).trans hrl
  -- places
  have at_ : ∀ {i : Nat} {b : Bool} {d : D}, io[i]? = some b → ds[i]? = some d → ∃ (r : R) (v : V), rs[i]? = some r ∧ vs[i]? = some v ∧ ArgR K B1 σ en1 H1 r v ∧ rsl en1 r = some d := fun {i b d} h1 h2 => by
    obtain ⟨r, q1, q2⟩ := rsls_get e2 h2
    obtain ⟨v, q3, q4⟩ := argRs_get ra q1
    exact ⟨r, v, q1, q3, q4, q2⟩
  have slAt : ∀ {j : Nat} {d : D}, rsl en1 (.sl j) = some d → ∃ (f : Bool) (p : Addr), en1[j]? = some (Sl.o f d) ∧ σ[j]? = some (some (.ref p)) ∧ (∀ a, Rch H1 d p a → ¬ B1 a) ∧ Cont K (Un B1 H1 σ en1) H1 d p := fun {j d} h => by
    unfold rsl at h
    dsimp only at h
    cases q : en1[j]? with
    | none => rw [q] at h; cases h
    | some s =>
      rw [q] at h
      cases s with
      | e => cases h
      | v x => cases h
      | o f x =>
        cases h
        obtain ⟨p, s1, n1, c1⟩ := G1.own j f d q
        exact ⟨f, p, rfl, s1, n1, c1⟩
  -- a lent root
  have lentAt : ∀ {i : Nat} {d : D}, io[i]? = some true → ds[i]? = some d → ∃ (j : Nat) (f : Bool) (p : Addr), rs[i]? = some (R.sl j) ∧ en1[j]? = some (Sl.o f d) ∧ σ[j]? = some (some (V.ref p)) ∧ vs[i]? = some (V.ref p) ∧ (∀ a, Rch H1 d p a → ¬ B1 a) ∧ Cont K (Un B1 H1 σ en1) H1 d p := fun {i d} h1 h2 => by
    obtain ⟨r, v, q1, q2, q3, q4⟩ := at_ h1 h2
    obtain ⟨j, q5⟩ := lentOk_get lk h1
    rw [q1] at q5
    cases q5
    obtain ⟨f, p, g1, g2, g3, g4⟩ := slAt q4
    have q3' : σ[j]? = some (some v) := q3
    rw [g2] at q3'
    cases q3'
    exact ⟨j, f, p, q1, g1, g2, q2, g3, g4⟩
  have ownC : ∀ {a : Addr}, Own H1 (vs.map some) (mkE io ds) a → ∃ (i j : Nat) (f : Bool) (d : D) (p : Addr), io[i]? = some true ∧ ds[i]? = some d ∧ rs[i]? = some (R.sl j) ∧ en1[j]? = some (Sl.o f d) ∧ σ[j]? = some (some (V.ref p)) ∧ vs[i]? = some (V.ref p) ∧ Rch H1 d p a := fun {a} h => by
    obtain ⟨i, b, d, p0, q1, q2, rr⟩ := h
    obtain ⟨b', d', g1, g2, g3⟩ := mkE_get q1
    obtain ⟨z1, _, z2⟩ := slIn_o g3.symm
    subst z1
    subst z2
    obtain ⟨j, f, p, t1, t2, t3, t4, _, _⟩ := lentAt g1 g2
    rw [List.getElem?_map, t4] at q2
    cases q2
    exact ⟨i, j, f, _, p0, g1, g2, t1, t2, t3, t4, rr⟩
  let Bc : Addr → Prop := fun a => Un B1 H1 σ en1 a ∧ ¬ Ro H1 rs ds vs a
  have unC : ∀ {a : Addr}, Un Bc H1 (vs.map some) (mkE io ds) a → Un B1 H1 σ en1 a := fun {a} h => by
    rcases h with h | h
    · exact h.1
    · obtain ⟨i, j, f, d, p, h1, h2, h3, h4, h5, h6, h7⟩ := ownC h
      exact .inr ⟨j, f, d, p, h4, h5, h7⟩
  have tC : ∀ a o, H1 a = some o → ¬ Un B1 H1 σ en1 a → H1 a = some o ∧ ¬ Un Bc H1 (vs.map some) (mkE io ds) a := fun a o x n => ⟨x, fun z => n (unC z)⟩
  have GC : Good K Bc H1 (vs.map some) (mkE io ds) := {
    len := by rw [List.length_map, hvl, mkE_len hdl]
    all := fun a h => G1.unAt h.1
    rep := fun i d e => by
      obtain ⟨b, d', h1, h2, h3⟩ := mkE_get e
      obtain ⟨z1, z2⟩ := slIn_v h3.symm
      subst z1
      subst z2
      obtain ⟨r, v, q1, q2, q3, q4⟩ := at_ h1 h2
      refine ⟨v, by rw [List.getElem?_map, q2] <;> rfl, ?_⟩
      cases r with
      | sh x =>
        cases q4
        exact Rep.to tC _ _ q3
      | fr x =>
        cases q4
        obtain ⟨p, e4, bp, c⟩ := q3
        subst e4
        refine Cont.rep (fun a r z => ?_) (Cont.to tC (fun _ _ _ x => x) c)
        rcases z with z | z
        · exact z.2 ⟨i, _, _, p, q1, rfl, h2, q2, r⟩
        · obtain ⟨i', j, f, d2, p2, g1, g2, g3, g4, g5, g6, g7⟩ := ownC z
          exact G1.ownNB ⟨j, f, d2, p2, g4, g5, g7⟩ (bp a r)
      | sl j =>
        obtain ⟨f, p, g1, g2, g3, g4⟩ := slAt q4
        have q3' : σ[j]? = some (some v) := q3
        rw [g2] at q3'
        cases q3'
        refine Cont.rep (fun a r z => ?_) (Cont.to tC (fun _ _ _ x => x) g4)
        rcases z with z | z
        · exact z.2 ⟨i, _, _, p, q1, rfl, h2, q2, r⟩
        · obtain ⟨i', j', f', d2, p2, t1, t2, t3, t4, t5, t6, t7⟩ := ownC z
          have ej : j = j' := G1.inj j j' p p2 a f f' _ _ g1 t4 g2 t5 r t7
          subst ej
          have ei := slots_inj nd q1 t3
          subst ei
          rw [h1] at t1
          cases t1
    own := fun i b d e => by
      obtain ⟨b', d', h1, h2, h3⟩ := mkE_get e
      obtain ⟨z1, _, z2⟩ := slIn_o h3.symm
      subst z1
      subst z2
      obtain ⟨j, f, p, t1, t2, t3, t4, t5, t6⟩ := lentAt h1 h2
      exact ⟨p, by rw [List.getElem?_map, t4] <;> rfl, fun a r z => z.2 ⟨i, _, _, p, t1, rfl, h2, t4, r⟩, Cont.to tC (fun _ _ _ x => x) t6⟩
    inj := fun i k p q a b c d d' e1 e2 s1 s2 r1 r2 => by
      obtain ⟨b1, d1, h1, h2, h3⟩ := mkE_get e1
      obtain ⟨z1, _, z2⟩ := slIn_o h3.symm
      subst z1
      obtain ⟨b2, d2, g1, g2, g3⟩ := mkE_get e2
      obtain ⟨y1, _, y2⟩ := slIn_o g3.symm
      subst y1
      subst z2
      subst y2
      obtain ⟨j, f, p1, t1, t2, t3, t4, t5, t6⟩ := lentAt h1 h2
      obtain ⟨j', f', p2, u1, u2, u3, u4, u5, u6⟩ := lentAt g1 g2
      rw [List.getElem?_map, t4] at s1
      cases s1
      rw [List.getElem?_map, u4] at s2
      cases s2
      have ej := G1.inj j j' _ _ a f f' _ _ t2 u2 t3 u3 r1 r2
      subst ej
      exact slots_inj nd t1 u1 }
  refine ⟨Bc, ds, hdl, hvl, GC, ?_⟩
  -- the caller's slots behind the call
  have core : ∀ (outs : List D) (B2 : Addr → Prop) (H2 : Hp) (nw : Addr → Prop), (∀ a, nw a → B2 a ∧ H1 a = none) → (borrows io rs = true → io.elem true = false) → Bx Bc B2 (vs.map some) (mkE io ds) H1 → Good K B2 H2 (vs.map some) (mkE io outs) → Stp (vs.map some) (mkE io ds) H1 (vs.map some) (mkE io outs) H2 →
      Good K (fun a => (B1 a ∧ ¬ Ro H1 rs ds vs a) ∨ nw a) H2 σ (putBack io rs outs en1) ∧ Stp σ en1 H1 σ (putBack io rs outs en1) H2 ∧
      (∀ a o, H2 a = some o → ¬ Un B2 H2 (vs.map some) (mkE io outs) a → Un (fun a => (B1 a ∧ ¬ Ro H1 rs ds vs a) ∨ nw a) H2 σ (putBack io rs outs en1) a → borrows io rs = true ∧ Knd K H2 a) := by
    intro outs B2 H2 nw hnw hbo bx2 G2 st2
    have hol : io.length ≤ outs.length := good_outs hvl G2
    have back : ∀ {k : Nat} {s : Sl}, (putBack io rs outs en1)[k]? = some s → ∃ s0, en1[k]? = some s0 ∧ SlSame s0 s := fun {k s} q1 => by
      have hk : k < en1.length := by
        have := get_lt q1
        rw [putBack_len] at this
        exact this
      obtain ⟨s', g1, g2⟩ := putBack_get (io := io) (rs := rs) (outs := outs) (List.getElem?_eq_getElem hk)
      rw [q1] at g1
      cases g1
      exact ⟨_, List.getElem?_eq_getElem hk, g2⟩
    have backO : ∀ {k : Nat} {f : Bool} {d : D}, (putBack io rs outs en1)[k]? = some (.o f d) → ∃ d0, en1[k]? = some (Sl.o f d0) := fun {k f d} q1 => by
      obtain ⟨s0, h1, h2⟩ := back q1
      rcases h2 with h2 | ⟨f', d0, d1, h2, h3⟩
      · exact ⟨d, by rw [h1, h2]⟩
      · cases h3
        exact ⟨d0, by rw [h1, h2]⟩
    -- the roots that may be changed
    have keep : ∀ a o, H1 a = some o → ¬ Own H1 (vs.map some) (mkE io ds) a → H2 a = some o := st2.fr
    have keepS : ∀ {k : Nat} {f : Bool} {d : D} {p : Addr}, (¬ ∃ i : Nat, io[i]? = some true ∧ rs[i]? = some (R.sl k)) → en1[k]? = some (.o f d) → σ[k]? = some (some (.ref p)) → ∀ a o, Rch H1 d p a → H1 a = some o → H2 a = some o := fun {k f d p} nl e s a o r x => keep a o x fun z => by
      obtain ⟨i', j, f', d2, p2, g1, g2, g3, g4, g5, g6, g7⟩ := ownC z
      have ej := G1.inj k j p p2 a f f' _ _ e g4 s g5 r g7
      subst ej
      exact nl ⟨i', g1, g3⟩
    -- a slot's thing behind the call
    have slot2 : ∀ {k : Nat} {f : Bool} {d : D} {p a : Addr}, (putBack io rs outs en1)[k]? = some (.o f d) → σ[k]? = some (some (.ref p)) → Rch H2 d p a →
        (∃ (i : Nat) (dd : D), io[i]? = some true ∧ rs[i]? = some (R.sl k) ∧ outs[i]? = some d ∧ vs[i]? = some (V.ref p) ∧ ds[i]? = some dd ∧ en1[k]? = some (.o f dd)) ∨
        ((¬ ∃ i : Nat, io[i]? = some true ∧ rs[i]? = some (R.sl k)) ∧ en1[k]? = some (.o f d) ∧ Rch H1 d p a) := fun {k f d p a} e s r => by
      by_cases hl : ∃ i : Nat, io[i]? = some true ∧ rs[i]? = some (R.sl k)
      · obtain ⟨i, l1, l2⟩ := hl
        have hil : i < io.length := get_lt l1
        obtain ⟨d', hd'⟩ : ∃ d', outs[i]? = some d' := ⟨_, List.getElem?_eq_getElem (by omega)⟩
        obtain ⟨dd, hdd⟩ : ∃ d, ds[i]? = some d := ⟨_, List.getElem?_eq_getElem (by rw [hdl]; exact hil)⟩
        obtain ⟨j, f', p', t1, t2, t3, t4, t5, t6⟩ := lentAt l1 hdd
        rw [l2] at t1
        cases t1
        rw [s] at t3
        cases t3
        have ep := putBack_lent nd l1 l2 hd' t2
        rw [e] at ep
        cases ep
        exact .inl ⟨i, dd, l1, l2, hd', t4, hdd, t2⟩
      · have eo := putBack_other (io := io) (rs := rs) (outs := outs) (en := en1) (k := k) (fun i l1 l2 => hl ⟨i, l1, l2⟩)
        rw [eo] at e
        obtain ⟨p', s', _, c⟩ := G1.own k f d e
        rw [s] at s'
        cases s'
        exact .inr ⟨hl, e, (c.rch (keepS hl e s) a).mp r⟩
    have ownP : ∀ {a : Addr}, Own H2 σ (putBack io rs outs en1) a → (Own H2 (vs.map some) (mkE io outs) a ∧ (Own H1 σ en1 a ∨ H1 a = none)) ∨ (∃ (k : Nat) (f : Bool) (d : D) (p : Addr), (¬ ∃ i : Nat, io[i]? = some true ∧ rs[i]? = some (R.sl k)) ∧ en1[k]? = some (.o f d) ∧ σ[k]? = some (some (.ref p)) ∧ Rch H1 d p a) := fun {a} h => by
      obtain ⟨k, f, d, p, q1, q2, r⟩ := h
      rcases slot2 q1 q2 r with ⟨i, dd, l1, l2, l3, l4, l5, l6⟩ | ⟨nl, e, r'⟩
      · have oc : Own H2 (vs.map some) (mkE io outs) a := ⟨i, true, d, p, mkE_of l1 l3, by rw [List.getElem?_map, l4] <;> rfl, r⟩
        refine .inl ⟨oc, ?_⟩
        rcases st2.ow a oc with z | z
        · obtain ⟨i', j, f', d2, p2, g1, g2, g3, g4, g5, g6, g7⟩ := ownC z
          exact .inl ⟨j, f', d2, p2, g4, g5, g7⟩
        · exact .inr z
      · exact .inr ⟨k, f, d, p, nl, e, q2, r'⟩
    have ownP1 : ∀ {a : Addr}, Own H2 σ (putBack io rs outs en1) a → Own H1 σ en1 a ∨ H1 a = none := fun {a} h => by
      rcases ownP h with ⟨_, z⟩ | ⟨k, f, d, p, _, e, s, r⟩
      · exact z
      · exact .inl ⟨k, f, d, p, e, s, r⟩
    have t12 : ∀ a o, H1 a = some o → ¬ Un B1 H1 σ en1 a → H2 a = some o ∧ ¬ Un (fun a => (B1 a ∧ ¬ Ro H1 rs ds vs a) ∨ nw a) H2 σ (putBack io rs outs en1) a := fun a o x n => by
      refine ⟨keep a o x fun z => n (unC (.inr z)), fun z => ?_⟩
      rcases z with (z | z) | z
      · exact n (.inl z.1)
      · exact absurd (hnw a z).2 (by rw [x]; simp)
      · rcases ownP1 z with z | z
        · exact n (.inr z)
        · rw [x] at z; cases z
    have out1 : ∀ a o, H2 a = some o → ¬ Un B2 H2 (vs.map some) (mkE io outs) a → Un (fun a => (B1 a ∧ ¬ Ro H1 rs ds vs a) ∨ nw a) H2 σ (putBack io rs outs en1) a → borrows io rs = true ∧ Knd K H2 a := by
      intro a o ho n z
      rcases z with (z | z) | z
      · exact absurd (.inl (bx2.up a ⟨.inl z.1, z.2⟩)) n
      · exact absurd (.inl (hnw a z).1) n
      · rcases ownP z with ⟨z, _⟩ | ⟨k, f, d, p, nl, e, s, rr⟩
        · exact absurd (.inr z) n
        by_cases hm : Ro H1 rs ds vs a
        · -- one of the arguments
          obtain ⟨i, r, dm, pm, q1, ir, hdm, hi, rm⟩ := hm
          have hil : i < io.length := by rw [← hvl]; exact get_lt hi
          obtain ⟨b, hb⟩ : ∃ b, io[i]? = some b := ⟨_, List.getElem?_eq_getElem hil⟩
          obtain ⟨r', v, q1', q2, q3, q4⟩ := at_ hb hdm
          rw [q1] at q1'
          cases q1'
          rw [hi] at q2
          cases q2
          cases r with
          | sh x => cases ir
          | fr x =>
            exfalso
            cases q4
            obtain ⟨p', e5, bp, _⟩ := q3
            cases e5
            exact G1.ownNB ⟨k, f, d, p, e, s, rr⟩ (bp a rm)
          | sl j =>
            obtain ⟨f', p', g1, g2, g3, g4⟩ := slAt q4
            have q3' : σ[j]? = some (some (.ref pm)) := q3
            rw [g2] at q3'
            cases q3'
            have ej := G1.inj k j p _ a f f' _ _ e g1 s g2 rr rm
            subst ej
            cases b with
            | true => exact (nl ⟨i, hb, q1⟩).elim
            | false =>
              cases hbr : borrows io rs with
              | false => exact (borrows_no hbr hb q1).elim
              | true =>
                obtain ⟨_, _, kd⟩ := (Cont.to t12 (keepS nl g1 g2) g4).atK ((g4.rch (keepS nl g1 g2) a).mpr rm)
                exact ⟨rfl, kd⟩
        · exact absurd (.inl (bx2.up a ⟨.inr ⟨k, f, d, p, e, s, rr⟩, hm⟩)) n
    have notB' : ∀ {k : Nat} {f : Bool} {d : D} {p a : Addr}, (putBack io rs outs en1)[k]? = some (.o f d) → σ[k]? = some (some (.ref p)) → Rch H2 d p a → ¬ ((B1 a ∧ ¬ Ro H1 rs ds vs a) ∨ nw a) := fun {k f d p a} h1 h2 r z => by
      rcases slot2 h1 h2 r with ⟨i, dd, l1, l2, l3, l4, l5, l6⟩ | ⟨nl, e, r'⟩
      · have oc : Own H2 (vs.map some) (mkE io outs) a := ⟨i, true, d, p, mkE_of l1 l3, by rw [List.getElem?_map, l4] <;> rfl, r⟩
        rcases z with z | z
        · exact G2.ownNB oc (bx2.up a ⟨.inl z.1, z.2⟩)
        · exact G2.ownNB oc (hnw a z).1
      · obtain ⟨p', s2, n2, c2⟩ := G1.own k f d e
        rw [h2] at s2
        cases s2
        rcases z with z | z
        · exact n2 a r' z.1
        · obtain ⟨o, ho⟩ := c2.atR r'
          have := (hnw a z).2
          rw [ho] at this
          cases this
    refine ⟨?_, ?_, out1⟩
    · exact {
        len := by rw [putBack_len]; exact G1.len
        all := fun a h => by
          rcases h with h | h
          · exact st2.al a (G1.all a h.1)
          · exact G2.all a (hnw a h).1
        rep := fun k d e => by
          obtain ⟨s0, h1, h2⟩ := back e
          rcases h2 with h2 | ⟨f', d0, d1, h2, h3⟩
          · subst h2
            obtain ⟨v, s, r⟩ := G1.rep k d h1
            exact ⟨v, s, Rep.to t12 d v r⟩
          · cases h3
        own := fun k f d e => by
          obtain ⟨d0, h1⟩ := backO e
          obtain ⟨p, s1, n1, c1⟩ := G1.own k f d0 h1
          refine ⟨p, s1, fun a r => notB' e s1 r, ?_⟩
          rcases slot2 e s1 Rch.self with ⟨i, dd, l1, l2, l3, l4, l5, l6⟩ | ⟨nl, e', r'⟩
          · obtain ⟨p2, s2, n2, c2⟩ := G2.own i true d (mkE_of l1 l3)
            rw [List.getElem?_map, l4] at s2
            cases s2
            refine Cont.to (fun a o x n => ⟨x, fun z => ?_⟩) (fun _ _ _ x => x) c2
            have hz := (out1 a o x n z).1
            have := hbo hz
            have hm2 : io.elem true = true := List.elem_eq_true_of_mem (List.mem_of_getElem? l1)
            rw [this] at hm2
            cases hm2
          · rw [h1] at e'
            cases e'
            exact Cont.to t12 (keepS nl h1 s1) c1
        inj := fun k l p q a b c d d' e1 e2 s1 s2 r1 r2 => by
          have lentNot : ∀ {k l : Nat} {f c : Bool} {d d' : D} {p q : Addr} {i : Nat}, io[i]? = some true → outs[i]? = some d → vs[i]? = some (V.ref p) → Rch H2 d p a → (¬ ∃ i : Nat, io[i]? = some true ∧ rs[i]? = some (R.sl l)) → en1[l]? = some (.o c d') → σ[l]? = some (some (.ref q)) → Rch H1 d' q a → False := fun {k l f c d d' p q i} l1 l3 l4 r1 nl e s r => by
            have oc : Own H2 (vs.map some) (mkE io outs) a := ⟨i, true, d, p, mkE_of l1 l3, by rw [List.getElem?_map, l4] <;> rfl, r1⟩
            rcases st2.ow a oc with z | z
            · obtain ⟨i', j, f', d2, p2, g1, g2, g3, g4, g5, g6, g7⟩ := ownC z
              have ej := G1.inj l j q p2 a c f' _ _ e g4 s g5 r g7
              subst ej
              exact nl ⟨i', g1, g3⟩
            · obtain ⟨p', s2, n2, c2⟩ := G1.own l c d' e
              rw [s] at s2
              cases s2
              obtain ⟨o, ho⟩ := c2.atR r
              rw [ho] at z
              cases z
          rcases slot2 e1 s1 r1 with ⟨i, dd, l1, l2, l3, l4, l5, l6⟩ | ⟨nl, e1', r1'⟩
          · rcases slot2 e2 s2 r2 with ⟨i', dd', m1, m2, m3, m4, m5, m6⟩ | ⟨nl', e2', r2'⟩
            · have ei := G2.inj i i' p q a true true d d' (mkE_of l1 l3) (mkE_of m1 m3) (by rw [List.getElem?_map, l4] <;> rfl) (by rw [List.getElem?_map, m4] <;> rfl) r1 r2
              subst ei
              rw [l2] at m2
              cases m2
              rfl
            · exact (lentNot (k := k) (f := b) l1 l3 l4 r1 nl' e2' s2 r2').elim
          · rcases slot2 e2 s2 r2 with ⟨i', dd', m1, m2, m3, m4, m5, m6⟩ | ⟨nl', e2', r2'⟩
            · exact (lentNot (k := l) (f := c) m1 m3 m4 r2 nl e1' s1 r1').elim
            · exact G1.inj k l p q a b c d d' e1' e2' s1 s2 r1' r2' }
    · have prL : ∀ {k i : Nat} {f : Bool} {d dd : D} {p a : Addr}, io[i]? = some true → outs[i]? = some d → vs[i]? = some (V.ref p) → ds[i]? = some dd → Rch H2 d p a → Rch H1 dd p a ∨ H1 a = none := fun {k i f d dd p a} l1 l3 l4 l5 r => by
        rcases st2.pr i dd d p a (mkE_of l1 l5) (mkE_of l1 l3) (by rw [List.getElem?_map, l4] <;> rfl) r with z | z | z
        · exact .inl z
        · exact .inr z
        · obtain ⟨i2, d2, p2, f1, _, _⟩ := z
          obtain ⟨b2, d3, _, _, h4⟩ := mkE_get f1
          obtain ⟨_, z2, _⟩ := slIn_o h4.symm
          cases z2
      exact {
        len := putBack_len
        fr := fun a o h n => keep a o h fun z => n (by
          obtain ⟨i', j, f', d2, p2, g1, g2, g3, g4, g5, g6, g7⟩ := ownC z
          exact ⟨j, f', d2, p2, g4, g5, g7⟩)
        al := st2.al
        ow := fun a h => ownP1 h
        of := fun a h => by
          obtain ⟨k, d, p, e, s, r⟩ := h
          rcases slot2 e s r with ⟨i, dd, l1, l2, l3, l4, l5, l6⟩ | ⟨nl, e', r'⟩
          · rcases prL (k := k) (f := false) l1 l3 l4 l5 r with z | z
            · exact .inl ⟨k, dd, p, l6, s, z⟩
            · exact .inr z
          · exact .inl ⟨k, d, p, e', s, r'⟩
        pin := fun k d e => by
          obtain ⟨s', g1, g2⟩ := putBack_get (io := io) (rs := rs) (outs := outs) e
          refine ⟨rfl, ?_⟩
          rcases g2 with g2 | ⟨f', d0, d1, g2, g3⟩
          · exact ⟨d, by rw [g1, g2]⟩
          · cases g2
            exact ⟨d1, by rw [g1, g3]⟩
        pb := fun k d e => backO e
        pr := fun k d d' p a e1 e2 s r => by
          rcases slot2 e2 s r with ⟨i, dd, l1, l2, l3, l4, l5, l6⟩ | ⟨nl, e', r'⟩
          · rw [e1] at l6
            cases l6
            rcases prL (k := k) (f := false) l1 l3 l4 l5 r with z | z
            · exact .inl z
            · exact .inr (.inl z)
          · rw [e1] at e'
            cases e'
            exact .inl r' }
  cases e4 : φ ds with
  | bad => rw [e4] at m; exact m.elim
  | exc x outs =>
    rw [e4] at m
    obtain ⟨e5, m⟩ := m
    intro c od H2 hx G2 st2
    have hbo : borrows io rs = true → io.elem true = false ∧ excFlat x = true := fun h => by
      rw [h] at e5
      simpa using e5
    obtain ⟨q2, q3, q4⟩ := core outs Bc H2 (fun _ => False) (fun a h => h.elim) (fun h => (hbo h).1) (Bx.refl Bc _ _ H1) G2 st2
    refine m c od H2 _ (fun a h n => .inl ⟨h, n⟩) (fun a h => h.elim .inl fun z => z.elim) ?_ q2 q3
    obtain ⟨h1, h2⟩ := hx
    refine ⟨h1, ?_⟩
    cases ef : x.fld with
    | none => rw [ef] at h2; exact h2
    | some fd =>
      obtain ⟨fn, fd⟩ := fd
      rw [ef] at h2
      obtain ⟨a, v, r1, nu, r2, r3⟩ := h2
      refine ⟨a, v, r1, fun z => (q4 a _ r2 nu z).2.1 _ r2, r2, ?_⟩
      cases hbr : borrows io rs with
      | false => exact Rep.to (fun a o x n => ⟨x, fun z => by
          have := (q4 a o x n z).1
          rw [hbr] at this
          cases this⟩) _ _ r3
      | true =>
        have hf := (hbo hbr).2
        unfold excFlat at hf
        rw [ef] at hf
        exact Rep.flat (fun a xs dd x hd hr n z => (q4 a _ x n z).2.2 _ dd hd hr) hf r3
  | ret b d outs =>
    rw [e4] at m
    obtain ⟨e5, m⟩ := m
    intro v H2 ⟨B2, bx2, G2, hs, hf⟩ st2
    have hbo : borrows io rs = true → io.elem true = false ∧ resFlat b d = true := fun h => by
      rw [h] at e5
      simpa using e5
    cases b with
    | false =>
      obtain ⟨q2, q3, q4⟩ := core outs B2 H2 (fun _ => False) (fun a h => h.elim) (fun h => (hbo h).1) bx2 G2 st2
      refine m v H2 _ (fun a h n => .inl ⟨h, n⟩) (fun a h => h.elim .inl fun z => z.elim) q2 q3 ?_ (fun a z => z.elim)
      show Rep K _ H2 d v
      cases hbr : borrows io rs with
      | false => exact Rep.to (fun a o x n => ⟨x, fun z => by
          have := (q4 a o x n z).1
          rw [hbr] at this
          cases this⟩) _ _ (hs rfl)
      | true => exact Rep.flat (fun a xs dd x hd hr n z => (q4 a _ x n z).2.2 _ dd hd hr) (hbo hbr).2 (hs rfl)
    | true =>
      obtain ⟨p, ev, nb, c⟩ := hf rfl
      obtain ⟨q2, q3, q4⟩ := core outs B2 H2 (fun a => Rch H2 d p a) (fun a h => ⟨(nb a h).2, (nb a h).1⟩) (fun h => (hbo h).1) bx2 G2 st2
      refine m v H2 _ (fun a h n => .inl ⟨h, n⟩) (fun a h => h.elim .inl fun z => .inr (nb a z).1) q2 q3 ⟨p, ev, fun a r => .inr r, ?_⟩ (fun a z => ?_)
      · cases hbr : borrows io rs with
        | false => exact Cont.to (fun a o x n => ⟨x, fun z => by
            have := (q4 a o x n z).1
            rw [hbr] at this
            cases this⟩) (fun _ _ _ x => x) c
        | true => exact Cont.flat (fun a xs dd x hd hr n z => (q4 a _ x n z).2.2 _ dd hd hr) (hbo hbr).2 c
      · obtain ⟨p', e', r⟩ := z
        rw [ev] at e'
        cases e'
        exact (nb a r).1
theorem rootNB {rs : List R} {vs : List V} (G : Good K B H σ en) (b1 : Bx B B1 σ en H) (G1 : Good K B1 H1 σ en1) (ra : ArgRs K B1 σ en1 H1 rs vs) (fn : frNs σ en H H1 rs vs) (e2 : rsls en1 rs = some ds) {a : Addr} (h : Ro H1 rs ds vs a) : ¬ B a := fun hB => by
  obtain ⟨i, r, dm, pm, q1, ir, hdm, hi, rm⟩ := h
  obtain ⟨r', q1', q4⟩ := rsls_get e2 hdm
  rw [q1] at q1'
  cases q1'
  obtain ⟨v, q2, q3⟩ := argRs_get ra q1
  rw [hi] at q2
  cases q2
  cases r with
  | sh x => cases ir
  | fr x =>
    cases q4
    rcases frNs_get fn q1 hi pm a rfl rm with z | z
    · exact G.all a hB z
    · exact G.ownNB z.own hB
  | sl j =>
    unfold rsl at q4
    dsimp only at q4
    cases q : en1[j]? with
    | none => rw [q] at q4; cases q4
    | some s =>
      rw [q] at q4
      cases s with
      | e => cases q4
      | v x => cases q4
      | o f x =>
        cases q4
        obtain ⟨p, s1, n1, c1⟩ := G1.own j f dm q
        have q3' : σ[j]? = some (some (.ref pm)) := q3
        rw [s1] at q3'
        cases q3'
        exact n1 a rm (b1.up _ hB)
theorem callImp (m : RdE K W (callF io φ fs) σ H Q) : RdA K W fs σ H fun vs H1 => spD K io φ vs H1 Q (WE W σ) := by
  obtain ⟨B, en, G, m⟩ := m
  refine ⟨B, en, G, ?_⟩
  unfold callF at m
  cases e1 : fs en with
  | bad => rw [e1] at m; exact m
  | exc x en1 => rw [e1] at m; exact m
  | ok rs en1 =>
    rw [e1] at m
    dsimp only at m ⊢
    intro vs H1 ⟨B1, b1, G1, ra, fn⟩ st1
    cases e2 : rsls en1 rs with
    | none => rw [e2] at m; exact m.elim
    | some ds =>
      rw [e2] at m
      dsimp only at m
      cases e3 : lentOk io rs && nodupB (slotsOf rs) with
      | false => rw [e3] at m; exact m.elim
      | true =>
        rw [e3] at m
        dsimp only at m
        have bxB : ∀ {B3 : Addr → Prop}, (∀ a, B1 a → ¬ Ro H1 rs ds vs a → B3 a) → (∀ a, B3 a → (B1 a ∧ ¬ Ro H1 rs ds vs a) ∨ H1 a = none) → Bx B B3 σ en H := fun {B3} h1 h2 =>
          ⟨fun a h => h1 a (b1.up a h) fun z => rootNB G b1 G1 ra fn e2 z h, fun a h => by
            rcases h2 a h with z | z
            · exact b1.new a z.1
            · exact .inr (.inl (Classical.byContradiction fun y => st1.al a y z))⟩
        refine callCore G1 ra e2 e3 ?_
        cases e4 : φ ds with
        | bad => rw [e4] at m; exact m.elim
        | exc x outs =>
          rw [e4] at m
          dsimp only at m ⊢
          cases e5 : !(borrows io rs) || (!(io.elem true) && excFlat x) with
          | false => rw [e5] at m; exact m.elim
          | true =>
            rw [e5] at m
            refine ⟨rfl, fun c od H2 B3 h1 h2 ex g st => ?_⟩
            have bx := bxB h1 h2
            exact m c od H2 (ex.mono fun a z => Un.mono bx.up z) (g.mono bx.up) (st1.trans st)
        | ret b d outs =>
          rw [e4] at m
          dsimp only at m ⊢
          cases e5 : !(borrows io rs) || (!(io.elem true) && resFlat b d) with
          | false => rw [e5] at m; exact m.elim
          | true =>
            rw [e5] at m
            refine ⟨rfl, fun v H2 B3 h1 h2 g st ar fr => m v H2 ⟨B3, bxB h1 h2, g, ar, ?_⟩ (st1.trans st)⟩
            cases b with
            | false => trivial
            | true => exact fun p a e r => .inl (Classical.byContradiction fun z => st1.al a z (fr a ⟨p, e, r⟩))
theorem e_call {X : Cx} {k : Nat} {f : Addr} {fd : FuncData} {ps : List Str} {x : Str} {p pos : Pos} {e : Expr} {es : List Expr} (F : FnOk X.prog X.w X.K X.mg X.base (L2.CX X.prog X.w) k f fd ps (spD X.K io φ)) (hr : Room k X.A) (hg : Gl X x) (hm : X.mg x = some (.ref f)) (hk : PySem.W.keepIn X.K (.ref f) = true) (hb : Binds X.K fd ps []) (tk : Takes X W)
    (ha : PA X (e :: es) (RdA X.K W fs)) (hdb : (x == ("__debug__" : Str)) = false := by decide) (he : starEach (e :: es) X.env = (false, eval e X.env) :: starEach es X.env := by rfl) (hpl : (backTo pos (starEach es X.env)).any (·.1) = false := by rfl) :
    PE X (.Call (.Name x p) (e :: es) [] pos) (RdE X.K W (callF io φ fs)) :=
  pe_imp (pe_callS (E := WE W) F hr hg hm hk hb (fun σ => passAt tk σ) ha hdb he hpl) fun σ H Q m => callImp m
end
end PyD

namespace PyD
open PySem PySem.Spec L2
noncomputable def stoD : R → Option D
  | .sh d => some d
  | .fr d => some d
  | .sl _ => none
noncomputable def stos : List R → Option (List D)
  | [] => some []
  | r :: rs => match stoD r with
    | some d => (match stos rs with
      | some ds => some (d :: ds)
      | none => none)
    | none => none
noncomputable def tupF (fs : M (List R)) : M R := fun en => match fs en with
  | .ok rs en1 => (match stos rs with
    | some ds => (match decide (ds.length ≤ 1000) with
      | true => .ok (.sh (.tup ds)) en1
      | false => .bad)
    | none => .bad)
  | .exc x en1 => .exc x en1
  | .bad => .bad
noncomputable def lstF (fs : M (List R)) : M R := fun en => match fs en with
  | .ok rs en1 => (match stos rs with
    | some ds => (match decide (ds.length ≤ 1000) with
      | true => .ok (.fr (.lst ds)) en1
      | false => .bad)
    | none => .bad)
  | .exc x en1 => .exc x en1
  | .bad => .bad
noncomputable def dicF : M R := fun en => .ok (.fr (.dic [])) en
noncomputable def mutF (st : Bool) (i : Nat) (isT : D → Bool) (g : D → List D → Option (D × D)) (fs : M (List R)) : M R := fun en => match en[i]? with
  | some (.o _ dd) => (match isT dd with
    | true => (match fs en with
      | .ok rs en1 => (match (match st with | true => stos rs | false => rsls en1 rs) with
        | some ds => (match en1[i]? with
          | some (.o b d0) => (match g d0 ds with
            | some (d1, d) => .ok (.sh d) (en1.set i (.o b d1))
            | none => .bad)
          | _ => .bad)
        | none => .bad)
      | .exc x en1 => .exc x en1
      | .bad => .bad)
    | false => .bad)
  | _ => .bad
noncomputable def stF (i : Nat) (fi fv : M R) (u : D → D → D → Option D) : En → Fl := fun en => match fv en with
  | .ok r en1 => (match stoD r with
    | some d => (match en1[i]? with
      | some (.o _ _) => (match fi en1 with
        | .ok ri en2 => (match rsl en2 ri with
          | some di => (match en2[i]? with
            | some (.o b d0) => (match u d0 di d with
              | some d1 => .nx (en2.set i (.o b d1))
              | none => .bad)
            | _ => .bad)
          | none => .bad)
        | .exc x en2 => .exc x en2
        | .bad => .bad)
      | _ => .bad)
    | none => .bad)
  | .exc x en1 => .exc x en1
  | .bad => .bad
section
variable {K : PySem.W.Frag} {W : WX} {B B' B1 : Addr → Prop} {U U' : Addr → Prop} {H H' H1 : Hp} {σ σ' σ1 : L2.St} {en en' en1 : En} {d : D} {v : V} {i : Nat} {p : Addr} {ds : List D} {fs : M (List R)} {Q : VK} {D0 : Ends}
theorem stoD_of {r : R} {d : D} (h : stoD r = some d) : r = .sh d ∨ r = .fr d := by
  cases r with
  | sh x => cases h; exact .inl rfl
  | fr x => cases h; exact .inr rfl
  | sl x => cases h
theorem stos_rep (bx : Bx B B' σ en H) (G : Good K B H σ en) (G' : Good K B' H' σ en') : ∀ {rs : List R} {vs : List V} {ds : List D}, ArgRs K B' σ en' H' rs vs → frNs σ en H H' rs vs → stos rs = some ds → RepL K (Un B H' σ en') H' ds vs
  | [], vs, ds, h, _, e => by
    cases e
    unfold RepL
    exact h
  | r :: rs, vs, ds, ⟨v, us, e1, h1, h2, _⟩, fn, e => by
    subst e1
    unfold stos at e
    cases q : stoD r with
    | none => rw [q] at e; cases e
    | some d =>
      rw [q] at e
      dsimp only at e
      cases q2 : stos rs with
      | none => rw [q2] at e; cases e
      | some ds' =>
        rw [q2] at e
        cases e
        unfold RepL
        exact ⟨v, us, rfl, sto_rep bx G G' h1 fn.1 (stoD_of q), stos_rep bx G G' h2 fn.2 q2⟩
theorem ext_new {o : HO} (h : H p = none) : Ext H (upd H p o) := fun a x e => by
  rw [upd_ne (ne_of_none e h)]
  exact e
theorem small_of {n : Nat} (h : n ≤ 1000) : n ≤ sizeLine := Nat.le_trans h (by decide)
theorem tupImp (m : RdE K W (tupF fs) σ H Q) : tTup (RdA K W fs) σ H Q := by
  obtain ⟨B, en, G, m⟩ := m
  refine ⟨B, en, G, ?_⟩
  unfold tupF at m
  cases e : fs en with
  | bad => rw [e] at m; exact m
  | exc x en1 => rw [e] at m; exact m
  | ok rs en1 =>
    rw [e] at m
    dsimp only at m ⊢
    intro vs H1 ⟨B1, b1, G1, ra, fn⟩ st1
    cases e2 : stos rs with
    | none => rw [e2] at m; exact m.elim
    | some ds =>
      rw [e2] at m
      dsimp only at m
      have rl := stos_rep b1 G G1 ra fn e2
      cases e3 : decide (ds.length ≤ 1000) with
      | false => rw [e3] at m; exact m.elim
      | true =>
        rw [e3] at m
        refine ⟨small_of (by rw [rl.len]; exact of_decide_eq_true e3), fun p hp => ?_⟩
        have x : Ext H1 (upd H1 p (.tup vs)) := ext_new hp
        have G2 := G1.mono b1.up
        have oi := G2.ownIff (H' := upd H1 p (.tup vs)) (fun a o _ => x a o)
        refine m _ _ ⟨B, Bx.refl B σ en H, G2.ext0 x, ?_, trivial⟩ (st1.trans (Stp.ext G2 x))
        unfold ArgR Rep
        exact ⟨p, vs, rfl, fun z => G2.unAt (z.imp id (oi p).mp) hp, upd_same, RepL.to (fun a o q n => ⟨x a o q, fun z => n (z.imp id (oi a).mp)⟩) _ _ rl⟩
theorem newOwn (hp : H p = none) {o : HO} (G : Good K B H σ en) : Good K (fun a => B a ∨ a = p) (upd H p o) σ en :=
  G.ext (ext_new hp) fun a h => by
    rcases h with h | h
    · exact .inl h
    · rw [h, upd_same]
      exact .inr ⟨hp, by simp⟩
theorem bxNew (hp : H p = none) : Bx B (fun a => B a ∨ a = p) σ en H := ⟨fun a h => .inl h, fun a h => by
  rcases h with h | h
  · exact .inl h
  · rw [h]; exact .inr (.inl hp)⟩
theorem newTo (G : Good K B H σ en) (hp : H p = none) {o : HO} : ∀ a x, H a = some x → ¬ Un B H σ en a → upd H p o a = some x ∧ ¬ Un (fun a => B a ∨ a = p) (upd H p o) σ en a := fun a x q n => ⟨ext_new hp a x q, fun z => by
  rcases un_or z with z | z
  · exact n (z.imp id (G.ownIff (H' := upd H p o) (fun a o _ => ext_new hp a o) a).mp)
  · rw [z, hp] at q; cases q⟩
theorem lstImp (m : RdE K W (lstF fs) σ H Q) : tLst (RdA K W fs) σ H Q := by
  obtain ⟨B, en, G, m⟩ := m
  refine ⟨B, en, G, ?_⟩
  unfold lstF at m
  cases e : fs en with
  | bad => rw [e] at m; exact m
  | exc x en1 => rw [e] at m; exact m
  | ok rs en1 =>
    rw [e] at m
    dsimp only at m ⊢
    intro vs H1 ⟨B1, b1, G1, ra, fn⟩ st1
    cases e2 : stos rs with
    | none => rw [e2] at m; exact m.elim
    | some ds =>
      rw [e2] at m
      dsimp only at m
      have rl := stos_rep b1 G G1 ra fn e2
      cases e3 : decide (ds.length ≤ 1000) with
      | false => rw [e3] at m; exact m.elim
      | true =>
        rw [e3] at m
        refine ⟨small_of (by rw [rl.len]; exact of_decide_eq_true e3), fun p hp => ?_⟩
        have x : Ext H1 (upd H1 p (.lst vs)) := ext_new hp
        have G2 := G1.mono b1.up
        have hp0 : H p = none := Classical.byContradiction fun z => st1.al p z hp
        refine m _ _ ⟨_, bxNew hp0, newOwn hp G2, ⟨p, rfl, fun a r => .inr (Rch.flat (d := .lst ds) rfl r), vs, upd_same, RepL.to (newTo G2 hp) _ _ rl⟩, ?_⟩ (st1.trans (Stp.ext G2 x))
        intro q a eq r
        cases eq
        rw [Rch.flat (d := .lst ds) rfl r]
        exact .inl hp0
theorem dicImp (m : RdE K W dicF σ H Q) : tDNewK σ H Q := by
  obtain ⟨B, en, G, m⟩ := m
  intro p hp
  refine m _ _ ⟨_, bxNew hp, newOwn hp G, ⟨p, rfl, fun a r => .inr (Rch.flat (d := .dic []) rfl r), [], upd_same, by unfold RepK; rfl⟩, ?_⟩ (Stp.ext G (ext_new hp))
  intro q a eq r
  cases eq
  rw [Rch.flat (d := .dic []) rfl r]
  exact .inl hp
theorem own_set_o {b : Bool} {d0 d1 : D} (e : en[i]? = some (.o b d0)) (s : σ[i]? = some (some (.ref p))) (G : Good K B H σ en) (k : ∀ a o, ¬ Rch H d0 p a → H a = some o → H' a = some o) {a : Addr} (h : Own H' σ (en.set i (.o b d1)) a) : Rch H' d1 p a ∨ (Own H σ en a ∧ ¬ Rch H d0 p a) := by
  obtain ⟨j, c, d', p', e1, s1, r⟩ := h
  rcases set_get e1 with ⟨q, z, _⟩ | ⟨ne, q⟩
  · subst q
    cases z
    rw [s] at s1
    cases s1
    exact .inl r
  · obtain ⟨p2, s2, n2, c2⟩ := G.own j c d' q
    rw [s1] at s2
    cases s2
    have nr : ∀ a, Rch H d' p' a → ¬ Rch H d0 p a := fun a r1 r2 => ne (G.inj i j p p' a b c d0 d' e q s s1 r2 r1)
    have r' := (c2.rch (fun a o r x => k a o (nr a r) x) a).mp r
    exact .inr ⟨⟨j, c, d', p', q, s1, r'⟩, nr a r'⟩
theorem Good.mutN {b : Bool} {d0 d1 : D} (G : Good K B' H σ en) (up : ∀ a, B a → B' a) (e : en[i]? = some (.o b d0)) (s : σ[i]? = some (some (.ref p))) (k : ∀ a o, ¬ Rch H d0 p a → H a = some o → H' a = some o) (al : ∀ a, H a ≠ none → H' a ≠ none)
    (r' : ∀ a, Rch H' d1 p a → (Rch H d0 p a ∨ B' a) ∧ ¬ B a) (c : Cont K (Un B' H σ en) H' d1 p) : Good K B H' σ (en.set i (.o b d1)) := by
  have own1 : ∀ {a : Addr}, Own H' σ (en.set i (.o b d1)) a → Un B' H σ en a := fun {a} h => by
    rcases own_set_o e s G k h with h | h
    · rcases (r' a h).1 with z | z
      · exact .inr ⟨i, b, d0, p, e, s, z⟩
      · exact .inl z
    · exact .inr h.1
  have t : ∀ a o, H a = some o → ¬ Un B' H σ en a → H' a = some o ∧ ¬ Un B H' σ (en.set i (.o b d1)) a := fun a o x n => ⟨k a o (fun z => n (.inr ⟨i, b, d0, p, e, s, z⟩)) x, fun z => n (by
    rcases z with z | z
    · exact .inl (up a z)
    · exact own1 z)⟩
  have t' : ∀ a o, H' a = some o → ¬ Un B' H σ en a → H' a = some o ∧ ¬ Un B H' σ (en.set i (.o b d1)) a := fun a o x n => ⟨x, fun z => n (by
    rcases z with z | z
    · exact .inl (up a z)
    · exact own1 z)⟩
  exact {
    len := by rw [List.length_set]; exact G.len
    all := fun a h => al a (G.all a (up a h))
    rep := fun j d e1 => by
      rcases set_get e1 with ⟨_, z, _⟩ | ⟨_, q⟩
      · cases z
      · obtain ⟨v, s1, r⟩ := G.rep j d q
        exact ⟨v, s1, Rep.to t d v r⟩
    own := fun j c' d e1 => by
      rcases set_get e1 with ⟨q, z, _⟩ | ⟨ne, q⟩
      · subst q
        cases z
        exact ⟨p, s, fun a r => (r' a r).2, Cont.to t' (fun _ _ _ x => x) c⟩
      · obtain ⟨p', s1, n1, c1⟩ := G.own j c' d q
        have kk : ∀ a o, Rch H d p' a → H a = some o → H' a = some o := fun a o r x => k a o (fun z => ne (G.inj i j p p' a b c' d0 d e q s s1 z r)) x
        exact ⟨p', s1, fun a r z => n1 a ((c1.rch kk a).mp r) (up a z), Cont.to t kk c1⟩
    inj := fun j l q q' a c1 c2 x y e1 e2 s1 s2 r1 r2 => by
      have mix : ∀ {l : Nat} {c2 : Bool} {y : D} {q' : Addr}, i ≠ l → en[l]? = some (.o c2 y) → σ[l]? = some (some (.ref q')) → Rch H' y q' a → Rch H' d1 p a → False := fun {l c2 y q'} ne e2 s2 r2 r1 => by
        obtain ⟨p2, s3, n1, c3⟩ := G.own l c2 y e2
        rw [s2] at s3
        cases s3
        have kk : ∀ a o, Rch H y q' a → H a = some o → H' a = some o := fun a o r x => k a o (fun z => ne (G.inj i l p q' a b c2 d0 y e e2 s s2 z r)) x
        have r3 := (c3.rch kk a).mp r2
        rcases (r' a r1).1 with z | z
        · exact ne (G.inj i l p q' a b c2 d0 y e e2 s s2 z r3)
        · exact n1 a r3 z
      rcases set_get e1 with ⟨q1, z1, _⟩ | ⟨ne1, q1⟩
      · subst q1
        cases z1
        rw [s] at s1
        cases s1
        rcases set_get e2 with ⟨q2, z2, _⟩ | ⟨ne2, q2⟩
        · exact q2
        · exact (mix ne2 q2 s2 r2 r1).elim
      · rcases set_get e2 with ⟨q2, z2, _⟩ | ⟨ne2, q2⟩
        · subst q2
          cases z2
          rw [s] at s2
          cases s2
          exact (mix ne1 q1 s1 r1 r2).elim
        · obtain ⟨p2, s3, n3, c3⟩ := G.own j c1 x q1
          rw [s1] at s3
          cases s3
          obtain ⟨p4, s4, n4, c4⟩ := G.own l c2 y q2
          rw [s2] at s4
          cases s4
          have k1 : ∀ a o, Rch H x q a → H a = some o → H' a = some o := fun a o r z => k a o (fun w => ne1 (G.inj i j p q a b c1 d0 x e q1 s s1 w r)) z
          have k2 : ∀ a o, Rch H y q' a → H a = some o → H' a = some o := fun a o r z => k a o (fun w => ne2 (G.inj i l p q' a b c2 d0 y e q2 s s2 w r)) z
          exact G.inj j l q q' a c1 c2 x y q1 q2 s1 s2 ((c3.rch k1 a).mp r1) ((c4.rch k2 a).mp r2) }
theorem Stp.mutN {b : Bool} {d0 d1 : D} {σ0 : L2.St} {en0 : En} {H0 : Hp} (st : Stp σ0 en0 H0 σ en H) (G : Good K B H σ en) (e : en[i]? = some (.o b d0)) (s : σ[i]? = some (some (.ref p))) (k : ∀ a o, ¬ Rch H d0 p a → H a = some o → H' a = some o) (al : ∀ a, H a ≠ none → H' a ≠ none)
    (nw : ∀ a, Rch H' d1 p a → Rch H d0 p a ∨ H0 a = none ∨ OwnF H0 σ0 en0 a) : Stp σ0 en0 H0 σ (en.set i (.o b d1)) H' where
  len := by rw [List.length_set]; exact st.len
  fr := fun a o h n => by
    have h1 := st.fr a o h n
    refine k a o (fun z => ?_) h1
    rcases st.ow a ⟨i, b, d0, p, e, s, z⟩ with q | q
    · exact n q
    · rw [h] at q; cases q
  al := fun a h => al a (st.al a h)
  ow := fun a h => by
    rcases own_set_o e s G k h with h | h
    · rcases nw a h with z | z | z
      · exact st.ow a ⟨i, b, d0, p, e, s, z⟩
      · exact .inr z
      · exact .inl z.own
    · exact st.ow a h.1
  of := fun a h => by
    obtain ⟨j, d', p', e1, s1, r⟩ := h
    rcases set_get e1 with ⟨q, z, _⟩ | ⟨ne, q⟩
    · subst q
      cases z
      rw [s] at s1
      cases s1
      rcases nw a r with z | z | z
      · exact st.of a ⟨i, d0, p, e, s, z⟩
      · exact .inr z
      · exact .inl z
    · obtain ⟨p2, s2, n2, c2⟩ := G.own j false d' q
      rw [s1] at s2
      cases s2
      have r' := (c2.rch (fun a o r x => k a o (fun w => ne (G.inj i j p p' a b false d0 d' e q s s1 w r)) x) a).mp r
      exact st.of a ⟨j, d', p', q, s1, r'⟩
  pin := fun j d' e1 => by
    obtain ⟨h1, d2, h2⟩ := st.pin j d' e1
    refine ⟨h1, ?_⟩
    by_cases z : i = j
    · subst z
      rw [e] at h2
      cases h2
      exact ⟨d1, by rw [List.getElem?_set, if_pos rfl, if_pos (get_lt e)]⟩
    · exact ⟨d2, by rw [List.getElem?_set_ne z]; exact h2⟩
  pb := fun j d' e1 => by
    rcases set_get e1 with ⟨q, z, _⟩ | ⟨_, q⟩
    · subst q; cases z; exact st.pb i d0 e
    · exact st.pb j d' q
  pr := fun j x y p' a e1 e2 s1 r => by
    obtain ⟨h1, d2, h2⟩ := st.pin j x e1
    rcases set_get e2 with ⟨q, z, _⟩ | ⟨ne, q⟩
    · subst q
      cases z
      rw [h1, s1] at s
      cases s
      rcases nw a r with z | z | z
      · exact st.pr i x d0 p a e1 e (by assumption) z
      · exact .inr (.inl z)
      · exact .inr (.inr z)
    · have s1' : σ[j]? = some (some (.ref p')) := h1.trans s1
      obtain ⟨p2, s2, n2, c2⟩ := G.own j true y q
      rw [s1'] at s2
      cases s2
      have r' := (c2.rch (fun a o r x => k a o (fun w => ne (G.inj i j p p' a b true d0 y e q s s1' w r)) x) a).mp r
      exact st.pr j x y p' a e1 q s1 r'
theorem Good.mut {b : Bool} {d0 d1 : D} (G : Good K B H σ en) (e : en[i]? = some (.o b d0)) (s : σ[i]? = some (some (.ref p))) (f0 : d0.flatO = true) (f1 : d1.flatO = true) (k : ∀ a o, a ≠ p → H a = some o → H' a = some o) (hp : H' p ≠ none) (c : Cont K (Un B H σ en) H' d1 p) :
    Good K B H' σ (en.set i (.o b d1)) ∧ Stp σ en H σ (en.set i (.o b d1)) H' ∧ ∀ a, Un B H' σ (en.set i (.o b d1)) a → Un B H σ en a := by
  have k' : ∀ a o, ¬ Rch H d0 p a → H a = some o → H' a = some o := fun a o n => k a o fun z => n (by rw [z]; exact Rch.self)
  have al : ∀ a, H a ≠ none → H' a ≠ none := fun a h => by
    by_cases z : a = p
    · rw [z]; exact hp
    · cases q : H a with
      | none => exact absurd q h
      | some o => rw [k a o z q]; simp
  have rr : ∀ a, Rch H' d1 p a → Rch H d0 p a := fun a r => by rw [Rch.flat f1 r]; exact Rch.self
  obtain ⟨p', s', n', _⟩ := G.own i b d0 e
  rw [s] at s'
  cases s'
  refine ⟨G.mutN (fun _ h => h) e s k' al (fun a r => ⟨.inl (rr a r), n' a (rr a r)⟩) c, (Stp.refl σ en H).mutN G e s k' al (fun a r => .inl (rr a r)), fun a z => ?_⟩
  rcases z with z | z
  · exact .inl z
  · rcases own_set_o e s G k' z with z | z
    · exact .inr ⟨i, b, d0, p, e, s, rr a z⟩
    · exact .inr z.1
class FlatM (g : D → List D → Option (D × D)) : Prop where
  fl : ∀ d0 ds d1 d, g d0 ds = some (d1, d) → d0.flatO = true ∧ d1.flatO = true
class FlatS (u : D → D → D → Option D) : Prop where
  fl : ∀ d0 di d d1, u d0 di d = some d1 → d0.flatO = true ∧ d1.flatO = true
noncomputable def PrimM (K : PySem.W.Frag) (st : Bool) (r : V → List V → Hp → VK → Prop) (g : D → List D → Option (D × D)) : Prop :=
  ∀ (U : Addr → Prop) (H : Hp) (d0 : D) (ds : List D) (p : Addr) (vs : List V) (Q : VK) (d1 d : D), (∀ a, U a → H a ≠ none) → U p → Cont K U H d0 p → ARepL K U H ds vs → (st = true → RepL K U H ds vs) → g d0 ds = some (d1, d) →
    (∀ v H', (∀ a o, a ≠ p → H a = some o → H' a = some o) → H' p ≠ none → Cont K U H' d1 p → Rep K U H' d v → Q v H') → r (.ref p) vs H Q
theorem ARepL.mono (h : ∀ a, U' a → U a) : ∀ {ds : List D} {vs : List V}, ARepL K U H ds vs → ARepL K U' H ds vs
  | [], vs, e => e
  | d :: ds, vs, ⟨v, us, e, h1, h2⟩ => by
    have t : ∀ a o, H a = some o → ¬ U a → H a = some o ∧ ¬ U' a := fun a o x n => ⟨x, fun z => n (h a z)⟩
    refine ⟨v, us, e, ?_, ARepL.mono h h2⟩
    cases d with
    | lst _ => obtain ⟨a, xs, e1, s, r⟩ := h1; exact ⟨a, xs, e1, s, RepL.to t _ _ r⟩
    | dic _ => obtain ⟨a, xs, e1, s, r⟩ := h1; exact ⟨a, xs, e1, s, RepK.to t _ _ r⟩
    | obj _ _ => obtain ⟨a, C, dx, xs, e1, s, hc, r⟩ := h1; exact ⟨a, C, dx, xs, e1, s, hc, RepF.to t _ _ r⟩
    | non => exact Rep.to (K := K) t _ v h1
    | bl _ => exact Rep.to (K := K) t _ v h1
    | int _ => exact Rep.to (K := K) t _ v h1
    | str _ => exact Rep.to (K := K) t _ v h1
    | tup _ => exact Rep.to (K := K) t _ v h1
    | scr _ => exact Rep.to (K := K) t _ v h1
    | exn _ _ => exact Rep.to (K := K) t _ v h1
    | adr _ => exact Rep.to (K := K) t _ v h1
    | ow _ => exact h1
theorem RepL.arep : ∀ {ds : List D} {vs : List V}, RepL K U H ds vs → ARepL K U H ds vs
  | [], vs, e => by
    unfold RepL at e
    exact e
  | d :: ds, vs, h => by
    unfold RepL at h
    obtain ⟨v, us, e, h1, h2⟩ := h
    exact ⟨v, us, e, Rep.arep h1, RepL.arep h2⟩
noncomputable def isLst : D → Bool
  | .lst _ => true
  | _ => false
noncomputable def isDic : D → Bool
  | .dic _ => true
  | _ => false
noncomputable def TyOk (K : PySem.W.Frag) (T : String) (isT : D → Bool) : Prop := ∀ (U : Addr → Prop) (H : Hp) (d : D) (p : Addr), isT d = true → Cont K U H d p → tyV K T (.ref p) H
theorem ty_lst : TyOk K "list" isLst := fun U H d p h c => by
  cases d with
  | lst ds => obtain ⟨vs, a, _⟩ := c; exact .inl ⟨rfl, vs, SqL.of a⟩
  | _ => cases h
theorem ty_dic : TyOk K "dict" isDic := fun U H d p h c => by
  cases d with
  | dic ds => obtain ⟨vs, a, _⟩ := c; exact .inr (.inr (.inl ⟨rfl, .inl ⟨vs, a⟩⟩))
  | _ => cases h
theorem mutImp {st : Bool} {T : String} {r : V → List V → Hp → VK → Prop} {isT : D → Bool} {g : D → List D → Option (D × D)} [fg : FlatM g] (hT : TyOk K T isT) (hp : PrimM K st r g) (m : RdE K W (mutF st i isT g fs) σ H Q) :
    tBM K T r (tVar i) (RdA K W fs) σ H Q := by
  obtain ⟨B, en, G, m⟩ := m
  unfold mutF at m
  cases e : en[i]? with
  | none => rw [e] at m; exact m.elim
  | some s =>
    rw [e] at m
    cases s with
    | e => exact m.elim
    | v _ => exact m.elim
    | o b0 dd =>
      dsimp only at m
      cases ei : isT dd with
      | false => rw [ei] at m; exact m.elim
      | true =>
        rw [ei] at m
        dsimp only at m
        obtain ⟨p, s, n, c⟩ := G.own i b0 dd e
        refine ⟨.ref p, s, hT _ _ _ _ ei c, B, en, G, ?_⟩
        cases e1 : fs en with
        | bad => rw [e1] at m; exact m
        | exc x en1 => rw [e1] at m; exact m
        | ok rs en1 =>
          rw [e1] at m
          dsimp only at m ⊢
          intro vs H1 ⟨B1, b1, G1, ra, fn⟩ st1
          cases e2 : (match st with | true => stos rs | false => rsls en1 rs) with
          | none => rw [e2] at m; exact m.elim
          | some ds =>
            rw [e2] at m
            dsimp only at m
            cases e3 : en1[i]? with
            | none => rw [e3] at m; exact m.elim
            | some s3 =>
              rw [e3] at m
              cases s3 with
              | e => exact m.elim
              | v _ => exact m.elim
              | o b d0 =>
                dsimp only at m
                cases e4 : g d0 ds with
                | none => rw [e4] at m; exact m.elim
                | some dd1 =>
                  obtain ⟨d1, d⟩ := dd1
                  rw [e4] at m
                  dsimp only at m
                  have G2 := G1.mono b1.up
                  obtain ⟨p', s', n', c'⟩ := G2.own i b d0 e3
                  rw [s] at s'
                  cases s'
                  have ar : ARepL K (Un B H1 σ en1) H1 ds vs ∧ (st = true → RepL K (Un B H1 σ en1) H1 ds vs) := by
                    cases st with
                    | true =>
                      have rl := stos_rep b1 G G1 ra fn e2
                      exact ⟨rl.arep, fun _ => rl⟩
                    | false => exact ⟨ARepL.mono (fun a z => Un.mono b1.up z) (ArgRs.arep G1 ra e2), fun z => by cases z⟩
                  refine hp (Un B H1 σ en1) H1 d0 ds p vs Q d1 d (fun a => G2.unAt) (.inr ⟨i, b, d0, p, e3, s, Rch.self⟩) c' ar.1 ar.2 e4 fun v H2 k1 k2 k3 k4 => ?_
                  obtain ⟨f0, f1⟩ := fg.fl _ _ _ _ e4
                  obtain ⟨g2, s2, u2⟩ := G2.mut e3 s f0 f1 k1 k2 k3
                  refine m v H2 ⟨B, Bx.refl B σ en H, g2, ?_, trivial⟩ (st1.trans s2)
                  exact Rep.to (fun a o x n => ⟨x, fun z => n (u2 a z)⟩) _ _ k4
noncomputable def PrimS (K : PySem.W.Frag) (t : TSet) (u : D → D → D → Option D) : Prop :=
  ∀ (U : Addr → Prop) (H : Hp) (d0 di d : D) (p : Addr) (vi v : V) (Q : Hp → Prop) (d1 : D), (∀ a, U a → H a ≠ none) → U p → Cont K U H d0 p → ARep K U H di vi → Rep K U H d v → u d0 di d = some d1 →
    (∀ H', (∀ a o, a ≠ p → H a = some o → H' a = some o) → H' p ≠ none → Cont K U H' d1 p → Q H') → t (.ref p) vi v H Q
theorem stImp {fi fv : M R} {u : D → D → D → Option D} {t : TSet} [fg : FlatS u] (hp : PrimS K t u) (m : RdS K W (stF i fi fv u) D0 σ H) : tAsg (RdE K W fv) (gSub (tVar i) (RdE K W fi) t) D0 σ H := by
  obtain ⟨B, en, G, m⟩ := RdS.qs m
  refine ⟨B, en, G, ?_⟩
  unfold stF at m
  cases e1 : fv en with
  | bad => rw [e1] at m; exact m
  | exc x en1 => rw [e1] at m; exact fun c od H' => m c od σ H'
  | ok r en1 =>
    rw [e1] at m
    dsimp only at m ⊢
    intro v H1 ⟨B1, b1, G1, ra, fn⟩ st1
    cases e2 : stoD r with
    | none => rw [e2] at m; exact m.elim
    | some d =>
      rw [e2] at m
      dsimp only at m
      have rv := sto_rep b1 G G1 ra fn (stoD_of e2)
      have G1' := G1.mono b1.up
      cases e3 : en1[i]? with
      | none => rw [e3] at m; exact m.elim
      | some s3 =>
        rw [e3] at m
        cases s3 with
        | e => exact m.elim
        | v _ => exact m.elim
        | o b0 dd =>
          dsimp only at m
          obtain ⟨p, s, n, c⟩ := G1'.own i b0 dd e3
          refine ⟨.ref p, s, B, en1, G1', ?_⟩
          cases e4 : fi en1 with
          | bad => rw [e4] at m; exact m
          | exc x en2 => rw [e4] at m; exact fun c od H2 ex g st => m c od σ H2 ex g (st1.trans st)
          | ok ri en2 =>
            rw [e4] at m
            dsimp only at m ⊢
            intro vi H2 ⟨B2, b2, G2, ri', fn2⟩ st2
            cases e5 : rsl en2 ri with
            | none => rw [e5] at m; exact m.elim
            | some di =>
              rw [e5] at m
              dsimp only at m
              cases e6 : en2[i]? with
              | none => rw [e6] at m; exact m.elim
              | some s6 =>
                rw [e6] at m
                cases s6 with
                | e => exact m.elim
                | v _ => exact m.elim
                | o b d0 =>
                  dsimp only at m
                  cases e7 : u d0 di d with
                  | none => rw [e7] at m; exact m.elim
                  | some d1 =>
                    rw [e7] at m
                    have G2' := G2.mono b2.up
                    obtain ⟨p', s', n', c'⟩ := G2'.own i b d0 e6
                    rw [s] at s'
                    cases s'
                    have ai : ARep K (Un B H2 σ en2) H2 di vi := by
                      have := ARepL.mono (K := K) (H := H2) (ds := [di]) (vs := [vi]) (fun a z => Un.mono b2.up z) ⟨vi, [], rfl, ArgR.arep G2 ri' e5, rfl⟩
                      obtain ⟨v', us, e8, h8, _⟩ := this
                      cases e8
                      exact h8
                    refine hp (Un B H2 σ en2) H2 d0 di d p vi v _ d1 (fun a => G2'.unAt) (.inr ⟨i, b, d0, p, e6, s, Rch.self⟩) c' ai (Rep.step st2 (Bx.refl B σ en1 H1) rv) e7 fun H3 k1 k2 k3 => ?_
                    obtain ⟨f0, f1⟩ := fg.fl _ _ _ _ e7
                    obtain ⟨g2, s2, _⟩ := G2'.mut e6 s f0 f1 k1 k2 k3
                    exact m σ H3 g2 ((st1.trans st2).trans s2)
end
noncomputable def slF (g : D → Option Int → Option Int → Option (Bool × D)) (f : M R) (lo hi : Option (M R)) : M R := fun en => match f en with
  | .ok r en1 => (match (match lo with | none => Res.ok none en1 | some fl => (match fl en1 with | .ok (.sh (.int k)) en2 => .ok (some k) en2 | .ok _ _ => .bad | .exc x en2 => .exc x en2 | .bad => .bad)) with
    | .ok l en2 => (match (match hi with | none => Res.ok none en2 | some fh => (match fh en2 with | .ok (.sh (.int k)) en3 => .ok (some k) en3 | .ok _ _ => .bad | .exc x en3 => .exc x en3 | .bad => .bad)) with
      | .ok h en3 => (match rsl en3 r with
        | some d => (match g d l h with
          | some (b, d') => .ok (mkR b d') en3
          | none => .bad)
        | none => .bad)
      | .exc x en3 => .exc x en3
      | .bad => .bad)
    | .exc x en2 => .exc x en2
    | .bad => .bad)
  | .exc x en1 => .exc x en1
  | .bad => .bad
noncomputable def prtF (f : Option (M R)) : M (Option Int) := fun en => match f with
  | none => .ok none en
  | some fl => (match fl en with
    | .ok (.sh (.int k)) en2 => .ok (some k) en2
    | .ok _ _ => .bad
    | .exc x en2 => .exc x en2
    | .bad => .bad)
noncomputable def poT (K : PySem.W.Frag) (W : WX) : Option (M R) → TO
  | none => tNoPart
  | some f => tPart (RdE K W f)
noncomputable def PrimSl (K : PySem.W.Frag) (r : V → Option Int → Option Int → Hp → VK → Prop) (g : D → Option Int → Option Int → Option (Bool × D)) : Prop :=
  ∀ (U : Addr → Prop) (H : Hp) (d : D) (v : V) (lo hi : Option Int) (Q : VK) (b : Bool) (d' : D), (∀ a, U a → H a ≠ none) → ARep K U H d v → g d lo hi = some (b, d') →
    (∀ v H', Ext H H' → (b = false → Rep K U H' d' v) → (b = true → Fresh K U H H' d' v) → Q v H') → r v lo hi H Q
section
variable {K : PySem.W.Frag} {W : WX} {B B' B1 : Addr → Prop} {U U' : Addr → Prop} {H H' H1 : Hp} {σ σ' σ1 : L2.St} {en en' en1 : En} {d : D} {v : V} {i : Nat} {p : Addr} {ds : List D} {fs : M (List R)} {Q : VK} {D0 : Ends}
theorem partOf {f : Option (M R)} {k : Option Int → Hp → Prop} (b1 : Bx B B1 σ en H) (G1 : Good K B1 H1 σ en1) (st1 : Stp σ en H σ en1 H1) (m : match prtF f en1 with
    | .ok o en2 => ∀ H2 B2, Bx B1 B2 σ en1 H1 → Good K B2 H2 σ en2 → Stp σ en1 H1 σ en2 H2 → k o H2
    | .exc x en' => ∀ c od H', ExR K (Un B H' σ en') H' x c od → Good K B H' σ en' → Stp σ en H σ en' H' → W c od σ H'
    | .bad => False) : poT K W f σ H1 k := by
  unfold prtF at m
  cases f with
  | none => exact m H1 B1 (Bx.refl B1 σ en1 H1) G1 (Stp.refl σ en1 H1)
  | some fl =>
    dsimp only at m
    refine ⟨B1, en1, G1, ?_⟩
    cases e : fl en1 with
    | bad => rw [e] at m; exact m
    | exc x en2 => rw [e] at m; exact fun c od H' ex g st => m c od H' (ex.mono fun a z => Un.mono b1.up z) (g.mono b1.up) (st1.trans st)
    | ok r en2 =>
      rw [e] at m
      intro v H2 ⟨B2, b2, G2, ra, _⟩ st2
      match r, m, ra with
      | .sh (.int k), m, ra =>
        unfold ArgR Rep at ra
        exact ⟨k, ra, m H2 B2 b2 G2 st2⟩
      | .sh .non, m, _ => exact m.elim
      | .sh (.bl _), m, _ => exact m.elim
      | .sh (.str _), m, _ => exact m.elim
      | .sh (.tup _), m, _ => exact m.elim
      | .sh (.lst _), m, _ => exact m.elim
      | .sh (.dic _), m, _ => exact m.elim
      | .sh (.obj _ _), m, _ => exact m.elim
      | .sh (.scr _), m, _ => exact m.elim
      | .sh (.exn _ _), m, _ => exact m.elim
      | .sh (.adr _ _), m, _ => exact m.elim
      | .sh (.ow _), m, _ => exact m.elim
      | .fr _, m, _ => exact m.elim
      | .sl _, m, _ => exact m.elim
theorem slF_eq {g : D → Option Int → Option Int → Option (Bool × D)} {f : M R} {lo hi : Option (M R)} : slF g f lo hi en = match f en with
    | .ok r en1 => (match prtF lo en1 with
      | .ok l en2 => (match prtF hi en2 with
        | .ok h en3 => (match rsl en3 r with
          | some d => (match g d l h with
            | some (b, d') => .ok (mkR b d') en3
            | none => .bad)
          | none => .bad)
        | .exc x en3 => .exc x en3
        | .bad => .bad)
      | .exc x en2 => .exc x en2
      | .bad => .bad)
    | .exc x en1 => .exc x en1
    | .bad => .bad := rfl
theorem slImp {r : V → Option Int → Option Int → Hp → VK → Prop} {g : D → Option Int → Option Int → Option (Bool × D)} {f : M R} {lo hi : Option (M R)} (hp : PrimSl K r g) (m : RdE K W (slF g f lo hi) σ H Q) : tSl r (RdE K W f) (poT K W lo) (poT K W hi) σ H Q := by
  obtain ⟨B, en, G, m⟩ := m
  refine ⟨B, en, G, ?_⟩
  rw [slF_eq] at m
  cases e1 : f en with
  | bad => rw [e1] at m; exact m
  | exc x en1 => rw [e1] at m; exact m
  | ok r en1 =>
    rw [e1] at m
    dsimp only at m ⊢
    intro v H1 ⟨B1, b1, G1, r1, n1⟩ st1
    refine partOf b1 G1 st1 ?_
    cases e2 : prtF lo en1 with
    | bad => rw [e2] at m; exact m
    | exc x en2 => rw [e2] at m; exact m
    | ok l en2 =>
      rw [e2] at m
      dsimp only at m ⊢
      intro H2 B2 b2 G2 st2
      refine partOf (b1.trans st1 b2) G2 (st1.trans st2) ?_
      cases e3 : prtF hi en2 with
      | bad => rw [e3] at m; exact m
      | exc x en3 => rw [e3] at m; exact m
      | ok h en3 =>
        rw [e3] at m
        dsimp only at m ⊢
        intro H3 B3 b3 G3 st3
        cases e4 : rsl en3 r with
        | none => rw [e4] at m; exact m.elim
        | some d =>
          rw [e4] at m
          dsimp only at m
          cases e5 : g d l h with
          | none => rw [e5] at m; exact m.elim
          | some bd =>
            obtain ⟨b, d'⟩ := bd
            rw [e5] at m
            dsimp only at m
            have ra := ArgR.step G2 st3 rfl b3 (ArgR.step G1 st2 rfl b2 r1)
            refine hp (Un B3 H3 σ en3) H3 d v l h Q b d' (fun a => G3.unAt) (ArgR.arep G3 ra e4) e5 fun v' H4 x4 h1 h2 => ?_
            have st4 := (((st1.trans st2).trans st3).trans (Stp.ext G3 x4))
            have oi := G3.ownIff (H' := H4) (fun a o _ => x4 a o)
            have bb := (b1.trans st1 b2).trans (st1.trans st2) b3
            cases b with
            | false => exact m v' H4 ⟨B3, bb, G3.ext0 x4, Rep.to (fun a o x n => ⟨x, fun z => n (z.imp id (oi a).mp)⟩) _ _ (h1 rfl), trivial⟩ st4
            | true =>
              obtain ⟨p, ep, np, c, fl⟩ := h2 rfl
              obtain ⟨o, ho⟩ := c.at
              have hp0 : H p = none := Classical.byContradiction fun z => ((st1.trans st2).trans st3).al p z np
              refine m v' H4 ⟨fun x => B3 x ∨ x = p, bb.trans ((st1.trans st2).trans st3) (bxNew np), G3.ext x4 (fun a h => ?_), ⟨p, ep, fun a r => .inr (Rch.flat fl r), Cont.to (fun a o x n => ⟨x, fun q => n ((un_or q).imp (fun z => z.imp id (oi a).mp) id)⟩) (fun _ _ _ x => x) c⟩, ?_⟩ st4
              · rcases h with h | h
                · exact .inl h
                · rw [h, ho]; exact .inr ⟨np, by simp⟩
              · intro q a e r
                rw [ep] at e
                cases e
                rw [Rch.flat fl r]
                exact .inl hp0
end
section
variable {X : Cx} {W : WX} {pos p2 : Pos} {e o : Expr} {es : List Expr} {lo hi : Option Expr} {f fi fv : M R} {fl fh : Option (M R)} {fs : M (List R)} {i : Nat} {name : Str} {apos cpos : Pos} {T id : String}
theorem e_tupD {x1} (h : PA X es (RdA X.K W fs)) : PE X (.Tuple es x1 pos) (RdE X.K W (tupF fs)) := pe_imp (pe_tup h) fun σ H Q m => tupImp m
theorem e_lstD (h : PA X es (RdA X.K W fs)) : PE X (.List es pos) (RdE X.K W (lstF fs)) := pe_imp (pe_lst h) fun σ H Q m => lstImp m
theorem e_dicD : PE X (.Dict [] [] pos) (RdE X.K W dicF) := pe_imp pe_dnewK fun σ H Q m => dicImp m
theorem o_none : PO X none (poT X.K W none) := po_none
theorem o_some (h : PE X e (RdE X.K W f)) : PO X (some e) (poT X.K W (some f)) := po_some h
theorem e_slice {r : V → Option Int → Option Int → Hp → VK → Prop} {g : D → Option Int → Option Int → Option (Bool × D)} (hr : SlR X r) (hp : PrimSl X.K r g) (he : PE X e (RdE X.K W f)) (hl : PO X lo (poT X.K W fl)) (hu : PO X hi (poT X.K W fh)) :
    PE X (.Subscript e (.Slice lo hi none p2) pos) (RdE X.K W (slF g f fl fh)) := pe_imp (pe_slice hr he hl hu) fun σ H Q m => slImp hp m
theorem e_mut {st : Bool} {r : V → List V → Hp → VK → Prop} {isT : D → Bool} {g : D → List D → Option (D × D)} [FlatM g] (hT : TyOk X.K T isT) (hp : PrimM X.K st r g) (pa : PlainAttrs T) (slot : Slot T name id) (hty : typeOf (.builtin id) = pure (.type "method_descriptor")) (hm : MtR X id r) (ho : PE X o (tVar i)) (ha : PA X (e :: es) (RdA X.K W fs))
    (hbase : attributeBase o name X.env (eval o X.env) = eval o X.env := by rfl)
    (hfew : ((backTo cpos (starEach (e :: es) X.env)).all (fun x => !x.1) && (backToKw cpos (keywordEach [] X.env)).all (fun x => x.1.isSome)
      && decide ((e :: es).length + ([] : List Keyword).length + (if ([] : List Keyword).isEmpty then 0 else 1) < 30)) = true := by rfl)
    (hline : (apos.endLine == cpos.line) = true := by rfl) (hs : starEach (e :: es) X.env = (false, eval e X.env) :: starEach es X.env := by rfl) (hplain : (backTo cpos (starEach es X.env)).any (·.1) = false := by rfl) :
    PE X (.Call (.Attribute o name apos) (e :: es) [] cpos) (RdE X.K W (mutF st i isT g fs)) :=
  pe_imp (pe_bm pa slot hty hm ho ha hbase hfew hline hs hplain) fun σ H Q m => mutImp hT hp m
theorem s_sub {t : TSet} {u : D → D → D → Option D} [FlatS u] {tpos : Pos} {ix : Expr} (hS : PSet X t) (hp : PrimS X.K t u) (he : PE X e (RdE X.K W fv)) (ho : PE X o (tVar i)) (hi : PE X ix (RdE X.K W fi))
    (ha : ∀ v, assign (.Subscript o ix tpos) X.env v = (do
      let ov ← holding [v] (eval o X.env)
      let iv ← holding [v, ov] (eval ix X.env)
      standAt tpos
      holding [v, ov, iv] (setItem ov iv v)
      release [v, ov, iv] []) := by intro _; rfl)
    (hs : swapsWithSole [.Subscript o ix tpos] e pos.line X.env = pure false := by rfl) (hw : swappedStores [.Subscript o ix tpos] e X.env = pure none := by rfl)
    (h1 : (assignEach [.Subscript o ix tpos] X.env).map (·.2) = [assign (.Subscript o ix tpos) X.env] := by rfl) : PS X (.Assign [.Subscript o ix tpos] e pos) (RdS X.K W (stF i fi fv u)) :=
  ps_imp (ps_asg he (pg_sub ho hi hS ha) hs hw h1) fun D σ H m => stImp hp m
end
end PyD

namespace PyD
open PySem PySem.Spec L2
noncomputable def wipeE : List Nat → En → En
  | [], en => en
  | v :: vs, en => (wipeE vs en).set v .e
noncomputable def resE : List Nat → En → En → En
  | [], _, en => en
  | v :: vs, en0, en => (resE vs en0 en).set v (match en0[v]? with
    | some (.v d) => .v d
    | _ => .e)
noncomputable def lcL (g : D → M Unit) (tt : M Bool) (te : M R) (vs : List Nat) : List D → List D → En → Res (List D)
  | [], acc, en => .ok acc en
  | d :: ds, acc, en => match g d en with
    | .ok _ en1 => (match tt en1 with
      | .ok true en2 => (match te en2 with
        | .ok r en3 => (match stoD r with
          | some y => (match decide (acc.length < 1000000) with
            | true => lcL g tt te vs ds (acc ++ [y]) (wipeE vs en3)
            | false => .bad)
          | none => .bad)
        | _ => .bad)
      | .ok false en2 => lcL g tt te vs ds acc (wipeE vs en2)
      | _ => .bad)
    | _ => .bad
noncomputable def lcF (it : M (List D)) (g : D → M Unit) (tt : M Bool) (te : M R) (vs : List Nat) : M R := fun en => match it en with
  | .ok ds en1 => (match vs.all (freeAt en1) with
    | true => (match lcL g tt te vs ds [] (wipeE vs en1) with
      | .ok acc en2 => .ok (.fr (.lst acc)) (resE vs en1 en2)
      | _ => .bad)
    | false => .bad)
  | .exc x en1 => .exc x en1
  | .bad => .bad
noncomputable def yesT : M Bool := fun en => .ok true en
noncomputable abbrev W0 : WX := fun _ _ _ _ => False
section
variable {K : PySem.W.Frag} {W : WX} {B B' B1 : Addr → Prop} {U U' : Addr → Prop} {H H' H1 : Hp} {σ σ' σ1 : L2.St} {en en' en1 : En} {d : D} {v : V} {i : Nat} {p : Addr} {ds : List D} {Q : VK}
theorem wipe_set {σ : L2.St} {i : Nat} {x : Option V} : ∀ {vs : List Nat}, i ∈ vs → wipe (σ.set i x) vs = wipe σ vs
  | [], h => by cases h
  | v :: vs, h => by
    show (wipe (σ.set i x) vs).set v none = (wipe σ vs).set v none
    by_cases hv : i ∈ vs
    · rw [wipe_set hv]
    · have e : i = v := by
        rcases List.mem_cons.mp h with h | h
        · exact h
        · exact absurd h hv
      subst e
      have aux : ∀ (vs : List Nat), i ∉ vs → wipe (σ.set i x) vs = (wipe σ vs).set i x := fun vs => by
        induction vs with
        | nil => intro _; rfl
        | cons w ws ih =>
          intro hn
          have h1 : i ∉ ws := fun z => hn (List.mem_cons_of_mem _ z)
          have h2 : i ≠ w := fun z => hn (by rw [z]; exact List.mem_cons_self)
          show (wipe (σ.set i x) ws).set w none = ((wipe σ ws).set w none).set i x
          rw [ih h1, List.set_comm none x h2.symm]
      rw [aux vs hv, List.set_set]
theorem wipe_idem (σ : L2.St) (vs : List Nat) : wipe (wipe σ vs) vs = wipe σ vs := by
  have w : ∀ (ws : List Nat) (u : Nat), u ∈ ws → (wipe σ ws)[u]? = some none ∨ (wipe σ ws)[u]? = none := fun ws u => by
    induction ws with
    | nil => intro h; cases h
    | cons w ws ih =>
      intro h
      show ((wipe σ ws).set w none)[u]? = _ ∨ ((wipe σ ws).set w none)[u]? = _
      by_cases q : w = u
      · subst q
        rw [List.getElem?_set, if_pos rfl]
        split
        · exact .inl rfl
        · exact .inr rfl
      · rw [List.getElem?_set_ne q]
        rcases List.mem_cons.mp h with h | h
        · exact absurd h.symm q
        · exact ih h
  have aux : ∀ (us : List Nat), (∀ u ∈ us, (wipe σ vs)[u]? = some none ∨ (wipe σ vs)[u]? = none) → wipe (wipe σ vs) us = wipe σ vs := fun us => by
    induction us with
    | nil => intro _; rfl
    | cons u us ih =>
      intro hu
      show (wipe (wipe σ vs) us).set u none = _
      rw [ih fun x h => hu x (List.mem_cons_of_mem _ h)]
      apply List.ext_getElem?
      intro n
      rw [List.getElem?_set]
      by_cases q : u = n
      · subst q
        rw [if_pos rfl]
        rcases hu u List.mem_cons_self with z | z
        · rw [if_pos (get_lt z), z]
        · rw [if_neg (by
            intro hl
            rw [List.getElem?_eq_getElem hl] at z
            cases z), z]
      · rw [if_neg q]
  exact aux vs fun u hu => w vs u hu
theorem wipe_get {σ : L2.St} {j : Nat} {x : V} {vs : List Nat} (h : σ[j]? = some (some x)) (hj : j ∉ vs) : (wipe σ vs)[j]? = some (some x) := by
  rw [wipe_out hj]
  exact h
theorem wipeE_len : ∀ {vs : List Nat} {en : En}, (wipeE vs en).length = en.length
  | [], _ => rfl
  | v :: vs, en => by
    show ((wipeE vs en).set v .e).length = _
    rw [List.length_set, wipeE_len]
theorem wipeE_get : ∀ {vs : List Nat} {en : En} {j : Nat} {s : Sl}, (wipeE vs en)[j]? = some s → s = .e ∨ (j ∉ vs ∧ en[j]? = some s)
  | [], en, j, s, h => .inr ⟨fun z => (by cases z), h⟩
  | v :: vs, en, j, s, h => by
    rcases set_get h with ⟨_, q, _⟩ | ⟨ne, q⟩
    · exact .inl q
    · rcases wipeE_get q with q | ⟨n, q⟩
      · exact .inl q
      · exact .inr ⟨fun z => by
          rcases List.mem_cons.mp z with z | z
          · exact ne z.symm
          · exact n z, q⟩
theorem wipeE_out : ∀ {vs : List Nat} {en : En} {j : Nat}, j ∉ vs → (wipeE vs en)[j]? = en[j]?
  | [], _, _, _ => rfl
  | v :: vs, en, j, h => by
    show ((wipeE vs en).set v .e)[j]? = _
    rw [List.getElem?_set_ne (fun z => h (by rw [z]; exact List.mem_cons_self)), wipeE_out (fun z => h (List.mem_cons_of_mem _ z))]
theorem own_wipe {vs : List Nat} {a : Addr} (h : Own H (wipe σ vs) (wipeE vs en) a) : Own H σ en a := by
  obtain ⟨j, b, d, p, e, s, r⟩ := h
  rcases wipeE_get e with q | ⟨n, q⟩
  · cases q
  · rw [wipe_out n] at s
    exact ⟨j, b, d, p, q, s, r⟩
theorem Good.wipe {vs : List Nat} (G : Good K B H σ en) : Good K B H (L2.wipe σ vs) (wipeE vs en) := by
  have t : ∀ a o, H a = some o → ¬ Un B H σ en a → H a = some o ∧ ¬ Un B H (L2.wipe σ vs) (wipeE vs en) a := fun a o x n => ⟨x, fun z => n (z.imp id own_wipe)⟩
  exact {
    len := by rw [wipe_length, wipeE_len]; exact G.len
    all := G.all
    rep := fun j d e => by
      rcases wipeE_get e with q | ⟨n, q⟩
      · cases q
      · obtain ⟨v, s, r⟩ := G.rep j d q
        exact ⟨v, wipe_get s n, Rep.to t d v r⟩
    own := fun j b d e => by
      rcases wipeE_get e with q | ⟨n, q⟩
      · cases q
      · obtain ⟨p, s, n1, c⟩ := G.own j b d q
        exact ⟨p, wipe_get s n, n1, Cont.to t (fun _ _ _ x => x) c⟩
    inj := fun j k q q' a b c d d' e1 e2 s1 s2 => by
      rcases wipeE_get e1 with z | ⟨n1, q1⟩
      · cases z
      · rcases wipeE_get e2 with z | ⟨n2, q2⟩
        · cases z
        · rw [wipe_out n1] at s1
          rw [wipe_out n2] at s2
          exact G.inj j k q q' a b c d d' q1 q2 s1 s2 }
theorem Stp.wipe {vs : List Nat} (hp : ∀ v ∈ vs, ∀ d, en[v]? ≠ some (.o true d)) : Stp σ en H (L2.wipe σ vs) (wipeE vs en) H where
  len := wipeE_len
  fr := fun _ _ h _ => h
  al := fun _ h => h
  ow := fun a h => .inl (own_wipe h)
  of := fun a h => .inl (by
    obtain ⟨j, d, p, e, s, r⟩ := h
    rcases wipeE_get e with q | ⟨n, q⟩
    · cases q
    · rw [wipe_out n] at s
      exact ⟨j, d, p, q, s, r⟩)
  pin := fun j d e => by
    have nj : j ∉ vs := fun z => hp j z d e
    exact ⟨wipe_out nj, d, by rw [wipeE_out nj]; exact e⟩
  pb := fun j d e => by
    rcases wipeE_get e with q | ⟨_, q⟩
    · cases q
    · exact ⟨d, q⟩
  pr := fun j d d' p a e1 e2 _ r => by
    rcases wipeE_get e2 with q | ⟨_, q⟩
    · cases q
    · rw [e1] at q; cases q; exact .inl r
theorem Stp.updNew {o : HO} (hp : H p = none) (G : Good K B H' σ' en') (no : ¬ Own H' σ' en' p) (s : Stp σ en H σ' en' H') : Stp σ en H σ' en' (upd H' p o) where
  len := s.len
  fr := fun a x h n => by
    rw [upd_ne (ne_of_none h hp)]
    exact s.fr a x h n
  al := fun a h => by
    have hh := s.al a h
    by_cases z : a = p
    · rw [z, upd_same]; simp
    · rw [upd_ne z]; exact hh
  ow := fun a z => s.ow a ((G.ownIff (fun a o r x => by rw [upd_ne (fun z => no (by rw [← z]; exact r))]; exact x) a).mp z)
  of := fun a z => s.of a ((G.ownFIff (fun a o r x => by rw [upd_ne (fun z => no (by rw [← z]; exact r))]; exact x) a).mp z)
  pin := s.pin
  pb := s.pb
  pr := fun i d d' q a e1 e2 s1 r => by
    have s2 := (s.pin i d e1).1.trans s1
    obtain ⟨q', s3, _, c⟩ := G.own i true d' e2
    rw [s2] at s3
    cases s3
    exact s.pr i d d' q a e1 e2 s1 ((c.rch (fun a o r x => by rw [upd_ne (fun z => no (by rw [← z]; exact ⟨i, true, d', q, e2, s2, r⟩))]; exact x) a).mp r)
theorem Good.side (G : Good K B H σ en) (hp : B p) {o : HO} : Good K B (upd H p o) σ en := by
  have kp : ∀ a x, ¬ B a → H a = some x → upd H p o a = some x := fun a x n q => by
    rw [upd_ne (fun z => n (by rw [z]; exact hp))]
    exact q
  have t : ∀ a x, H a = some x → ¬ Un B H σ en a → upd H p o a = some x ∧ ¬ Un B (upd H p o) σ en a := fun a x q n => ⟨kp a x (fun z => n (.inl z)) q, fun z => n (z.imp id (G.ownIff (fun a o r x => kp a o (G.ownNB r) x) a).mp)⟩
  exact {
    len := G.len
    all := fun a h => by
      by_cases z : a = p
      · rw [z, upd_same]; simp
      · rw [upd_ne z]; exact G.all a h
    rep := fun i d e => by
      obtain ⟨v, s, r⟩ := G.rep i d e
      exact ⟨v, s, Rep.to t d v r⟩
    own := fun i b d e => by
      obtain ⟨q, s, n, c⟩ := G.own i b d e
      exact ⟨q, s, fun a r => n a ((c.rch (fun a o r x => kp a o (n a r) x) a).mp r), Cont.to t (fun a x r y => kp a x (n a r) y) c⟩
    inj := fun i j q q' a b c d d' e1 e2 s1 s2 r1 r2 => by
      obtain ⟨p1, t1, n1, c1⟩ := G.own i b d e1
      rw [s1] at t1
      cases t1
      obtain ⟨p2, t2, n2, c2⟩ := G.own j c d' e2
      rw [s2] at t2
      cases t2
      exact G.inj i j q q' a b c d d' e1 e2 s1 s2 ((c1.rch (fun a o r x => kp a o (n1 a r) x) a).mp r1) ((c2.rch (fun a o r x => kp a o (n2 a r) x) a).mp r2) }
theorem resE_len : ∀ {vs : List Nat} {en0 en : En}, (resE vs en0 en).length = en.length
  | [], _, _ => rfl
  | v :: vs, en0, en => by
    show ((resE vs en0 en).set v _).length = _
    rw [List.length_set, resE_len]
theorem resE_get : ∀ {vs : List Nat} {en0 en : En} {j : Nat} {s : Sl}, (resE vs en0 en)[j]? = some s → s = .e ∨ (∃ d, s = .v d ∧ en0[j]? = some s) ∨ (j ∉ vs ∧ en[j]? = some s)
  | [], en0, en, j, s, h => .inr (.inr ⟨fun z => (by cases z), h⟩)
  | v :: vs, en0, en, j, s, h => by
    rcases set_get h with ⟨ev, q, _⟩ | ⟨ne, q⟩
    · subst ev
      split at q
      · rename_i d e
        exact .inr (.inl ⟨d, q, by rw [q]; exact e⟩)
      · exact .inl q
    · rcases resE_get q with q | q | ⟨n, q⟩
      · exact .inl q
      · exact .inr (.inl q)
      · exact .inr (.inr ⟨fun z => by
          rcases List.mem_cons.mp z with z | z
          · exact ne z.symm
          · exact n z, q⟩)
theorem resE_out : ∀ {vs : List Nat} {en0 en : En} {j : Nat}, j ∉ vs → (resE vs en0 en)[j]? = en[j]?
  | [], _, _, _, _ => rfl
  | v :: vs, en0, en, j, h => by
    show ((resE vs en0 en).set v _)[j]? = _
    rw [List.getElem?_set_ne (fun z => h (by rw [z]; exact List.mem_cons_self)), resE_out (fun z => h (List.mem_cons_of_mem _ z))]
theorem own_res {vs : List Nat} {en2 : En} {a : Addr} (h : Own H σ (resE vs en1 en2) a) : Own H (L2.wipe σ vs) en2 a := by
  obtain ⟨j, b, d, p, e, s, r⟩ := h
  rcases resE_get e with q | ⟨d', q, _⟩ | ⟨n, q⟩
  · cases q
  · cases q
  · exact ⟨j, b, d, p, q, by rw [wipe_out n]; exact s, r⟩
theorem Good.behind {vs : List Nat} {en2 : En} {H2 : Hp} (G1 : Good K B1 H1 σ en1) (hp : ∀ v ∈ vs, ∀ d, en1[v]? ≠ some (.o true d)) (G2 : Good K B' H2 (L2.wipe σ vs) en2) (bx : Bx B1 B' σ en1 H1) (st : Stp (L2.wipe σ vs) (wipeE vs en1) H1 (L2.wipe σ vs) en2 H2) :
    Good K B' H2 σ (resE vs en1 en2) ∧ Stp σ en1 H1 σ (resE vs en1 en2) H2 := by
  have ow2 : ∀ a, Own H2 σ (resE vs en1 en2) a → Own H2 (L2.wipe σ vs) en2 a := fun a h => own_res h
  have t2 : ∀ a o, H2 a = some o → ¬ Un B' H2 (L2.wipe σ vs) en2 a → H2 a = some o ∧ ¬ Un B' H2 σ (resE vs en1 en2) a := fun a o x n => ⟨x, fun z => n (z.imp id (ow2 a))⟩
  have s1 : Stp σ en1 H1 (L2.wipe σ vs) en2 H2 := (Stp.wipe hp).trans st
  have t1 : ∀ a o, H1 a = some o → ¬ Un B1 H1 σ en1 a → H2 a = some o ∧ ¬ Un B' H2 σ (resE vs en1 en2) a := fun a o x n => by
    obtain ⟨q1, q2⟩ := stepTo s1 bx a o x n
    exact ⟨q1, fun z => q2 (z.imp id (ow2 a))⟩
  refine ⟨?_, ?_⟩
  · exact {
      len := by rw [resE_len, ← G2.len, wipe_length]
      all := G2.all
      rep := fun j d e => by
        rcases resE_get e with q | ⟨d', q, z⟩ | ⟨n, q⟩
        · cases q
        · obtain ⟨v, s, r⟩ := G1.rep j d z
          exact ⟨v, s, Rep.to t1 d v r⟩
        · obtain ⟨v, s, r⟩ := G2.rep j d q
          rw [wipe_out n] at s
          exact ⟨v, s, Rep.to t2 d v r⟩
      own := fun j b d e => by
        rcases resE_get e with q | ⟨d', q, z⟩ | ⟨n, q⟩
        · cases q
        · cases q
        · obtain ⟨p, s, n1, c⟩ := G2.own j b d q
          rw [wipe_out n] at s
          exact ⟨p, s, n1, Cont.to t2 (fun _ _ _ x => x) c⟩
      inj := fun j k q q' a b c d d' e1 e2 s1 s2 => by
        rcases resE_get e1 with z | ⟨_, z, _⟩ | ⟨n1, q1⟩
        · cases z
        · cases z
        · rcases resE_get e2 with z | ⟨_, z, _⟩ | ⟨n2, q2⟩
          · cases z
          · cases z
          · exact G2.inj j k q q' a b c d d' q1 q2 (by rw [wipe_out n1]; exact s1) (by rw [wipe_out n2]; exact s2) }
  · exact {
      len := by rw [resE_len]; exact s1.len
      fr := s1.fr
      al := s1.al
      ow := fun a h => s1.ow a (ow2 a h)
      of := fun a h => by
        obtain ⟨j, d, p, e, s, r⟩ := h
        rcases resE_get e with q | ⟨d', q, _⟩ | ⟨n, q⟩
        · cases q
        · cases q
        · exact s1.of a ⟨j, d, p, q, by rw [wipe_out n]; exact s, r⟩
      pin := fun j d e => by
        have nj : j ∉ vs := fun z => hp j z d e
        obtain ⟨_, d', q⟩ := s1.pin j d e
        exact ⟨rfl, d', by rw [resE_out nj]; exact q⟩
      pb := fun j d e => by
        rcases resE_get e with q | ⟨_, q, _⟩ | ⟨_, q⟩
        · cases q
        · cases q
        · exact s1.pb j d q
      pr := fun j d d' p a e1 e2 s r => by
        rcases resE_get e2 with q | ⟨_, q, _⟩ | ⟨_, q⟩
        · cases q
        · cases q
        · exact s1.pr j d d' p a e1 q s r }
noncomputable def TgW (K : PySem.W.Frag) (g : D → M Unit) (tg : TG) (is : List Nat) : Prop :=
  ∀ {B : Addr → Prop} {H : Hp} {σ : L2.St} {en en2 : En} {d : D} {v : V} {vs : List Nat} {Q : L2.St → Hp → Prop}, (∀ i ∈ is, i ∈ vs) → Good K B H σ en → Rep K (Un B H σ en) H d v → g d en = .ok () en2 →
    (∀ σ', Good K B H σ' en2 → Stp σ en H σ' en2 H → wipe σ' vs = wipe σ vs → Q σ' H) → tg v σ H Q
theorem tgNm (i : Nat) : TgW K (gNm i) (gName i) [i] := fun {B H σ en en2 d v vs Q} his G r e q => by
  unfold gNm at e
  cases hf : freeAt en i with
  | false => rw [hf] at e; cases e
  | true =>
    rw [hf] at e
    cases e
    exact q _ (G.set_v (fun _ h => h) (freeAt_lt hf).1 r) (Stp.set_v hf) (wipe_set (his i List.mem_cons_self))
theorem gNmsW {Q : L2.St → Hp → Prop} {ws : List Nat} : ∀ {is : List Nat} {ds : List D} {vs : List V} {en : En} {σ : L2.St} {en2 : En}, (∀ i ∈ is, i ∈ ws) → Good K B H σ en → RepL K (Un B H σ en) H ds vs → gNms is ds en = .ok () en2 →
    (∀ σ', Good K B H σ' en2 → Stp σ en H σ' en2 H → wipe σ' ws = wipe σ ws → Q σ' H) → gNames is vs σ H Q
  | [], [], vs, en, σ, en2, _, G, r, e, q => by
    unfold RepL at r
    cases e
    exact ⟨r, q σ G (Stp.refl σ _ H) rfl⟩
  | [], d :: ds, vs, en, σ, en2, _, G, r, e, q => by cases e
  | i :: is, [], vs, en, σ, en2, _, G, r, e, q => by cases e
  | i :: is, d :: ds, vs, en, σ, en2, his, G, r, e, q => by
    unfold RepL at r
    obtain ⟨v, us, e1, r1, r2⟩ := r
    unfold gNms at e
    cases hf : freeAt en i with
    | false => rw [hf] at e; cases e
    | true =>
      rw [hf] at e
      have st : Stp σ en H (σ.set i (some v)) (en.set i (.v d)) H := Stp.set_v hf
      refine ⟨v, us, e1, ?_⟩
      exact gNmsW (is := is) (fun i h => his i (List.mem_cons_of_mem _ h)) (G.set_v (fun _ h => h) (freeAt_lt hf).1 r1) (RepL.to (stepTo st (Bx.refl B σ en H)) _ _ r2) e fun σ' g s w => q σ' g (st.trans s) (w.trans (wipe_set (his i List.mem_cons_self)))
theorem tgTp (is : List Nat) : TgW K (gTp is) (gTup K is.length (gNames is)) is := fun {B H σ en en2 d v vs Q} his G r e q => by
  unfold gTp at e
  cases d with
  | tup ds =>
    dsimp only at e
    unfold Rep at r
    obtain ⟨a, xs, e1, nu, ha, r⟩ := r
    exact ⟨a, xs, e1, SqT.of ha, by rw [r.len, gNms_len e], gNmsW his G r e q⟩
  | non => cases e
  | bl _ => cases e
  | int _ => cases e
  | str _ => cases e
  | lst _ => cases e
  | dic _ => cases e
  | obj _ _ => cases e
  | scr _ => cases e
  | exn _ _ => cases e
  | adr _ => cases e
  | ow _ => cases e
theorem RepL.snoc {y : D} {w : V} : ∀ {ds : List D} {vs : List V}, RepL K U H ds vs → Rep K U H y w → RepL K U H (ds ++ [y]) (vs ++ [w])
  | [], vs, h, r => by
    unfold RepL at h
    subst h
    show RepL K U H [y] [w]
    unfold RepL
    exact ⟨w, [], rfl, r, by unfold RepL; rfl⟩
  | d :: ds, vs, h, r => by
    unfold RepL at h
    obtain ⟨v, us, e, h1, h2⟩ := h
    subst e
    show RepL K U H (d :: (ds ++ [y])) (v :: (us ++ [w]))
    unfold RepL
    exact ⟨v, us ++ [w], rfl, h1, RepL.snoc h2 r⟩
theorem lcImp {it : M (List D)} {g : D → M Unit} {tg : TG} {is : List Nat} {tt : M Bool} {te : M R} {vs : List Nat} (hg : TgW K g tg is) (his : ∀ i ∈ is, i ∈ vs) (m : RdE K W (lcF it g tt te vs) σ H Q) :
    tLc (RdI K W it) tg (RdT K W0 tt) (RdE K W0 te) vs σ H Q := by
  obtain ⟨B, en, G, m⟩ := m
  refine ⟨B, en, G, ?_⟩
  unfold lcF at m
  cases e1 : it en with
  | bad => rw [e1] at m; exact m
  | exc x en1 => rw [e1] at m; exact m
  | ok ds en1 =>
    rw [e1] at m
    dsimp only at m ⊢
    intro J H1 B1 b1 G1 st1 wk Dl hD
    cases e2 : vs.all (freeAt en1) with
    | false => rw [e2] at m; exact m.elim
    | true =>
      rw [e2] at m
      dsimp only at m
      have hpin : ∀ v ∈ vs, ∀ d, en1[v]? ≠ some (.o true d) := fun v h => (freeAt_lt (List.all_eq_true.mp e2 v h)).2
      cases e3 : lcL g tt te vs ds [] (wipeE vs en1) with
      | bad => rw [e3] at m; exact m.elim
      | exc x en2 => rw [e3] at m; exact m.elim
      | ok acc0 en9 =>
        rw [e3] at m
        dsimp only at m
        have bD : Bx B1 (fun a => B1 a ∨ a = Dl) σ en1 H1 := bxNew hD
        refine ⟨fun i k H2 => k + i = ds.length ∧ ∃ en2 accD accV, Good K (fun a => B1 a ∨ a = Dl) H2 (L2.wipe σ vs) en2 ∧ Stp (L2.wipe σ vs) (wipeE vs en1) H1 (L2.wipe σ vs) en2 H2 ∧ H2 Dl = some (.lst accV) ∧ RepL K (Un (fun a => B1 a ∨ a = Dl) H2 (L2.wipe σ vs) en2) H2 accD accV ∧
            lcL g tt te vs (ds.drop i) accD en2 = .ok acc0 en9, ⟨ds.length, by omega, wipeE vs en1, [], [], newOwn hD G1.wipe, (Stp.refl _ _ H1).updNew hD G1.wipe (fun z => by obtain ⟨o, ho⟩ := G1.wipe.ownAt z; rw [hD] at ho; cases ho), upd_same, by unfold RepL; rfl, e3⟩, ?_⟩
        intro i k H2 ⟨ek, en2, accD, accV, G2, st2, hD2, ra, el⟩
        have sw : Stp σ en1 H1 (L2.wipe σ vs) en2 H2 := (Stp.wipe hpin).trans st2
        have kp : Kp (Un B1 H1 σ en1) H1 H2 := sw.kp
        by_cases hi : i < ds.length
        · refine .inr ⟨wk.go i H2 kp hi, fun H' => ∃ m', m' < k ∧ m' + (i + 1) = ds.length ∧ ∃ en2 accD accV, Good K (fun a => B1 a ∨ a = Dl) H' (L2.wipe σ vs) en2 ∧ Stp (L2.wipe σ vs) (wipeE vs en1) H1 (L2.wipe σ vs) en2 H' ∧ H' Dl = some (.lst accV) ∧ RepL K (Un (fun a => B1 a ∨ a = Dl) H' (L2.wipe σ vs) en2) H' accD accV ∧
            lcL g tt te vs (ds.drop (i + 1)) accD en2 = .ok acc0 en9, fun H' z => z, ?_⟩
          intro x H3 hy
          have ed : ds[i]? = some ds[i] := List.getElem?_eq_getElem hi
          obtain ⟨x3, r3⟩ := wk.yld i H2 x H3 ds[i] kp ed hy
          have G3 := G2.ext0 x3
          have st3 : Stp (L2.wipe σ vs) en2 H2 (L2.wipe σ vs) en2 H3 := Stp.ext G2 x3
          have rr : Rep K (Un (fun a => B1 a ∨ a = Dl) H3 (L2.wipe σ vs) en2) H3 ds[i] x := Rep.to (fun a o x n => ⟨x, fun z => n (z.imp id (G2.ownIff (H' := H3) (fun a o _ => x3 a o) a).mp)⟩) _ _ (r3 (Un (fun a => B1 a ∨ a = Dl) H2 (L2.wipe σ vs) en2) (fun a o e1 n z => (stepTo sw bD a o e1 n).2 z) (fun a => G2.unAt))
          rw [List.drop_eq_getElem_cons hi] at el
          unfold lcL at el
          cases e4 : g ds[i] en2 with
          | exc y en3 => rw [e4] at el; cases el
          | bad => rw [e4] at el; cases el
          | ok u en3 =>
            rw [e4] at el
            dsimp only at el
            refine hg his G3 rr e4 fun σ4 G4 st4 w4 => ⟨w4.trans rfl |>.trans (wipe_idem σ vs), ?_⟩
            have wst : L2.wipe σ4 vs = L2.wipe σ vs := w4.trans (wipe_idem σ vs)
            have stA : Stp (L2.wipe σ vs) en2 H2 σ4 en3 H3 := st3.trans st4
            have nD : ∀ {σ : L2.St} {en : En} {H : Hp}, Good K (fun a => B1 a ∨ a = Dl) H σ en → ¬ Own H σ en Dl := fun {σ en H} g z => by
              exact g.ownNB z (.inr rfl)
            -- the next turn, from a state within the block
            have next : ∀ {en6 : En} {H6 : Hp} {accV' : List V} {accD' : List D}, Good K (fun a => B1 a ∨ a = Dl) H6 σ4 en6 → Stp (L2.wipe σ vs) en2 H2 σ4 en6 H6 → RepL K (Un (fun a => B1 a ∨ a = Dl) H6 σ4 en6) H6 accD' accV' → lcL g tt te vs (ds.drop (i + 1)) accD' (wipeE vs en6) = .ok acc0 en9 →
                ∃ m', m' < k ∧ m' + (i + 1) = ds.length ∧ ∃ en2 accD accV, Good K (fun a => B1 a ∨ a = Dl) (upd H6 Dl (.lst accV')) (L2.wipe σ vs) en2 ∧ Stp (L2.wipe σ vs) (wipeE vs en1) H1 (L2.wipe σ vs) en2 (upd H6 Dl (.lst accV')) ∧ (upd H6 Dl (.lst accV')) Dl = some (.lst accV) ∧
                  RepL K (Un (fun a => B1 a ∨ a = Dl) (upd H6 Dl (.lst accV')) (L2.wipe σ vs) en2) (upd H6 Dl (.lst accV')) accD accV ∧ lcL g tt te vs (ds.drop (i + 1)) accD en2 = .ok acc0 en9 := by
              intro en6 H6 accV' accD' G6 st6 ra6 el6
              have hp6 : ∀ v ∈ vs, ∀ d, en6[v]? ≠ some (.o true d) := fun v hv d z => by
                obtain ⟨d', z'⟩ := (st2.trans st6).pb v d z
                rcases wipeE_get z' with q | ⟨n, _⟩
                · cases q
                · exact n hv
              have gw := ((G6.side (p := Dl) (o := .lst accV') (.inr rfl)).wipe (vs := vs))
              rw [wst] at gw
              have gw0 := G6.wipe (vs := vs)
              rw [wst] at gw0
              have sw6 : Stp σ4 en6 H6 (L2.wipe σ4 vs) (wipeE vs en6) H6 := Stp.wipe hp6
              rw [wst] at sw6
              refine ⟨k - 1, by omega, by omega, wipeE vs en6, accD', accV', gw, (((st2.trans st6).trans sw6)).updNew hD gw0 (fun z => gw0.ownNB z (.inr rfl)), upd_same, ?_, el6⟩
              refine RepL.to (fun a o x n => ⟨?_, fun z => n ?_⟩) _ _ ra6
              · rw [upd_ne (fun z => n (by rw [z]; exact .inl (.inr rfl)))]
                exact x
              · rcases z with z | z
                · exact .inl z
                · rw [← wst] at z
                  exact .inr ((G6.ownIff (fun a o r x => by rw [upd_ne (fun z => G6.ownNB r (by rw [z]; exact .inr rfl))]; exact x) a).mp (own_wipe z))
            refine RdT.bind (B := fun a => B1 a ∨ a = Dl) G4 ?_
            cases e5 : tt en3 with
            | exc y en5 => rw [e5] at el; cases el
            | bad => rw [e5] at el; cases el
            | ok b en5 =>
              rw [e5] at el
              intro H5 B5 b5 G5 st5
              have G5' := G5.mono b5.up
              cases b with
              | false =>
                rw [if_neg Bool.false_ne_true]
                have hD5 : H5 Dl = some (.lst accV) := (stA.trans st5).fr Dl _ hD2 (nD G2)
                obtain ⟨m', q1, q2, en', aD, aV, q3⟩ := next G5' (stA.trans st5) (RepL.to (stepTo (stA.trans st5) (Bx.refl _ _ en2 H2)) _ _ ra) el
                have eH : upd H5 Dl (.lst accV) = H5 := by
                  funext a
                  unfold upd
                  split
                  · rename_i z; rw [z, hD5]
                  · rfl
                rw [eH] at q3
                exact ⟨m', q1, q2, en', aD, aV, q3⟩
              | true =>
                rw [if_pos rfl]
                dsimp only at el
                refine ⟨fun a => B1 a ∨ a = Dl, en5, G5', ?_⟩
                cases e6 : te en5 with
                | exc y en6 => rw [e6] at el; cases el
                | bad => rw [e6] at el; cases el
                | ok r en6 =>
                  rw [e6] at el
                  dsimp only at el ⊢
                  intro v H6 ⟨B6, b6, G6, r6, n6⟩ st6
                  cases e7 : stoD r with
                  | none => rw [e7] at el; cases el
                  | some y =>
                    rw [e7] at el
                    dsimp only at el
                    cases e8 : decide (accD.length < 1000000) with
                    | false => rw [e8] at el; cases el
                    | true =>
                      rw [e8] at el
                      dsimp only at el
                      have ry := sto_rep b6 G5' G6 r6 n6 (stoD_of e7)
                      have stT := (stA.trans st5).trans st6
                      have hD6 : H6 Dl = some (.lst accV) := stT.fr Dl _ hD2 (nD G2)
                      refine ⟨accV, hD6, by
                        rw [ra.len]
                        exact Nat.lt_of_lt_of_le (of_decide_eq_true e8) (by decide), ?_⟩
                      exact next (G6.mono b6.up) stT (RepL.snoc (RepL.to (stepTo stT (Bx.refl _ _ en2 H2)) _ _ ra) ry) el
        · have e0 : i = ds.length := by omega
          refine .inl ⟨by rw [e0]; exact wk.stop H2 kp, ?_⟩
          rw [List.drop_eq_nil_of_le (by omega)] at el
          unfold lcL at el
          cases el
          obtain ⟨g9, s9⟩ := Good.behind G1 hpin G2 bD st2
          have hD0 : H Dl = none := Classical.byContradiction fun z => st1.al Dl z hD
          refine m (.ref Dl) H2 ⟨_, b1.trans st1 bD, g9, ⟨Dl, rfl, fun a r => .inr (Rch.flat (d := .lst _) rfl r), accV, hD2, RepL.to (fun a o x n => ⟨x, fun z => n (z.imp id own_res)⟩) _ _ ra⟩, ?_⟩ (st1.trans s9)
          intro q a eq r
          cases eq
          rw [Rch.flat (d := .lst _) rfl r]
          exact .inl hD0
end
section
variable {X : Cx} {W : WX} {elt tg iter c : Expr} {ifs : List Expr} {scope : Scope} {own : List (Str × Nat)} {pos spos : Pos} {it : M (List D)} {g : D → M Unit} {gt : TG} {is : List Nat} {tt : M Bool} {te : M R}
theorem pts_0 : PTs X [] (RdT X.K W yesT) := ⟨fun pins s σ H Q I h => pts_nil.run pins s σ H Q I (by
  obtain ⟨B, en, G, m⟩ := h
  exact m H ⟨B, Bx.refl B σ en H, G⟩ (Stp.refl σ en H))⟩
theorem pts_1 (h : PT X c (RdT X.K W tt)) : PTs X [c] (RdT X.K W tt) := pts_one h
theorem e_lc (hg : TgW X.K g gt is) (hc : X.calm = true) (hN : X.N.Nodup) (hi : PI X tg iter (RdI X.K W it)) (ok : BlkOk X.N X.env.scope scope own)
    (hgt : ∀ (s : Shared) (H : Hp) (C : Addr) (cl : List (Str × Addr)) (fp : List Addr), PG (X.blk s H scope (compEnvC scope cl C X.env) fp) tg gt) (ht : ∀ (s : Shared) (H : Hp) (C : Addr) (cl : List (Str × Addr)) (fp : List Addr), PTs (X.blk s H scope (compEnvC scope cl C X.env) fp) ifs (RdT X.K W0 tt))
    (he : ∀ (s : Shared) (H : Hp) (C : Addr) (cl : List (Str × Addr)) (fp : List Addr), PE (X.blk s H scope (compEnvC scope cl C X.env) fp) elt (RdE X.K W0 te)) (his : ∀ i ∈ is, i ∈ own.map (·.2) := by decide) (hs : ∀ x, foldedSetIterable iter X.env x = pure x := by intro _; rfl) :
    PE X (.ListComp elt [⟨tg, iter, ifs, 0⟩] scope pos) (RdE X.K W (lcF it g tt te (own.map (·.2)))) := pe_imp (pe_lc hc hN hi ok hgt ht he hs) fun σ H Q m => lcImp hg his m
variable {i : Nat} {y : Str} {py : Pos}
theorem s_lcV (hg : TgW X.K g gt is) (hc : X.calm = true) (hN : X.N.Nodup) (hsw : swapsWith (.ListComp elt [⟨tg, iter, ifs, 0⟩] scope pos) (some (.Name y py)) spos.line X.env = pure true) (hi : PI X tg iter (RdI X.K W it)) (ok : BlkOk X.N X.env.scope scope own)
    (hgt : ∀ (s : Shared) (H : Hp) (C : Addr) (cl : List (Str × Addr)) (fp : List Addr), PG (X.blk s H scope (compEnvC scope cl C X.env) fp) tg gt) (ht : ∀ (s : Shared) (H : Hp) (C : Addr) (cl : List (Str × Addr)) (fp : List Addr), PTs (X.blk s H scope (compEnvC scope cl C X.env) fp) ifs (RdT X.K W0 tt))
    (he : ∀ (s : Shared) (H : Hp) (C : Addr) (cl : List (Str × Addr)) (fp : List Addr), PE (X.blk s H scope (compEnvC scope cl C X.env) fp) elt (RdE X.K W0 te)) (hy : X.N[i]? = some y := by rfl) (hyl : X.env.scope.names.lookup y = some .local := by rfl) (his : ∀ i ∈ is, i ∈ own.map (·.2) := by decide) (hs : ∀ x, foldedSetIterable iter X.env x = pure x := by intro _; rfl) :
    PS X (.Assign [.Name y py] (.ListComp elt [⟨tg, iter, ifs, 0⟩] scope pos) spos) (RdS X.K W (asV i (lcF it g tt te (own.map (·.2))))) := by
  refine ps_imp (ps_setLc hc hN hy hyl hsw hi ok hgt ht he hs) fun D σ H m => ?_
  exact lcImp hg his (asVImp m : RdE X.K W (lcF it g tt te (own.map (·.2))) σ H fun x H1 => gName i x σ H1 D.nx)
end
end PyD

namespace PyD
open PySem PySem.Spec L2
section
variable {K : PySem.W.Frag} {U : Addr → Prop} {H H' : Hp} {d a b c : D} {ds : List D} {v : V} {vs : List V} {X : Cx}
theorem ar0 (h : ARepL K U H [] vs) : vs = [] := h
theorem ar1 (h : ARepL K U H [a] vs) : ∃ v, vs = [v] ∧ ARep K U H a v := by
  obtain ⟨v, us, e, h1, h2⟩ := h
  rw [ar0 h2] at e
  exact ⟨v, e, h1⟩
theorem ar2 (h : ARepL K U H [a, b] vs) : ∃ v w, vs = [v, w] ∧ ARep K U H a v ∧ ARep K U H b w := by
  obtain ⟨v, us, e, h1, h2⟩ := h
  obtain ⟨w, e2, h3⟩ := ar1 h2
  rw [e2] at e
  exact ⟨v, w, e, h1, h3⟩
theorem ar3 (h : ARepL K U H [a, b, c] vs) : ∃ v w x, vs = [v, w, x] ∧ ARep K U H a v ∧ ARep K U H b w ∧ ARep K U H c x := by
  obtain ⟨v, us, e, h1, h2⟩ := h
  obtain ⟨w, x, e2, h3, h4⟩ := ar2 h2
  rw [e2] at e
  exact ⟨v, w, x, e, h1, h3, h4⟩
theorem arInt {i : Int} (h : ARep K U H (.int i) v) : v = .int i := by unfold ARep Rep at h; exact h
theorem arBl {i : Bool} (h : ARep K U H (.bl i) v) : v = .bl i := by unfold ARep Rep at h; exact h
theorem arStr {i : Str} (h : ARep K U H (.str i) v) : v = .str i := by unfold ARep Rep at h; exact h
theorem arNon (h : ARep K U H .non v) : v = .non := by unfold ARep Rep at h; exact h
theorem arTup (h : ARep K U H (.tup ds) v) : ∃ p vs, v = .ref p ∧ ¬ U p ∧ H p = some (.tup vs) ∧ RepL K U H ds vs := by unfold ARep Rep at h; exact h
theorem arLst (h : ARep K U H (.lst ds) v) : ∃ p vs, v = .ref p ∧ H p = some (.lst vs) ∧ RepL K U H ds vs := h
theorem arDic {kvs : List (Key × D)} (h : ARep K U H (.dic kvs) v) : ∃ p ws, v = .ref p ∧ H p = some (.dK ws) ∧ RepK K U H kvs ws := h
theorem arExn {C : XN} {fs : List (Str × D)} (h : ARep K U H (.exn C fs) v) : ∃ p, v = .ref p := by
  unfold ARep Rep at h
  obtain ⟨a, _, _, _, e, _⟩ := h
  exact ⟨a, e⟩
theorem arScr {ns : List Int} (h : ARep K U H (.scr ns) v) : ∃ p, v = .ref p ∧ SqL K H p (ns.map V.int) := by
  unfold ARep Rep at h
  obtain ⟨p, e, c⟩ := h
  refine ⟨p, e, ?_⟩
  rcases c with ⟨_, o, c⟩ | c
  · exact .inl (.inr ⟨o, c⟩)
  · exact .inr c
theorem repInt {i : Int} : Rep K U H (.int i) (.int i) := by unfold Rep; rfl
theorem repBl {i : Bool} : Rep K U H (.bl i) (.bl i) := by unfold Rep; rfl
theorem repStr {i : Str} : Rep K U H (.str i) (.str i) := by unfold Rep; rfl
theorem repNon : Rep K U H .non .non := by unfold Rep; rfl
theorem Ext.refl (H : Hp) : Ext H H := fun _ _ h => h
theorem repLExt (x : Ext H H') (r : RepL K U H ds vs) : RepL K U H' ds vs := RepL.to (fun a o e n => ⟨x a o e, n⟩) ds vs r
theorem toNew {p : Addr} {o : HO} (hp : H p = none) : ∀ a x, H a = some x → ¬ U a → upd H p o a = some x ∧ ¬ (U a ∨ a = p) := fun a x e n => ⟨ext_new hp a x e, fun z => by
  rcases z with z | z
  · exact n z
  · rw [z, hp] at e; cases e⟩
theorem newLst {p : Addr} (hp : H p = none) (r : RepL K U H ds vs) : Fresh K U H (upd H p (.lst vs)) (.lst ds) (.ref p) :=
  ⟨p, rfl, hp, ⟨vs, upd_same, RepL.to (toNew hp) _ _ r⟩, rfl⟩
theorem newTup {p : Addr} (hU : ∀ a, U a → H a ≠ none) (hp : H p = none) (r : RepL K U H ds vs) : Rep K U (upd H p (.tup vs)) (.tup ds) (.ref p) := by
  unfold Rep
  exact ⟨p, vs, rfl, fun z => hU p z hp, upd_same, repLExt (ext_new hp) r⟩
theorem RepL.app {es : List D} : ∀ {ds : List D} {vs us : List V}, RepL K U H ds vs → RepL K U H es us → RepL K U H (ds ++ es) (vs ++ us)
  | [], vs, us, h, r => by
    unfold RepL at h
    subst h
    exact r
  | d :: ds, vs, us, h, r => by
    unfold RepL at h
    obtain ⟨v, ws, e, h1, h2⟩ := h
    subst e
    show RepL K U H (d :: (ds ++ es)) (v :: (ws ++ us))
    unfold RepL
    exact ⟨v, ws ++ us, rfl, h1, RepL.app h2 r⟩
theorem RepL.get : ∀ {ds : List D} {vs : List V} {i : Nat} {d : D}, RepL K U H ds vs → ds[i]? = some d → ∃ v, vs[i]? = some v ∧ Rep K U H d v
  | [], _, i, d, _, e => by cases e
  | d :: ds, vs, 0, _, h, e => by
    unfold RepL at h
    obtain ⟨v, ws, e1, h1, h2⟩ := h
    subst e1
    cases e
    exact ⟨v, rfl, h1⟩
  | d :: ds, vs, i + 1, _, h, e => by
    unfold RepL at h
    obtain ⟨v, ws, e1, h1, h2⟩ := h
    subst e1
    exact RepL.get (i := i) h2 e
theorem RepL.drop : ∀ {ds : List D} {vs : List V} (n : Nat), RepL K U H ds vs → RepL K U H (ds.drop n) (vs.drop n)
  | ds, vs, 0, h => h
  | [], vs, n + 1, h => by
    unfold RepL at h
    subst h
    show RepL K U H [] []
    unfold RepL
    rfl
  | d :: ds, vs, n + 1, h => by
    unfold RepL at h
    obtain ⟨v, ws, e1, h1, h2⟩ := h
    subst e1
    exact RepL.drop n h2
theorem RepL.take : ∀ {ds : List D} {vs : List V} (n : Nat), RepL K U H ds vs → RepL K U H (ds.take n) (vs.take n)
  | ds, vs, 0, h => by
    show RepL K U H [] []
    unfold RepL
    rfl
  | [], vs, n + 1, h => by
    unfold RepL at h
    subst h
    show RepL K U H [] []
    unfold RepL
    rfl
  | d :: ds, vs, n + 1, h => by
    unfold RepL at h
    obtain ⟨v, ws, e1, h1, h2⟩ := h
    subst e1
    show RepL K U H (d :: ds.take n) (v :: ws.take n)
    unfold RepL
    exact ⟨v, ws.take n, rfl, h1, RepL.take n h2⟩
theorem RepL.nil : RepL K U H [] [] := by unfold RepL; rfl
theorem RepL.cons {w : V} (h : Rep K U H d w) (r : RepL K U H ds vs) : RepL K U H (d :: ds) (w :: vs) := by
  unfold RepL
  exact ⟨w, vs, rfl, h, r⟩
theorem RepL.inv (h : RepL K U H (d :: ds) vs) : ∃ v us, vs = v :: us ∧ Rep K U H d v ∧ RepL K U H ds us := by unfold RepL at h; exact h
theorem RepL.nil_inv (h : RepL K U H [] vs) : vs = [] := by unfold RepL at h; exact h
theorem RepL.set {d : D} {w : V} : ∀ {ds : List D} {vs : List V} (i : Nat), RepL K U H ds vs → Rep K U H d w → RepL K U H (ds.set i d) (vs.set i w)
  | [], vs, i, h, _ => by rw [h.nil_inv]; exact RepL.nil
  | e :: ds, vs, 0, h, r => by
    obtain ⟨v, us, rfl, h1, h2⟩ := h.inv
    exact RepL.cons r h2
  | e :: ds, vs, i + 1, h, r => by
    obtain ⟨v, us, rfl, h1, h2⟩ := h.inv
    exact RepL.cons h1 (RepL.set i h2 r)
theorem RepL.eraseIdx : ∀ {ds : List D} {vs : List V} (i : Nat), RepL K U H ds vs → RepL K U H (ds.eraseIdx i) (vs.eraseIdx i)
  | [], vs, i, h => by rw [h.nil_inv]; exact RepL.nil
  | e :: ds, vs, 0, h => by
    obtain ⟨v, us, rfl, h1, h2⟩ := h.inv
    exact h2
  | e :: ds, vs, i + 1, h => by
    obtain ⟨v, us, rfl, h1, h2⟩ := h.inv
    exact RepL.cons h1 (RepL.eraseIdx i h2)
theorem RepL.rep {ds : List D} {vs : List V} (h : RepL K U H ds vs) : ∀ k : Nat, RepL K U H (List.replicate k ds).flatten (List.replicate k vs).flatten
  | 0 => RepL.nil
  | k + 1 => by
    rw [List.replicate_succ, List.replicate_succ, List.flatten_cons, List.flatten_cons]
    exact RepL.app h (RepL.rep h k)
theorem RepL.ints : ∀ {ns : List Int} {vs : List V}, RepL K U H (ns.map D.int) vs → vs = ns.map V.int
  | [], vs, h => h.nil_inv
  | n :: ns, vs, h => by
    obtain ⟨v, us, rfl, h1, h2⟩ := RepL.inv h
    unfold Rep at h1
    rw [h1, RepL.ints h2]
    rfl
theorem RepL.strs : ∀ {ns : List Str} {vs : List V}, RepL K U H (ns.map D.str) vs → vs = ns.map V.str
  | [], vs, h => h.nil_inv
  | n :: ns, vs, h => by
    obtain ⟨v, us, rfl, h1, h2⟩ := RepL.inv h
    unfold Rep at h1
    rw [h1, RepL.strs h2]
    rfl
theorem RepL.bls : ∀ {ns : List Bool} {vs : List V}, RepL K U H (ns.map D.bl) vs → vs = ns.map V.bl
  | [], vs, h => h.nil_inv
  | n :: ns, vs, h => by
    obtain ⟨v, us, rfl, h1, h2⟩ := RepL.inv h
    unfold Rep at h1
    rw [h1, RepL.bls h2]
    rfl
theorem RepL.ofInts : ∀ (ns : List Int), RepL K U H (ns.map D.int) (ns.map V.int)
  | [] => RepL.nil
  | n :: ns => RepL.cons repInt (RepL.ofInts ns)
end
noncomputable def asInts : List D → Option (List Int)
  | [] => some []
  | .int i :: ds => (asInts ds).map (i :: ·)
  | _ => none
noncomputable def asStrs : List D → Option (List Str)
  | [] => some []
  | .str i :: ds => (asStrs ds).map (i :: ·)
  | _ => none
noncomputable def asBls : List D → Option (List Bool)
  | [] => some []
  | .bl i :: ds => (asBls ds).map (i :: ·)
  | _ => none
theorem asInts_of : ∀ {ds : List D} {ns : List Int}, asInts ds = some ns → ds = ns.map D.int
  | [], ns, h => by cases h; rfl
  | .int i :: ds, ns, h => by
    unfold asInts at h
    cases q : asInts ds with
    | none => rw [q] at h; cases h
    | some l => rw [q] at h; cases h; rw [asInts_of q]; rfl
  | .non :: _, _, h => by cases h
  | .bl _ :: _, _, h => by cases h
  | .str _ :: _, _, h => by cases h
  | .tup _ :: _, _, h => by cases h
  | .lst _ :: _, _, h => by cases h
  | .dic _ :: _, _, h => by cases h
  | .obj _ _ :: _, _, h => by cases h
  | .scr _ :: _, _, h => by cases h
  | .exn _ _ :: _, _, h => by cases h
  | .adr _ _ :: _, _, h => by cases h
theorem asStrs_of : ∀ {ds : List D} {ns : List Str}, asStrs ds = some ns → ds = ns.map D.str
  | [], ns, h => by cases h; rfl
  | .str i :: ds, ns, h => by
    unfold asStrs at h
    cases q : asStrs ds with
    | none => rw [q] at h; cases h
    | some l => rw [q] at h; cases h; rw [asStrs_of q]; rfl
  | .non :: _, _, h => by cases h
  | .bl _ :: _, _, h => by cases h
  | .int _ :: _, _, h => by cases h
  | .tup _ :: _, _, h => by cases h
  | .lst _ :: _, _, h => by cases h
  | .dic _ :: _, _, h => by cases h
  | .obj _ _ :: _, _, h => by cases h
  | .scr _ :: _, _, h => by cases h
  | .exn _ _ :: _, _, h => by cases h
  | .adr _ _ :: _, _, h => by cases h
theorem asBls_of : ∀ {ds : List D} {ns : List Bool}, asBls ds = some ns → ds = ns.map D.bl
  | [], ns, h => by cases h; rfl
  | .bl i :: ds, ns, h => by
    unfold asBls at h
    cases q : asBls ds with
    | none => rw [q] at h; cases h
    | some l => rw [q] at h; cases h; rw [asBls_of q]; rfl
  | .non :: _, _, h => by cases h
  | .int _ :: _, _, h => by cases h
  | .str _ :: _, _, h => by cases h
  | .tup _ :: _, _, h => by cases h
  | .lst _ :: _, _, h => by cases h
  | .dic _ :: _, _, h => by cases h
  | .obj _ _ :: _, _, h => by cases h
  | .scr _ :: _, _, h => by cases h
  | .exn _ _ :: _, _, h => by cases h
  | .adr _ _ :: _, _, h => by cases h
@[simp] theorem asInts_map : ∀ (ns : List Int), asInts (ns.map D.int) = some ns
  | [] => rfl
  | n :: ns => by
    show (asInts (ns.map D.int)).map (n :: ·) = _
    rw [asInts_map ns]
    rfl
@[simp] theorem asStrs_map : ∀ (ns : List Str), asStrs (ns.map D.str) = some ns
  | [] => rfl
  | n :: ns => by
    show (asStrs (ns.map D.str)).map (n :: ·) = _
    rw [asStrs_map ns]
    rfl
@[simp] theorem asBls_map : ∀ (ns : List Bool), asBls (ns.map D.bl) = some ns
  | [] => rfl
  | n :: ns => by
    show (asBls (ns.map D.bl)).map (n :: ·) = _
    rw [asBls_map ns]
    rfl
noncomputable def addD : List D → Option (Bool × D)
  | [.int a, .int b] => some (false, .int (a + b))
  | [.int a, .bl b] => some (false, .int (a + PyProof.Rows.b2i b))
  | [.str a, .str b] => if a.length + b.length ≤ sizeLine then some (false, .str (a ++ b)) else none
  | [.lst a, .lst b] => if a.length + b.length ≤ sizeLine then some (true, .lst (a ++ b)) else none
  | [.tup a, .tup b] => if a.length + b.length ≤ sizeLine then some (false, .tup (a ++ b)) else none
  | _ => none
noncomputable def rAddU (K : PySem.W.Frag) : R2 := fun x y H Q => (rI0 (fun i j => .int (i + j)) x y H Q) ∨ (∃ i k, x = .int i ∧ y = .bl k ∧ Q (.int (i + PyProof.Rows.b2i k)) H) ∨ (∃ i j, x = .str i ∧ y = .str j ∧ i.length + j.length ≤ sizeLine ∧ Q (.str (i ++ j)) H) ∨ rCat x y H Q ∨ rCatA K x y H Q
theorem op_addU {X : Cx} : OpR X (binaryOp .Add) (rAddU X.K) := OpR.or op_add (OpR.or op_add_ib (OpR.or op_add_str (OpR.or op_cat op_catA)))
theorem prim_add {K : PySem.W.Frag} : Prim K (r2 (rAddU K)) addD := by
  intro U H ds vs Q b d hU ar e post
  unfold addD at e
  split at e
  · obtain ⟨v, w, rfl, h1, h2⟩ := ar2 ar
    cases e
    rw [arInt h1, arInt h2]
    exact ⟨_, _, rfl, .inl ⟨_, _, rfl, rfl, post _ H (Ext.refl H) (fun _ => repInt) (fun z => by cases z)⟩⟩
  · obtain ⟨v, w, rfl, h1, h2⟩ := ar2 ar
    cases e
    rw [arInt h1, arBl h2]
    exact ⟨_, _, rfl, .inr (.inl ⟨_, _, rfl, rfl, post _ H (Ext.refl H) (fun _ => repInt) (fun z => by cases z)⟩)⟩
  · obtain ⟨v, w, rfl, h1, h2⟩ := ar2 ar
    split at e
    · rename_i q
      cases e
      rw [arStr h1, arStr h2]
      exact ⟨_, _, rfl, .inr (.inr (.inl ⟨_, _, rfl, rfl, q, post _ H (Ext.refl H) (fun _ => repStr) (fun z => by cases z)⟩))⟩
    · cases e
  · obtain ⟨v, w, rfl, h1, h2⟩ := ar2 ar
    split at e
    · rename_i q
      cases e
      obtain ⟨p1, xs, rfl, q1, r1⟩ := arLst h1
      obtain ⟨p2, ys, rfl, q2, r2⟩ := arLst h2
      refine ⟨_, _, rfl, .inr (.inr (.inr (.inl ⟨p1, p2, xs, ys, rfl, rfl, q1, q2, by rw [r1.len, r2.len]; exact q, fun p hp => ?_⟩)))⟩
      exact post _ _ (ext_new hp) (fun z => by cases z) (fun _ => newLst hp (RepL.app r1 r2))
    · cases e
  · obtain ⟨v, w, rfl, h1, h2⟩ := ar2 ar
    split at e
    · rename_i q
      cases e
      obtain ⟨p1, xs, rfl, n1, q1, r1⟩ := arTup h1
      obtain ⟨p2, ys, rfl, n2, q2, r2⟩ := arTup h2
      refine ⟨_, _, rfl, .inr (.inr (.inr (.inr ⟨p1, p2, xs, ys, rfl, rfl, SqT.of q1, SqT.of q2, by rw [r1.len, r2.len]; exact q, fun z => ?_, fun z1 z2 => ?_, fun z1 z2 p hp => ?_⟩)))⟩
      · have e0 := r1.len
        rw [z] at e0
        have e1 := List.eq_nil_of_length_eq_zero e0.symm
        subst e1
        exact post _ H (Ext.refl H) (fun _ => h2) (fun z => by cases z)
      · have e0 := r2.len
        rw [z2] at e0
        have e1 := List.eq_nil_of_length_eq_zero e0.symm
        subst e1
        rw [List.append_nil] at post
        exact post _ H (Ext.refl H) (fun _ => h1) (fun z => by cases z)
      · exact post _ _ (ext_new hp) (fun _ => newTup hU hp (RepL.app r1 r2)) (fun z => by cases z)
    · cases e
  · cases e
noncomputable def int2 (f : Int → Int → Option D) : List D → Option (Bool × D)
  | [.int a, .int b] => (f a b).map fun d => (false, d)
  | _ => none
noncomputable def subD : List D → Option (Bool × D) := int2 fun a b => some (.int (a - b))
noncomputable def modD : List D → Option (Bool × D) := int2 fun a b => if 0 < b then some (.int (a % b)) else none
noncomputable def fdvD : List D → Option (Bool × D) := int2 fun a b => if 0 < b ∧ b.natAbs.log2 ≤ 8000 then some (.int (a / b)) else none
noncomputable def powD : List D → Option (Bool × D) := int2 fun a b => if 0 ≤ b ∧ b ≤ 1000 ∧ a.natAbs < 2 ^ 64 then some (.int (a ^ b.toNat)) else none
theorem prim_int2 {K : PySem.W.Frag} {C : Int → Int → Prop} {f : Int → Int → Option D} {g : Int → Int → V} (h : ∀ a b d, f a b = some d → C a b ∧ ∀ U H, Rep K U H d (g a b)) : Prim K (r2 (rI C g)) (int2 f) := by
  intro U H ds vs Q b d hU ar e post
  unfold int2 at e
  split at e
  · rename_i x y
    obtain ⟨v, w, rfl, h1, h2⟩ := ar2 ar
    cases q : f x y with
    | none => rw [q] at e; cases e
    | some d' =>
      rw [q] at e
      cases e
      obtain ⟨c, r⟩ := h x y _ q
      rw [arInt h1, arInt h2]
      exact ⟨_, _, rfl, _, _, rfl, rfl, c, post _ H (Ext.refl H) (fun _ => r U H) (fun z => by cases z)⟩
  · cases e
theorem op_subU {X : Cx} : OpR X (binaryOp .Sub) (rI (fun _ _ => True) fun i j => .int (i - j)) := fun pins s σ H x y v u Q I rx ry ⟨i, j, h1, h2, _, q⟩ => op_sub pins s σ H x y v u Q I rx ry ⟨i, j, h1, h2, q⟩
theorem prim_sub {K : PySem.W.Frag} : Prim K (r2 (rI (fun _ _ => True) fun i j => .int (i - j))) subD := prim_int2 fun a b d e => by
  cases e
  exact ⟨trivial, fun _ _ => repInt⟩
theorem prim_mod {K : PySem.W.Frag} : Prim K (r2 (rI (fun _ j => 0 < j) fun i j => .int (i % j))) modD := prim_int2 fun a b d e => by
  split at e
  · rename_i q
    cases e
    exact ⟨q, fun _ _ => repInt⟩
  · cases e
theorem prim_fdv {K : PySem.W.Frag} : Prim K (r2 (rI CDivW fun i j => .int (i / j))) fdvD := prim_int2 fun a b d e => by
  split at e
  · rename_i q
    cases e
    exact ⟨⟨q.1, Nat.lt_of_le_of_lt q.2 (by decide)⟩, fun _ _ => repInt⟩
  · cases e
noncomputable def mulOk (a b : Int) : Prop := (-(2 ^ 64) < a ∧ a < 2 ^ 64) ∨ (-(2 ^ 64) < b ∧ b < 2 ^ 64)
noncomputable instance (a b : Int) : Decidable (mulOk a b) := by unfold mulOk; infer_instance
noncomputable def mulD : List D → Option (Bool × D)
  | [.int a, .int b] => if mulOk a b then some (false, .int (a * b)) else none
  | [.lst a, .int k] => if -(2 ^ 63) ≤ k ∧ k < 2 ^ 63 ∧ a.length * k.toNat ≤ sizeLine then some (true, .lst (List.replicate k.toNat a).flatten) else none
  | [.tup a, .int k] => if a.length ≤ 1000 ∧ 0 < a.length ∧ 2 ≤ k ∧ k ≤ 1000 then some (false, .tup (List.replicate k.toNat a).flatten) else none
  | [.str a, .int k] => if a.length ≤ 1000 ∧ -1000 ≤ k ∧ k ≤ 1000 then some (false, .str ⟨(List.replicate k.toNat a.cps.toList).flatten.toArray⟩) else none
  | _ => none
theorem foldl_cps (l : List Nat) : ∀ (k : Nat) (acc : List Nat), List.foldl (fun x1 x2 => x1 ++ x2) acc.toArray (List.replicate k l.toArray) = (acc ++ (List.replicate k l).flatten).toArray
  | 0, acc => by simp
  | k + 1, acc => by
    rw [List.replicate_succ, List.foldl_cons]
    have : acc.toArray ++ l.toArray = (acc ++ l).toArray := by simp
    rw [this, foldl_cps l k, List.replicate_succ, List.flatten_cons, List.append_assoc]
noncomputable def rRepS : R2 := fun x y H Q => ∃ a k, x = .str a ∧ y = .int k ∧ a.length ≤ 1000 ∧ -1000 ≤ k ∧ k ≤ 1000 ∧ Q (.str ⟨(List.replicate k.toNat a.cps.toList).flatten.toArray⟩) H
theorem rep_len (l : List Nat) : ∀ k : Nat, (List.replicate k l).flatten.length = k * l.length
  | 0 => by simp
  | k + 1 => by
    rw [List.replicate_succ, List.flatten_cons, List.length_append, rep_len l k, Nat.succ_mul, Nat.add_comm]
theorem op_repS {X : Cx} : OpR X (binaryOp .Mult) rRepS := by
  intro pins s σ H x y v u Q I rx ry h
  obtain ⟨a, k, rfl, rfl, h1, h2, h3, q⟩ := h
  obtain ⟨t, rfl⟩ := rx
  obtain ⟨t2, rfl⟩ := ry
  have szl : sizeLine = 16777216 := rfl
  have hal : a.length = a.cps.toList.length := by
    unfold Str.length
    rw [Array.length_toList]
  have prod : a.length * k.toNat ≤ 1000 * 1000 := Nat.mul_le_mul h1 (by omega)
  refine PySem.P.mul_str (by rw [decide_eq_false (by omega), decide_eq_false (by omega)] <;> rfl) (fun g1 _ g2 => ?_) (fun g1 _ => ?_) ?_
  · have : (1000 : Int) ≤ (2 ^ 63 - 1) / k := by
      rw [Int.le_ediv_iff_mul_le (by omega)]
      have : 1000 * k ≤ 1000 * 1000 := by omega
      omega
    omega
  · unfold Builtin.Str.tooLong
    exact decide_eq_false (by omega)
  · have fin : ∀ z : Str, z = ⟨(List.replicate k.toNat a.cps.toList).flatten.toArray⟩ → ∀ (tk t' : Nat), EP X pins σ Q (.str z tk) { s with toks := t' } := fun z ez tk t' => by
      rw [ez]
      exact ⟨.str _, H, I.tok t', ⟨tk, rfl⟩, q⟩
    split
    · rename_i g
      have k0 : k.toNat = 0 := by omega
      refine ⟨by decide, fin _ ?_ _ _⟩
      rw [k0]
      rfl
    · rename_i g
      split
      · rename_i g2
        have e : a = ⟨(List.replicate k.toNat a.cps.toList).flatten.toArray⟩ := by
          rcases Bool.or_eq_true_iff.mp g2 with g3 | g3
          · have k1 : k = 1 := eq_of_beq g3
            subst k1
            show a = ⟨(List.replicate 1 a.cps.toList).flatten.toArray⟩
            simp
          · have l0 : a.length = 0 := eq_of_beq g3
            have c0 : a.cps.toList = [] := List.eq_nil_of_length_eq_zero (by rw [← hal]; exact l0)
            rw [c0]
            have : (List.replicate k.toNat ([] : List Nat)).flatten = [] := List.eq_nil_of_length_eq_zero (by rw [rep_len]; simp)
            rw [this]
            cases a with
            | mk c =>
              have : c = #[] := by
                have := c0
                cases c
                simp_all
              rw [this]
        exact fin a e t s.toks
      · have eq0 := foldl_cps a.cps.toList k.toNat []
        have e2 : (List.replicate k.toNat a.cps).foldl (fun x1 x2 => x1 ++ x2) #[] = (List.replicate k.toNat a.cps.toList).flatten.toArray := by
          have : a.cps.toList.toArray = a.cps := by simp
          rw [this] at eq0
          simpa using eq0
        refine ⟨?_, fin _ ?_ _ _⟩
        · show ((List.replicate k.toNat a.cps).foldl (fun x1 x2 => x1 ++ x2) #[]).size ≤ sizeLine
          rw [e2, List.size_toArray, rep_len, ← hal, Nat.mul_comm]
          omega
        · exact congrArg Str.mk e2
noncomputable def rMulU (K : PySem.W.Frag) : R2 := fun x y H Q => rI CMul (fun i j => .int (i * j)) x y H Q ∨ rRep x y H Q ∨ rRepT K x y H Q ∨ rRepS x y H Q
theorem op_mulU {X : Cx} : OpR X (binaryOp .Mult) (rMulU X.K) := OpR.or op_mul (OpR.or op_rep (OpR.or op_repT op_repS))
theorem prim_mul {K : PySem.W.Frag} : Prim K (r2 (rMulU K)) mulD := by
  intro U H ds vs Q b d hU ar e post
  unfold mulD at e
  split at e
  · obtain ⟨v, w, rfl, h1, h2⟩ := ar2 ar
    split at e
    · rename_i q
      cases e
      rw [arInt h1, arInt h2]
      exact ⟨_, _, rfl, .inl ⟨_, _, rfl, rfl, q, post _ H (Ext.refl H) (fun _ => repInt) (fun z => by cases z)⟩⟩
    · cases e
  · obtain ⟨v, w, rfl, h1, h2⟩ := ar2 ar
    split at e
    · rename_i q
      cases e
      obtain ⟨p1, xs, rfl, q1, r1⟩ := arLst h1
      rw [arInt h2]
      refine ⟨_, _, rfl, .inr (.inl ⟨p1, _, xs, rfl, rfl, q1, q.1, q.2.1, by rw [r1.len]; exact q.2.2, fun p hp => ?_⟩)⟩
      exact post _ _ (ext_new hp) (fun z => by cases z) (fun _ => newLst hp (RepL.rep r1 _))
    · cases e
  · obtain ⟨v, w, rfl, h1, h2⟩ := ar2 ar
    split at e
    · rename_i q
      cases e
      obtain ⟨p1, xs, rfl, n1, q1, r1⟩ := arTup h1
      rw [arInt h2]
      refine ⟨_, _, rfl, .inr (.inr (.inl ⟨p1, _, xs, rfl, rfl, SqT.of q1, ?_, q.2.2.1, q.2.2.2, by rw [r1.len]; exact q.1, fun p hp => ?_⟩))⟩
      · intro z
        have := r1.len
        rw [z] at this
        have := q.2.1
        simp at *
        omega
      · exact post _ _ (ext_new hp) (fun _ => newTup hU hp (RepL.rep r1 _)) (fun z => by cases z)
    · cases e
  · obtain ⟨v, w, rfl, h1, h2⟩ := ar2 ar
    split at e
    · rename_i q
      cases e
      rw [arStr h1, arInt h2]
      exact ⟨_, _, rfl, .inr (.inr (.inr ⟨_, _, rfl, rfl, q.1, q.2.1, q.2.2, post _ H (Ext.refl H) (fun _ => repStr) (fun z => by cases z)⟩))⟩
    · cases e
  · cases e
noncomputable def negD : List D → Option (Bool × D)
  | [.int a] => some (false, .int (-a))
  | _ => none
theorem prim_neg {K : PySem.W.Frag} : Prim K (r1 (rU fun i => .int (-i))) negD := by
  intro U H ds vs Q b d hU ar e post
  unfold negD at e
  split at e
  · obtain ⟨v, rfl, h1⟩ := ar1 ar
    cases e
    rw [arInt h1]
    exact ⟨_, rfl, _, rfl, post _ H (Ext.refl H) (fun _ => repInt) (fun z => by cases z)⟩
  · cases e
mutual
noncomputable def toPy : D → Option PyData
  | .non => some .none
  | .bl b => some (.bool b)
  | .int i => some (.int i)
  | .str s => some (.str s)
  | .tup ds => (toPyL ds).map .tuple
  | .lst ds => (toPyL ds).map .list
  | .dic _ => none
  | .obj _ _ => none
  | .scr _ => none
  | .exn _ _ => none
  | .adr _ _ => none
  | .ow _ => none
noncomputable def toPyL : List D → Option (List PyData)
  | [] => some []
  | d :: ds => match toPy d with
    | some p => (match toPyL ds with
      | some ps => some (p :: ps)
      | none => none)
    | none => none
end
section
variable {K : PySem.W.Frag} {U : Addr → Prop} {H H' : Hp}
mutual
theorem dp_of : ∀ {d : D} {v : V} {p : PyData}, Rep K U H d v → toPy d = some p → Dp K H v p
  | .non, v, p, r, e => by
    unfold Rep at r
    unfold toPy at e
    cases e
    rw [r]
    exact .non
  | .bl _, v, p, r, e => by
    unfold Rep at r
    unfold toPy at e
    cases e
    rw [r]
    exact .bl _
  | .int _, v, p, r, e => by
    unfold Rep at r
    unfold toPy at e
    cases e
    rw [r]
    exact .int _
  | .str _, v, p, r, e => by
    unfold Rep at r
    unfold toPy at e
    cases e
    rw [r]
    exact .str _
  | .tup ds, v, p, r, e => by
    unfold Rep at r
    unfold toPy at e
    obtain ⟨a, vs, e1, _, ha, rl⟩ := r
    cases q : toPyL ds with
    | none => rw [q] at e; cases e
    | some ps =>
      rw [q] at e
      cases e
      rw [e1]
      exact .tup (SqT.of ha) (dpL_of rl q)
  | .lst ds, v, p, r, e => by
    unfold Rep at r
    unfold toPy at e
    obtain ⟨a, vs, e1, _, ha, rl⟩ := r
    cases q : toPyL ds with
    | none => rw [q] at e; cases e
    | some ps =>
      rw [q] at e
      cases e
      rw [e1]
      exact .lst (SqL.of ha) (dpL_of rl q)
  | .dic _, _, _, _, e => by unfold toPy at e; cases e
  | .obj _ _, _, _, _, e => by unfold toPy at e; cases e
  | .scr _, _, _, _, e => by unfold toPy at e; cases e
  | .exn _ _, _, _, _, e => by unfold toPy at e; cases e
  | .adr _ _, _, _, _, e => by unfold toPy at e; cases e
  | .ow _, _, _, _, e => by unfold toPy at e; cases e
theorem dpL_of : ∀ {ds : List D} {vs : List V} {ps : List PyData}, RepL K U H ds vs → toPyL ds = some ps → DpAll K H vs ps
  | [], vs, ps, r, e => by
    unfold toPyL at e
    cases e
    rw [r.nil_inv]
    exact .nil
  | d :: ds, vs, ps, r, e => by
    unfold RepL at r
    obtain ⟨v, us, e1, h1, h2⟩ := r
    unfold toPyL at e
    cases q : toPy d with
    | none => rw [q] at e; cases e
    | some p =>
      rw [q] at e
      dsimp only at e
      cases q2 : toPyL ds with
      | none => rw [q2] at e; cases e
      | some ps' =>
        rw [q2] at e
        cases e
        rw [e1]
        exact .cons (dp_of h1 q) (dpL_of h2 q2)
end
theorem adp_of {d : D} {v : V} {p : PyData} (r : ARep K U H d v) (e : toPy d = some p) : Dp K H v p := by
  cases d with
  | lst ds =>
    obtain ⟨a, vs, e1, ha, rl⟩ := r
    unfold toPy at e
    cases q : toPyL ds with
    | none => rw [q] at e; cases e
    | some ps =>
      rw [q] at e
      cases e
      rw [e1]
      exact .lst (SqL.of ha) (dpL_of rl q)
  | dic _ => unfold toPy at e; cases e
  | obj _ _ => unfold toPy at e; cases e
  | scr _ => unfold toPy at e; cases e
  | exn _ _ => unfold toPy at e; cases e
  | adr _ => unfold toPy at e; cases e
  | ow _ => unfold toPy at e; cases e
  | non => exact dp_of (U := U) (d := .non) r e
  | bl _ => exact dp_of (U := U) (d := .bl _) r e
  | int _ => exact dp_of (U := U) (d := .int _) r e
  | str _ => exact dp_of (U := U) (d := .str _) r e
  | tup _ => exact dp_of (U := U) (d := .tup _) r e
end
noncomputable def eqD (a b : D) : Option Bool := match toPy a, toPy b with
  | some p, some q => if SeqAt.shaped p = true ∧ SeqAt.shaped q = true then some (PyData.eqv p q) else none
  | _, _ => none
noncomputable def eqOp (n : Bool) : List D → Option (Bool × D)
  | [a, b] => (eqD a b).map fun k => (false, .bl (k != n))
  | _ => none
noncomputable def rEqU (K : PySem.W.Frag) (n : Bool) : R2 := fun x y H Q => ∃ d e, Dp K H x d ∧ Dp K H y e ∧ SeqAt.shaped d = true ∧ SeqAt.shaped e = true ∧ Q (.bl (PyData.eqv d e != n)) H
theorem op_eqU {X : Cx} (hu : X.A.units + 64 < cLine) : OpR X (compareOp .Eq) (rEqU X.K false) := fun pins s σ H x y v u Q I rx ry ⟨d, e, h1, h2, h3, h4, q⟩ => op_eqD hu pins s σ H x y v u Q I rx ry ⟨d, e, h1, h2, h3, h4, by simpa using q⟩
theorem op_neU {X : Cx} (hu : X.A.units + 64 < cLine) : OpR X (compareOp .NotEq) (rEqU X.K true) := fun pins s σ H x y v u Q I rx ry ⟨d, e, h1, h2, h3, h4, q⟩ => op_neD hu pins s σ H x y v u Q I rx ry ⟨d, e, h1, h2, h3, h4, by simpa using q⟩
theorem prim_eq {K : PySem.W.Frag} {n : Bool} : Prim K (r2 (rEqU K n)) (eqOp n) := by
  intro U H ds vs Q b d hU ar e post
  unfold eqOp at e
  split at e
  · rename_i x y
    obtain ⟨v, w, rfl, h1, h2⟩ := ar2 ar
    unfold eqD at e
    split at e
    · rename_i p q hp hq
      split at e
      · rename_i c
        cases e
        exact ⟨_, _, rfl, p, q, adp_of h1 hp, adp_of h2 hq, c.1, c.2, post _ H (Ext.refl H) (fun _ => repBl) (fun z => by cases z)⟩
      · cases e
    · cases e
  · cases e
noncomputable def ordD (f : Int → Int → Bool) (g : List Nat → List Nat → Bool) : List D → Option (Bool × D)
  | [.int a, .int b] => some (false, .bl (f a b))
  | [.str a, .str b] => some (false, .bl (g a.cps.toList b.cps.toList))
  | _ => none
noncomputable def rOrdU (f : Int → Int → Bool) (g : List Nat → List Nat → Bool) : R2 := fun x y H Q => rI0 (fun i j => .bl (f i j)) x y H Q ∨ ∃ i j, x = .str i ∧ y = .str j ∧ Q (.bl (g i.cps.toList j.cps.toList)) H
theorem op_ltU {X : Cx} : OpR X (compareOp .Lt) (rOrdU (fun i j => decide (i < j)) fun i j => decide (i < j)) := OpR.or op_lt op_lt_str
theorem op_leU {X : Cx} : OpR X (compareOp .LtE) (rOrdU (fun i j => decide (i ≤ j)) fun i j => !decide (j < i)) := OpR.or op_le op_le_str
theorem op_gtU {X : Cx} : OpR X (compareOp .Gt) (rOrdU (fun i j => decide (j < i)) fun i j => decide (j < i)) := OpR.or op_gt op_gt_str
theorem prim_ord {K : PySem.W.Frag} {f : Int → Int → Bool} {g : List Nat → List Nat → Bool} : Prim K (r2 (rOrdU f g)) (ordD f g) := by
  intro U H ds vs Q b d hU ar e post
  unfold ordD at e
  split at e
  · obtain ⟨v, w, rfl, h1, h2⟩ := ar2 ar
    cases e
    rw [arInt h1, arInt h2]
    exact ⟨_, _, rfl, .inl ⟨_, _, rfl, rfl, post _ H (Ext.refl H) (fun _ => repBl) (fun z => by cases z)⟩⟩
  · obtain ⟨v, w, rfl, h1, h2⟩ := ar2 ar
    cases e
    rw [arStr h1, arStr h2]
    exact ⟨_, _, rfl, .inr ⟨_, _, rfl, rfl, post _ H (Ext.refl H) (fun _ => repBl) (fun z => by cases z)⟩⟩
  · cases e
noncomputable abbrev ltD := ordD (fun i j => decide (i < j)) fun i j => decide (i < j)
noncomputable abbrev gtD := ordD (fun i j => decide (j < i)) fun i j => decide (j < i)
noncomputable def isB : D → D → Option Bool
  | .non, .non => some true
  | _, .non => some false
  | .bl a, .bl b => some (a == b)
  | .non, .bl _ => none
  | _, _ => none
noncomputable def isOp (n : Bool) : List D → Option (Bool × D)
  | [a, b] => (isB a b).map fun k => (false, .bl (k != n))
  | _ => none
noncomputable def rIsU (n : Bool) : R2 := fun x y H Q => (y = .non ∧ Q (.bl (decide (x = .non) != n)) H) ∨ ∃ a b : Bool, x = .bl a ∧ y = .bl b ∧ Q (.bl (decide (a = b) != n)) H
theorem op_isU {X : Cx} : OpR X (compareOp .Is) (rIsU false) := fun pins s σ H x y v u Q I rx ry h => by
  rcases h with ⟨h, q⟩ | ⟨a, b, h1, h2, q⟩
  · exact op_isN pins s σ H x y v u Q I rx ry ⟨h, by simpa using q⟩
  · exact op_isBl pins s σ H x y v u Q I rx ry ⟨a, b, h1, h2, by simpa using q⟩
theorem op_isnU {X : Cx} : OpR X (compareOp .IsNot) (rIsU true) := fun pins s σ H x y v u Q I rx ry h => by
  rcases h with ⟨h, q⟩ | ⟨a, b, h1, h2, q⟩
  · exact op_notN pins s σ H x y v u Q I rx ry ⟨h, by simpa using q⟩
  · exact op_notBl pins s σ H x y v u Q I rx ry ⟨a, b, h1, h2, by simpa using q⟩
theorem prim_is {K : PySem.W.Frag} {n : Bool} : Prim K (r2 (rIsU n)) (isOp n) := by
  intro U H ds vs Q b d hU ar e post
  unfold isOp at e
  split at e
  · rename_i x y
    obtain ⟨v, w, rfl, h1, h2⟩ := ar2 ar
    cases q : isB x y with
    | none => rw [q] at e; cases e
    | some k =>
      rw [q] at e
      cases e
      have pk := post (.bl (k != n)) H (Ext.refl H) (fun _ => repBl) (fun z => by cases z)
      refine ⟨v, w, rfl, ?_⟩
      unfold isB at q
      split at q
      · cases q
        refine .inl ⟨arNon h2, ?_⟩
        rw [arNon h1, decide_eq_true rfl]
        exact pk
      · rename_i hne
        cases q
        refine .inl ⟨arNon h2, ?_⟩
        rw [decide_eq_false]
        · exact pk
        · intro z
          subst z
          apply hne
          cases x with
          | non => rfl
          | bl _ => exact absurd (arBl h1) (by intro z; cases z)
          | int _ => exact absurd (arInt h1) (by intro z; cases z)
          | str _ => exact absurd (arStr h1) (by intro z; cases z)
          | tup _ => obtain ⟨_, _, z, _⟩ := arTup h1; cases z
          | lst _ => obtain ⟨_, _, z, _⟩ := arLst h1; cases z
          | dic _ => obtain ⟨_, _, z, _⟩ := arDic h1; cases z
          | scr _ => obtain ⟨_, z, _⟩ := arScr h1; cases z
          | exn _ _ => obtain ⟨_, z⟩ := arExn h1; cases z
          | adr _ _ => exact absurd (show V.non = V.ref _ ∧ _ from h1).1 (by intro z; cases z)
          | ow _ => exact absurd rfl (HdN.ne h1)
          | obj _ _ => obtain ⟨_, _, _, _, z, _⟩ := h1; cases z
      · rename_i a' b'
        cases q
        refine .inr ⟨a', b', arBl h1, arBl h2, ?_⟩
        have : decide (a' = b') = (a' == b') := by cases a' <;> cases b' <;> rfl
        rw [this]
        exact pk
      · cases q
      · cases q
  · cases e
end PyD

namespace PyD
open PySem PySem.Spec L2
noncomputable def lenD : List D → Option (Bool × D)
  | [.str s] => if s.length ≤ sizeLine then some (false, .int s.length) else none
  | [.lst ds] => some (false, .int ds.length)
  | [.tup ds] => some (false, .int ds.length)
  | [.scr ns] => some (false, .int ns.length)
  | [.dic ds] => some (false, .int ds.length)
  | _ => none
noncomputable def rLenU (K : PySem.W.Frag) : List V → Hp → VK → Prop := fun xs H Q => (∃ x n, xs = [x] ∧ LenV K x H n ∧ Q (.int n) H) ∨ ∃ a kvs, xs = [V.ref a] ∧ H a = some (.dK kvs) ∧ Q (.int kvs.length) H
theorem cr_lenU {X : Cx} : CallR X (.builtin "len") (rLenU X.K) := CallR_or call_len call_lenD
theorem RepK.len {K : PySem.W.Frag} {U : Addr → Prop} {H : Hp} : ∀ {ds : List (Key × D)} {vs : List (Key × V)}, RepK K U H ds vs → vs.length = ds.length
  | [], vs, h => by
    unfold RepK at h
    rw [h] <;> rfl
  | (k, d) :: ds, vs, h => by
    unfold RepK at h
    obtain ⟨v, us, e, _, r⟩ := h
    rw [e, List.length_cons, List.length_cons, RepK.len r]
theorem prim_len {K : PySem.W.Frag} : Prim K (rLenU K) lenD := by
  intro U H ds vs Q b d hU ar e post
  unfold lenD at e
  split at e
  · obtain ⟨v, rfl, h1⟩ := ar1 ar
    split at e
    · rename_i q
      cases e
      rw [arStr h1]
      exact .inl ⟨_, _, rfl, ⟨q, rfl⟩, post _ H (Ext.refl H) (fun _ => repInt) (fun z => by cases z)⟩
    · cases e
  · obtain ⟨v, rfl, h1⟩ := ar1 ar
    cases e
    obtain ⟨p, xs, rfl, hp, r⟩ := arLst h1
    exact .inl ⟨_, xs.length, rfl, .inl ⟨xs, SqL.of hp, rfl⟩, by rw [r.len]; exact post _ H (Ext.refl H) (fun _ => repInt) (fun z => by cases z)⟩
  · obtain ⟨v, rfl, h1⟩ := ar1 ar
    cases e
    obtain ⟨p, xs, rfl, _, hp, r⟩ := arTup h1
    exact .inl ⟨_, xs.length, rfl, .inr ⟨xs, SqT.of hp, rfl⟩, by rw [r.len]; exact post _ H (Ext.refl H) (fun _ => repInt) (fun z => by cases z)⟩
  · rename_i ns
    obtain ⟨v, rfl, h1⟩ := ar1 ar
    cases e
    obtain ⟨p, rfl, hp⟩ := arScr h1
    exact .inl ⟨_, _, rfl, .inl ⟨_, hp, rfl⟩, by rw [List.length_map]; exact post _ H (Ext.refl H) (fun _ => repInt) (fun z => by cases z)⟩
  · obtain ⟨v, rfl, h1⟩ := ar1 ar
    cases e
    obtain ⟨p, xs, rfl, hp, r⟩ := arDic h1
    exact .inr ⟨p, xs, rfl, hp, by rw [r.len]; exact post _ H (Ext.refl H) (fun _ => repInt) (fun z => by cases z)⟩
  · cases e
noncomputable def ixD : List D → Option (Bool × D)
  | [.lst ds, .int i] => (atI ds i).map fun d => (false, d)
  | [.tup ds, .int i] => (atI ds i).map fun d => (false, d)
  | [.str s, .int i] => if s.length ≤ sizeLine then (atI s.cps.toList i).map fun c => (false, .str ⟨#[c]⟩) else none
  | [.scr ns, .int i] => (atI ns i).map fun n => (false, .int n)
  | _ => none
theorem atI_rep {K : PySem.W.Frag} {U : Addr → Prop} {H : Hp} {ds : List D} {vs : List V} {i : Int} {d : D} (r : RepL K U H ds vs) (h : atI ds i = some d) : ∃ v, atI vs i = some v ∧ Rep K U H d v := by
  unfold atI at h ⊢
  rw [r.len]
  cases q : ixN ds.length i with
  | none => rw [q] at h; cases h
  | some j =>
    rw [q] at h
    exact RepL.get r h
theorem atI_map {α β : Type} {f : α → β} {l : List α} {i : Int} : atI (l.map f) i = (atI l i).map f := by
  unfold atI
  rw [List.length_map]
  cases ixN l.length i with
  | none => rfl
  | some j =>
    show (l.map f)[j]? = (l[j]?).map f
    rw [List.getElem?_map]
theorem prim_ix {K : PySem.W.Frag} : Prim K (r2 (rIx K)) ixD := by
  intro U H ds vs Q b d hU ar e post
  unfold ixD at e
  split at e
  · rename_i xs i
    obtain ⟨v, w, rfl, h1, h2⟩ := ar2 ar
    obtain ⟨p, ys, rfl, hp, r⟩ := arLst h1
    rw [arInt h2]
    cases q : atI xs i with
    | none => rw [q] at e; cases e
    | some d' =>
      rw [q] at e
      cases e
      obtain ⟨v, hv, rv⟩ := atI_rep r q
      exact ⟨_, _, rfl, .inl ⟨p, ys, i, v, rfl, rfl, SqL.of hp, hv, post v H (Ext.refl H) (fun _ => rv) (fun z => by cases z)⟩⟩
  · rename_i xs i
    obtain ⟨v, w, rfl, h1, h2⟩ := ar2 ar
    obtain ⟨p, ys, rfl, _, hp, r⟩ := arTup h1
    rw [arInt h2]
    cases q : atI xs i with
    | none => rw [q] at e; cases e
    | some d' =>
      rw [q] at e
      cases e
      obtain ⟨v, hv, rv⟩ := atI_rep r q
      exact ⟨_, _, rfl, .inr (.inl ⟨p, ys, i, v, rfl, rfl, SqT.of hp, hv, post v H (Ext.refl H) (fun _ => rv) (fun z => by cases z)⟩)⟩
  · rename_i s i
    obtain ⟨v, w, rfl, h1, h2⟩ := ar2 ar
    rw [arStr h1, arInt h2]
    split at e
    · rename_i hl
      cases q : atI s.cps.toList i with
      | none => rw [q] at e; cases e
      | some c =>
        rw [q] at e
        cases e
        exact ⟨_, _, rfl, .inr (.inr ⟨s, i, c, rfl, rfl, hl, q, post _ H (Ext.refl H) (fun _ => repStr) (fun z => by cases z)⟩)⟩
    · cases e
  · rename_i ns i
    obtain ⟨v, w, rfl, h1, h2⟩ := ar2 ar
    obtain ⟨p, rfl, hp⟩ := arScr h1
    rw [arInt h2]
    cases q : atI ns i with
    | none => rw [q] at e; cases e
    | some c =>
      rw [q] at e
      cases e
      exact ⟨_, _, rfl, .inl ⟨p, _, i, .int c, rfl, rfl, hp, by rw [atI_map, q] <;> rfl, post _ H (Ext.refl H) (fun _ => repInt) (fun z => by cases z)⟩⟩
  · cases e
noncomputable def cutL {α : Type} (xs : List α) (lo hi : Option Int) : List α := (xs.drop (HT.sIx xs.length 0 lo)).take (HT.sIx xs.length xs.length hi - HT.sIx xs.length 0 lo)
noncomputable def slD : D → Option Int → Option Int → Option (Bool × D)
  | .lst ds, lo, hi => some (true, .lst (cutL ds lo hi))
  | .tup ds, lo, hi => some (false, .tup (cutL ds lo hi))
  | .str s, lo, hi => if s.length ≤ sizeLine then some (false, .str ⟨(cutL s.cps.toList lo hi).toArray⟩) else none
  | .scr ns, lo, hi => some (true, .lst ((cutL ns lo hi).map .int))
  | _, _, _ => none
noncomputable def rSlU (K : PySem.W.Frag) : V → Option Int → Option Int → Hp → VK → Prop := fun x lo hi H Q => rSlL K x lo hi H Q ∨ rSlA K x lo hi H Q ∨ rSlS x lo hi H Q
theorem sl_U {X : Cx} : SlR X (rSlU X.K) := SlR.or sl_list (SlR.or sl_tupA sl_str)
theorem RepL.cut {K : PySem.W.Frag} {U : Addr → Prop} {H : Hp} {ds : List D} {vs : List V} (r : RepL K U H ds vs) (lo hi : Option Int) : RepL K U H (cutL ds lo hi) (cutV vs lo hi) := by
  unfold cutL cutV
  rw [r.len]
  exact RepL.take _ (RepL.drop _ r)
theorem cutS_eq (s : Str) (lo hi : Option Int) : cutS s lo hi = ⟨(cutL s.cps.toList lo hi).toArray⟩ := by
  unfold cutS cutL Str.length
  simp [clipS_eq]
theorem cutV_ints (ns : List Int) (lo hi : Option Int) : cutV (ns.map V.int) lo hi = (cutL ns lo hi).map V.int := by
  unfold cutV cutL
  rw [List.length_map, List.map_take, List.map_drop]
theorem prim_sl {K : PySem.W.Frag} : PrimSl K (rSlU K) slD := by
  intro U H d v lo hi Q b d' hU ar e post
  unfold slD at e
  split at e
  · cases e
    obtain ⟨p, ys, rfl, hp, r⟩ := arLst ar
    exact .inl ⟨p, ys, rfl, SqL.of hp, fun q hq => post _ _ (ext_new hq) (fun z => by cases z) (fun _ => newLst hq (r.cut lo hi))⟩
  · cases e
    obtain ⟨p, ys, rfl, _, hp, r⟩ := arTup ar
    refine .inr (.inl ⟨p, ys, rfl, SqT.of hp, fun z => ?_, fun z q hq => post _ _ (ext_new hq) (fun _ => newTup hU hq (r.cut lo hi)) (fun z => by cases z)⟩)
    have : ∀ {α : Type} (l : List α), HT.sIx l.length 0 lo = 0 ∧ HT.sIx l.length l.length hi = l.length → cutL l lo hi = l := fun l z => by
      unfold cutL
      rw [z.1, z.2]
      simp
    rw [r.len] at z
    rw [this _ z] at post
    exact post _ H (Ext.refl H) (fun _ => ar) (fun z => by cases z)
  · split at e
    · rename_i q
      cases e
      rw [arStr ar]
      exact .inr (.inr ⟨_, rfl, q, by rw [cutS_eq]; exact post _ H (Ext.refl H) (fun _ => repStr) (fun z => by cases z)⟩)
    · cases e
  · cases e
    obtain ⟨p, rfl, hp⟩ := arScr ar
    refine .inl ⟨p, _, rfl, hp, fun q hq => post _ _ (ext_new hq) (fun z => by cases z) (fun _ => newLst hq ?_)⟩
    rw [cutV_ints]
    exact RepL.ofInts _
  · cases e
noncomputable def flatS : D → Bool
  | .non => true
  | .bl _ => true
  | .int _ => true
  | .str _ => true
  | _ => false
noncomputable def eqS : D → D → Bool
  | .non, .non => true
  | .bl a, .bl b => a == b
  | .bl a, .int b => (if a then 1 else 0) == b
  | .int a, .bl b => a == (if b then 1 else 0)
  | .int a, .int b => a == b
  | .str a, .str b => a == b
  | _, _ => false
noncomputable def inS (a b : Str) : Bool := !(Builtin.Str.occurrences b a 0 b.length 1).isEmpty
noncomputable def inOp (n : Bool) : List D → Option (Bool × D)
  | [x, .lst ds] => if flatS x = true ∧ ds.all flatS = true then some (false, .bl ((ds.any fun y => eqS y x) != n)) else none
  | [x, .tup ds] => if flatS x = true ∧ ds.all flatS = true then some (false, .bl ((ds.any fun y => eqS y x) != n)) else none
  | [.str a, .str b] => some (false, .bl (inS a b != n))
  | _ => none
noncomputable def rInU (K : PySem.W.Frag) (n : Bool) : R2 := fun x y H Q => rIn K n x y H Q ∨ ∃ i j, x = .str i ∧ y = .str j ∧ Q (.bl (inS i j != n)) H
theorem op_inU {X : Cx} : OpR X (compareOp .In) (rInU X.K false) := OpR.or op_in_seq (fun pins s σ H x y v u Q I rx ry ⟨i, j, h1, h2, q⟩ => op_in_str pins s σ H x y v u Q I rx ry ⟨i, j, h1, h2, by unfold inS at q; simpa using q⟩)
theorem op_niU {X : Cx} : OpR X (compareOp .NotIn) (rInU X.K true) := OpR.or op_notIn_seq (fun pins s σ H x y v u Q I rx ry ⟨i, j, h1, h2, q⟩ => op_notin_str pins s σ H x y v u Q I rx ry ⟨i, j, h1, h2, by unfold inS at q; simpa using q⟩)
section
variable {K : PySem.W.Frag} {U : Addr → Prop} {H H' : Hp}
theorem flatS_v : ∀ {d : D} {v : V}, flatS d = true → ARep K U H d v → flatV v = true
  | .non, v, _, r => by rw [arNon r] <;> rfl
  | .bl _, v, _, r => by rw [arBl r] <;> rfl
  | .int _, v, _, r => by rw [arInt r] <;> rfl
  | .str _, v, _, r => by rw [arStr r] <;> rfl
  | .tup _, _, h, _ => by cases h
  | .lst _, _, h, _ => by cases h
  | .dic _, _, h, _ => by cases h
  | .obj _ _, _, h, _ => by cases h
  | .scr _, _, h, _ => by cases h
  | .exn _ _, _, h, _ => by cases h
  | .adr _ _, _, h, _ => by cases h
theorem eqS_v {d e : D} {v w : V} (h1 : flatS d = true) (h2 : flatS e = true) (r1 : ARep K U H d v) (r2 : ARep K U H e w) : eqV v w = eqS d e := by
  cases d <;> cases e <;> first
    | (cases h1; done)
    | (cases h2; done)
    | skip
  all_goals (first | rw [arNon r1] | rw [arBl r1] | rw [arInt r1] | rw [arStr r1])
  all_goals (first | rw [arNon r2] | rw [arBl r2] | rw [arInt r2] | rw [arStr r2])
  all_goals rfl
theorem inV_of {x : D} {w : V} (hx : flatS x = true) (rx : ARep K U H x w) : ∀ {ds : List D} {vs : List V}, ds.all flatS = true → RepL K U H ds vs → vs.all flatV = true ∧ inV w vs = ds.any fun y => eqS y x
  | [], vs, _, r => by
    rw [r.nil_inv]
    exact ⟨rfl, rfl⟩
  | d :: ds, vs, h, r => by
    obtain ⟨v, us, rfl, h1, h2⟩ := r.inv
    rw [List.all_cons, Bool.and_eq_true] at h
    obtain ⟨q1, q2⟩ := inV_of hx rx h.2 h2
    refine ⟨by rw [List.all_cons, flatS_v h.1 h1.arep, q1] <;> rfl, ?_⟩
    unfold inV at q2 ⊢
    rw [List.any_cons, List.any_cons, q2, eqS_v h.1 hx h1.arep rx]
end
theorem prim_in {K : PySem.W.Frag} {n : Bool} : Prim K (r2 (rInU K n)) (inOp n) := by
  intro U H ds vs Q b d hU ar e post
  have nb : ∀ k : Bool, (if n then !k else k) = (k != n) := fun k => by cases n <;> cases k <;> rfl
  unfold inOp at e
  split at e
  · obtain ⟨v, w, rfl, h1, h2⟩ := ar2 ar
    split at e
    · rename_i q
      cases e
      obtain ⟨p, ys, rfl, hp, r⟩ := arLst h2
      obtain ⟨q1, q2⟩ := inV_of q.1 h1 q.2 r
      exact ⟨_, _, rfl, .inl ⟨p, ys, rfl, .inl (SqL.of hp), flatS_v q.1 h1, q1, by rw [q2, nb]; exact post _ H (Ext.refl H) (fun _ => repBl) (fun z => by cases z)⟩⟩
    · cases e
  · obtain ⟨v, w, rfl, h1, h2⟩ := ar2 ar
    split at e
    · rename_i q
      cases e
      obtain ⟨p, ys, rfl, _, hp, r⟩ := arTup h2
      obtain ⟨q1, q2⟩ := inV_of q.1 h1 q.2 r
      exact ⟨_, _, rfl, .inl ⟨p, ys, rfl, .inr (SqT.of hp), flatS_v q.1 h1, q1, by rw [q2, nb]; exact post _ H (Ext.refl H) (fun _ => repBl) (fun z => by cases z)⟩⟩
    · cases e
  · obtain ⟨v, w, rfl, h1, h2⟩ := ar2 ar
    cases e
    rw [arStr h1, arStr h2]
    exact ⟨_, _, rfl, .inr ⟨_, _, rfl, rfl, post _ H (Ext.refl H) (fun _ => repBl) (fun z => by cases z)⟩⟩
  · cases e
noncomputable def tyD : D → Option String
  | .non => some "NoneType"
  | .bl _ => some "bool"
  | .int _ => some "int"
  | .str _ => some "str"
  | .tup _ => some "tuple"
  | .lst _ => some "list"
  | .dic _ => some "dict"
  | .scr _ => none
  | .exn _ _ => none
  | .adr _ _ => none
  | .obj _ _ => none
  | .ow _ => none
noncomputable def isTy (t T : String) : Bool := t == T || (t == "bool" && T == "int")
theorem kit_all : ∀ t ∈ ["NoneType", "bool", "int", "str", "tuple", "list", "dict"], ∀ T ∈ ["int", "bool", "str", "tuple", "list"], kitB t T = some (isTy t T) := by decide +kernel
noncomputable def okTy (T : String) : Bool := ["int", "bool", "str", "tuple", "list"].contains T
noncomputable def isiD (T : String) : List D → Option (Bool × D)
  | [d] => match tyD d with
    | some t => some (false, .bl (isTy t T))
    | none => none
  | _ => none
theorem tyD_of {K : PySem.W.Frag} {U : Addr → Prop} {H : Hp} : ∀ {d : D} {v : V} {t : String}, ARep K U H d v → tyD d = some t → TyX K H v (.type t)
  | .non, v, t, r, e => by cases e; rw [arNon r]; exact .base .non
  | .bl _, v, t, r, e => by cases e; rw [arBl r]; exact .base (.bl _)
  | .int _, v, t, r, e => by cases e; rw [arInt r]; exact .base (.int _)
  | .str _, v, t, r, e => by cases e; rw [arStr r]; exact .base (.str _)
  | .tup _, v, t, r, e => by cases e; obtain ⟨p, xs, rfl, _, hp, _⟩ := arTup r; exact .base (.tup hp)
  | .lst _, v, t, r, e => by cases e; obtain ⟨p, xs, rfl, hp, _⟩ := arLst r; exact .base (.lst hp)
  | .dic _, v, t, r, e => by cases e; obtain ⟨p, xs, rfl, hp, _⟩ := arDic r; exact .base (.dK hp)
  | .obj _ _, _, _, _, e => by cases e
  | .scr _, _, _, _, e => by cases e
  | .exn _ _, _, _, _, e => by cases e
  | .adr _ _, _, _, _, e => by cases e
  | .ow _, _, _, _, e => by cases e
theorem tyD_mem : ∀ {d : D} {t : String}, tyD d = some t → t ∈ ["NoneType", "bool", "int", "str", "tuple", "list", "dict"] := fun {d t} e => by
  cases d <;> cases e <;> decide
theorem isiImp {K : PySem.W.Frag} {W : WX} {T : String} {fa : M R} {σ : L2.St} {H : Hp} {Q : VK} (hT : okTy T = true) (m : RdE K W (opF (isiD T) (one fa)) σ H Q) : tCB (rIsi K) (tCons (RdE K W fa) (tCons (tC (.ty T)) tNil)) σ H Q := by
  have hp : Prim K (fun vs H Q => ∃ x, vs = [x] ∧ rIsi K [x, .ty T] H Q) (isiD T) := by
    intro U H ds vs Q b d hU ar e post
    unfold isiD at e
    split at e
    · rename_i d0
      obtain ⟨v, rfl, h1⟩ := ar1 ar
      cases q : tyD d0 with
      | none => rw [q] at e; cases e
      | some t =>
        rw [q] at e
        cases e
        have hT' : T ∈ ["int", "bool", "str", "tuple", "list"] := by
          unfold okTy at hT
          exact List.contains_iff_mem.mp hT
        exact ⟨v, rfl, v, .ty T, .type t, .type T, _, rfl, .ty T, tyD_of h1 q, kit_ty (kit_all t (tyD_mem q) T hT'), post _ H (Ext.refl H) (fun _ => repBl) (fun z => by cases z)⟩
    · cases e
  refine RdE.mono (fun x H1 q => ?_) (imp1 (opImp hp m))
  obtain ⟨x', e, z⟩ := q
  cases e
  exact z
theorem e_isi {X : Cx} {W : WX} {p p2 pos : Pos} {a : Expr} {fa : M R} {x : Str} {T : String} (hg : Gl X "isinstance") (hm : X.mg "isinstance" = none) (hg2 : Gl X x) (hm2 : X.mg x = none) (hv2 : bootBuiltins x = some (.type T)) (hT : okTy T = true) (ha : PE X a (RdE X.K W fa))
    (hn : x ≠ "__name__" := by decide) (hd : (x == ("__debug__" : Str)) = false := by decide)
    (he : starEach [a, .Name x p2] X.env = (false, eval a X.env) :: starEach [.Name x p2] X.env := by rfl) (he2 : starEach [.Name x p2] X.env = (false, eval (.Name x p2) X.env) :: starEach [] X.env := by rfl) (hpl : (backTo pos (starEach [.Name x p2] X.env)).any (·.1) = false := by rfl) :
    PE X (.Call (.Name "isinstance" p) [a, .Name x p2] [] pos) (RdE X.K W (opF (isiD T) (one fa))) :=
  pe_imp (pe_callB call_isi hg hm PyProof.Rows.boot_isinstance (pa_cons ha (pa_cons (pe_bltn (v := .ty T) hg2 hm2 hv2 rfl hn hd) pa_nil he2) he) (by decide) (by decide) he hpl) fun σ H Q m => isiImp hT m
noncomputable def bmF (isT : D → Bool) (g : List D → Option (Bool × D)) (fo : M R) (fs : M (List R)) : M R := fun en => match fo en with
  | .ok r en1 => (match rsl en1 r with
    | some d0 => (match isT d0 with
      | true => (match fs en1 with
        | .ok rs en2 => (match rsls en2 (r :: rs) with
          | some ds => (match g ds with
            | some (b, d) => .ok (mkR b d) en2
            | none => .bad)
          | none => .bad)
        | .exc x en2 => .exc x en2
        | .bad => .bad)
      | false => .bad)
    | none => .bad)
  | .exc x en1 => .exc x en1
  | .bad => .bad
noncomputable def isStr : D → Bool
  | .str _ => true
  | _ => false
noncomputable def TyA (K : PySem.W.Frag) (T : String) (isT : D → Bool) : Prop := ∀ (U : Addr → Prop) (H : Hp) (d : D) (v : V), isT d = true → ARep K U H d v → tyV K T v H
theorem ta_str {K : PySem.W.Frag} : TyA K "str" isStr := fun U H d v h r => by
  cases d with
  | str s => rw [arStr r] <;> rfl
  | _ => cases h
noncomputable def rM (r : V → List V → Hp → VK → Prop) : List V → Hp → VK → Prop := fun vs H Q => ∃ x xs, vs = x :: xs ∧ r x xs H Q
theorem bmImp {K : PySem.W.Frag} {W : WX} {T : String} {isT : D → Bool} {g : List D → Option (Bool × D)} {fo : M R} {fs : M (List R)} {r : V → List V → Hp → VK → Prop} {σ : L2.St} {H : Hp} {Q : VK} (hT : TyA K T isT) (hp : Prim K (rM r) g) (m : RdE K W (bmF isT g fo fs) σ H Q) :
    tBM K T r (RdE K W fo) (RdA K W fs) σ H Q := by
  obtain ⟨B, en, G, m⟩ := m
  refine ⟨B, en, G, ?_⟩
  unfold bmF at m
  cases e1 : fo en with
  | bad => rw [e1] at m; exact m
  | exc x en1 => rw [e1] at m; exact m
  | ok r0 en1 =>
    rw [e1] at m
    dsimp only at m ⊢
    intro v H1 ⟨B1, b1, G1, ra, fn⟩ st1
    cases e2 : rsl en1 r0 with
    | none => rw [e2] at m; exact m.elim
    | some d0 =>
      rw [e2] at m
      dsimp only at m
      cases e3 : isT d0 with
      | false => rw [e3] at m; exact m.elim
      | true =>
        rw [e3] at m
        dsimp only at m
        refine ⟨hT _ _ _ _ e3 (ArgR.arep G1 ra e2), B1, en1, G1, ?_⟩
        cases e4 : fs en1 with
        | bad => rw [e4] at m; exact m
        | exc x en2 => rw [e4] at m; exact fun c od H' ex g st => m c od H' (ex.mono fun a z => Un.mono b1.up z) (g.mono b1.up) (st1.trans st)
        | ok rs en2 =>
          rw [e4] at m
          dsimp only at m ⊢
          intro vs H2 ⟨B2, b2, G2, ra2, fn2⟩ st2
          cases e5 : rsls en2 (r0 :: rs) with
          | none => rw [e5] at m; exact m.elim
          | some ds =>
            rw [e5] at m
            dsimp only at m
            cases e6 : g ds with
            | none => rw [e6] at m; exact m.elim
            | some bd =>
              obtain ⟨b, d⟩ := bd
              rw [e6] at m
              dsimp only at m
              have ra' : ArgRs K B2 σ en2 H2 (r0 :: rs) (v :: vs) := ArgRs.cons' G1 st2 b2 ra ra2 fn2
              have fin : rM r (v :: vs) H2 Q := hp (Un B2 H2 σ en2) H2 ds (v :: vs) Q b d (fun a => G2.unAt) (ArgRs.arep G2 ra' e5) e6 fun v' H4 x4 h1 h2 => by
                have st4 := ((st1.trans st2).trans (Stp.ext G2 x4))
                have oi := G2.ownIff (H' := H4) (fun a o _ => x4 a o)
                have bb := b1.trans st1 b2
                cases b with
                | false => exact m v' H4 ⟨B2, bb, G2.ext0 x4, Rep.to (fun a o x n => ⟨x, fun z => n (z.imp id (oi a).mp)⟩) _ _ (h1 rfl), trivial⟩ st4
                | true =>
                  obtain ⟨p, ep, np, c, fl⟩ := h2 rfl
                  obtain ⟨o, ho⟩ := c.at
                  have hp0 : H p = none := Classical.byContradiction fun z => (st1.trans st2).al p z np
                  refine m v' H4 ⟨fun x => B2 x ∨ x = p, bb.trans (st1.trans st2) (bxNew np), G2.ext x4 (fun a h => ?_), ⟨p, ep, fun a r => .inr (Rch.flat fl r), Cont.to (fun a o x n => ⟨x, fun q => n ((un_or q).imp (fun z => z.imp id (oi a).mp) id)⟩) (fun _ _ _ x => x) c⟩, ?_⟩ st4
                  · rcases h with h | h
                    · exact .inl h
                    · rw [h, ho]; exact .inr ⟨np, by simp⟩
                  · intro q a e r
                    rw [ep] at e
                    cases e
                    rw [Rch.flat fl r]
                    exact .inl hp0
              obtain ⟨x, xs, ex, q⟩ := fin
              cases ex
              exact q
theorem e_bm {X : Cx} {W : WX} {o e : Expr} {es : List Expr} {fo : M R} {fs : M (List R)} {name : Str} {apos cpos : Pos} {T id : String} {r : V → List V → Hp → VK → Prop} {isT : D → Bool} {g : List D → Option (Bool × D)} (hT : TyA X.K T isT) (hp : Prim X.K (rM r) g) (pa : PlainAttrs T) (slot : Slot T name id) (hty : typeOf (.builtin id) = pure (.type "method_descriptor")) (hm : MtR X id r) (ho : PE X o (RdE X.K W fo)) (ha : PA X (e :: es) (RdA X.K W fs))
    (hbase : attributeBase o name X.env (eval o X.env) = eval o X.env := by rfl)
    (hfew : ((backTo cpos (starEach (e :: es) X.env)).all (fun x => !x.1) && (backToKw cpos (keywordEach [] X.env)).all (fun x => x.1.isSome)
      && decide ((e :: es).length + ([] : List Keyword).length + (if ([] : List Keyword).isEmpty then 0 else 1) < 30)) = true := by rfl)
    (hline : (apos.endLine == cpos.line) = true := by rfl) (hs : starEach (e :: es) X.env = (false, eval e X.env) :: starEach es X.env := by rfl) (hplain : (backTo cpos (starEach es X.env)).any (·.1) = false := by rfl) :
    PE X (.Call (.Attribute o name apos) (e :: es) [] cpos) (RdE X.K W (bmF isT g fo fs)) :=
  pe_imp (pe_bm pa slot hty hm ho ha hbase hfew hline hs hplain) fun σ H Q m => bmImp hT hp m
noncomputable def joinD : List D → Option (Bool × D)
  | [.str a, .lst ds] => match asStrs ds with
    | some ys => if (ys.map (·.length)).sum + ys.length * a.length ≤ 16777216 then some (false, .str (Txt.join a ys)) else none
    | none => none
  | [.str a, .tup ds] => match asStrs ds with
    | some ys => if (ys.map (·.length)).sum + ys.length * a.length ≤ 16777216 then some (false, .str (Txt.join a ys)) else none
    | none => none
  | _ => none
noncomputable def rJoin (K : PySem.W.Frag) : V → List V → Hp → VK → Prop := fun x xs H Q => ∃ a p, ∃ ys : List Str, x = .str a ∧ xs = [.ref p] ∧ (SqL K H p (ys.map V.str) ∨ SqT K H p (ys.map V.str)) ∧
    (ys.map (·.length)).sum + ys.length * a.length ≤ 16777216 ∧ Q (.str (Txt.join a ys)) H
theorem prim_join {K : PySem.W.Frag} : Prim K (rM (rJoin K)) joinD := by
  intro U H ds vs Q b d hU ar e post
  unfold joinD at e
  split at e
  · rename_i a xs
    obtain ⟨v, w, rfl, h1, h2⟩ := ar2 ar
    cases q : asStrs xs with
    | none => rw [q] at e; cases e
    | some ys =>
      rw [q] at e
      dsimp only at e
      split at e
      · rename_i hl
        cases e
        obtain ⟨p, us, rfl, hp, r⟩ := arLst h2
        rw [asStrs_of q] at r
        rw [arStr h1]
        exact ⟨_, _, rfl, a, p, ys, rfl, rfl, .inl (by rw [← r.strs]; exact SqL.of hp), hl, post _ H (Ext.refl H) (fun _ => repStr) (fun z => by cases z)⟩
      · cases e
  · rename_i a xs
    obtain ⟨v, w, rfl, h1, h2⟩ := ar2 ar
    cases q : asStrs xs with
    | none => rw [q] at e; cases e
    | some ys =>
      rw [q] at e
      dsimp only at e
      split at e
      · rename_i hl
        cases e
        obtain ⟨p, us, rfl, _, hp, r⟩ := arTup h2
        rw [asStrs_of q] at r
        rw [arStr h1]
        exact ⟨_, _, rfl, a, p, ys, rfl, rfl, .inr (by rw [← r.strs]; exact SqT.of hp), hl, post _ H (Ext.refl H) (fun _ => repStr) (fun z => by cases z)⟩
      · cases e
  · cases e
noncomputable def findD : List D → Option (Bool × D)
  | [.str a, .str b] => some (false, .int (Txt.find a b))
  | [.str a, .str b, .int i] => some (false, .int (Txt.find3 a b i))
  | [.str a, .str b, .int i, .int j] => some (false, .int (Txt.findIn a b i j))
  | _ => none
noncomputable def rFind : V → List V → Hp → VK → Prop := fun x xs H Q => (∃ a b, x = .str a ∧ xs = [.str b] ∧ Q (.int (Txt.find a b)) H) ∨ (∃ (a b : Str) (i : Int), x = .str a ∧ xs = [.str b, .int i] ∧ Q (.int (Txt.find3 a b i)) H) ∨
  (∃ (a b : Str) (i j : Int), x = .str a ∧ xs = [.str b, .int i, .int j] ∧ Q (.int (Txt.findIn a b i j)) H)
theorem mt_findU {X : Cx} : MtR X "str.find" rFind := MtR.or mt_find (MtR.or mt_find3 mt_find4)
theorem prim_find {K : PySem.W.Frag} : Prim K (rM rFind) findD := by
  intro U H ds vs Q b d hU ar e post
  unfold findD at e
  split at e
  · obtain ⟨v, w, rfl, h1, h2⟩ := ar2 ar
    cases e
    rw [arStr h1, arStr h2]
    exact ⟨_, _, rfl, .inl ⟨_, _, rfl, rfl, post _ H (Ext.refl H) (fun _ => repInt) (fun z => by cases z)⟩⟩
  · obtain ⟨v, w, x, rfl, h1, h2, h3⟩ := ar3 ar
    cases e
    rw [arStr h1, arStr h2, arInt h3]
    exact ⟨_, _, rfl, .inr (.inl ⟨_, _, _, rfl, rfl, post _ H (Ext.refl H) (fun _ => repInt) (fun z => by cases z)⟩)⟩
  · obtain ⟨v, us, rfl, h1, h2⟩ := ar
    obtain ⟨w, x, y, rfl, h2, h3, h4⟩ := ar3 h2
    cases e
    rw [arStr h1, arStr h2, arInt h3, arInt h4]
    exact ⟨_, _, rfl, .inr (.inr ⟨_, _, _, _, rfl, rfl, post _ H (Ext.refl H) (fun _ => repInt) (fun z => by cases z)⟩)⟩
  · cases e
noncomputable def listD : List D → Option (Bool × D)
  | [.lst ds] => some (true, .lst ds)
  | [.tup ds] => some (true, .lst ds)
  | [.scr ns] => some (true, .lst (ns.map .int))
  | [.dic kvs] => some (true, .lst (kvs.map fun kv => match kv.1 with | .inl i => .int i | .inr s => .str s))
  | _ => none
noncomputable def rListU (K : PySem.W.Frag) : List V → Hp → VK → Prop := fun xs H Q => (∃ p ys, xs = [.ref p] ∧ (SqL K H p ys ∨ SqT K H p ys) ∧ ∀ l, H l = none → Q (.ref l) (upd H l (.lst ys))) ∨ rListD xs H Q
theorem cr_listU {X : Cx} (hc : X.calm = true) : CallR X (.type "list") (rListU X.K) := CallR_or call_list_of (call_list_dK hc)
theorem RepK.keys {K : PySem.W.Frag} {U : Addr → Prop} {H : Hp} : ∀ {ds : List (Key × D)} {vs : List (Key × V)}, RepK K U H ds vs → RepL K U H (ds.map fun kv => match kv.1 with | .inl i => .int i | .inr s => .str s) (vs.map fun kv => kV kv.1)
  | [], vs, h => by
    unfold RepK at h
    rw [h]
    exact RepL.nil
  | (k, d) :: ds, vs, h => by
    unfold RepK at h
    obtain ⟨v, us, rfl, _, r⟩ := h
    refine RepL.cons ?_ (RepK.keys r)
    cases k with
    | inl i => exact repInt
    | inr s => exact repStr
theorem prim_list {K : PySem.W.Frag} : Prim K (rListU K) listD := by
  intro U H ds vs Q b d hU ar e post
  unfold listD at e
  split at e
  · obtain ⟨v, rfl, h1⟩ := ar1 ar
    cases e
    obtain ⟨p, ys, rfl, hp, r⟩ := arLst h1
    exact .inl ⟨p, ys, rfl, .inl (SqL.of hp), fun q hq => post _ _ (ext_new hq) (fun z => by cases z) (fun _ => newLst hq r)⟩
  · obtain ⟨v, rfl, h1⟩ := ar1 ar
    cases e
    obtain ⟨p, ys, rfl, _, hp, r⟩ := arTup h1
    exact .inl ⟨p, ys, rfl, .inr (SqT.of hp), fun q hq => post _ _ (ext_new hq) (fun z => by cases z) (fun _ => newLst hq r)⟩
  · obtain ⟨v, rfl, h1⟩ := ar1 ar
    cases e
    obtain ⟨p, rfl, hp⟩ := arScr h1
    exact .inl ⟨p, _, rfl, .inl hp, fun q hq => post _ _ (ext_new hq) (fun z => by cases z) (fun _ => newLst hq (RepL.ofInts _))⟩
  · obtain ⟨v, rfl, h1⟩ := ar1 ar
    cases e
    obtain ⟨p, ws, rfl, hp, r⟩ := arDic h1
    exact .inr ⟨p, ws, rfl, hp, fun q hq => post _ _ (ext_new hq) (fun z => by cases z) (fun _ => newLst hq r.keys)⟩
  · cases e
noncomputable def tupleD : List D → Option (Bool × D)
  | [.lst ds] => some (false, .tup ds)
  | [.tup ds] => some (false, .tup ds)
  | _ => none
noncomputable def rTupleU (K : PySem.W.Frag) : List V → Hp → VK → Prop := fun xs H Q => ∃ p ys, xs = [.ref p] ∧ ((SqL K H p ys ∧ ∀ l, H l = none → Q (.ref l) (upd H l (.tup ys))) ∨ (SqT K H p ys ∧ Q (.ref p) H))
theorem prim_tuple {K : PySem.W.Frag} : Prim K (rTupleU K) tupleD := by
  intro U H ds vs Q b d hU ar e post
  unfold tupleD at e
  split at e
  · obtain ⟨v, rfl, h1⟩ := ar1 ar
    cases e
    obtain ⟨p, ys, rfl, hp, r⟩ := arLst h1
    exact ⟨p, ys, rfl, .inl ⟨SqL.of hp, fun q hq => post _ _ (ext_new hq) (fun _ => newTup hU hq r) (fun z => by cases z)⟩⟩
  · obtain ⟨v, rfl, h1⟩ := ar1 ar
    cases e
    obtain ⟨p, ys, rfl, _, hp, r⟩ := arTup h1
    exact ⟨p, ys, rfl, .inr ⟨SqT.of hp, post _ H (Ext.refl H) (fun _ => h1) (fun z => by cases z)⟩⟩
  · cases e
noncomputable def intD : List D → Option (Bool × D)
  | [.int i] => some (false, .int i)
  | [.bl k] => some (false, .int (if k then 1 else 0))
  | [.str a] => match PySem.intText? a with
    | some n => if a.length ≤ 640 then some (false, .int n) else none
    | none => none
  | _ => none
noncomputable def rIntU : List V → Hp → VK → Prop := fun xs H Q => ((∃ i, xs = [.int i] ∧ Q (.int i) H) ∨ ∃ k, xs = [.bl k] ∧ Q (.int (if k then 1 else 0)) H) ∨ ∃ a n, xs = [.str a] ∧ PySem.intText? a = some n ∧ a.length ≤ 640 ∧ Q (.int n) H
theorem cr_intU {X : Cx} : CallR X (.type "int") rIntU := CallR_or call_int1 call_int_str
theorem prim_int {K : PySem.W.Frag} : Prim K rIntU intD := by
  intro U H ds vs Q b d hU ar e post
  unfold intD at e
  split at e
  · obtain ⟨v, rfl, h1⟩ := ar1 ar
    cases e
    rw [arInt h1]
    exact .inl (.inl ⟨_, rfl, post _ H (Ext.refl H) (fun _ => repInt) (fun z => by cases z)⟩)
  · obtain ⟨v, rfl, h1⟩ := ar1 ar
    cases e
    rw [arBl h1]
    exact .inl (.inr ⟨_, rfl, post _ H (Ext.refl H) (fun _ => repInt) (fun z => by cases z)⟩)
  · rename_i a
    obtain ⟨v, rfl, h1⟩ := ar1 ar
    rw [arStr h1]
    cases q : PySem.intText? a with
    | none => rw [q] at e; cases e
    | some n =>
      rw [q] at e
      dsimp only at e
      split at e
      · rename_i hl
        cases e
        exact .inr ⟨a, n, rfl, q, hl, post _ H (Ext.refl H) (fun _ => repInt) (fun z => by cases z)⟩
      · cases e
  · cases e
noncomputable def maxI (i j : Int) : Int := if j > i then j else i
noncomputable def minI (i j : Int) : Int := if j < i then j else i
noncomputable def max2D : List D → Option (Bool × D)
  | [.int i, .int j] => some (false, .int (maxI i j))
  | _ => none
noncomputable def min2D : List D → Option (Bool × D)
  | [.int i, .int j] => some (false, .int (minI i j))
  | _ => none
noncomputable def rMx2 : List V → Hp → VK → Prop := fun xs H Q => ∃ i j, xs = [.int i, .int j] ∧ Q (.int (if j > i then j else i)) H
noncomputable def rMn2 : List V → Hp → VK → Prop := fun xs H Q => ∃ i j, xs = [.int i, .int j] ∧ Q (.int (if j < i then j else i)) H
theorem prim_max2 {K : PySem.W.Frag} : Prim K rMx2 max2D := by
  intro U H ds vs Q b d hU ar e post
  unfold max2D at e
  split at e
  · obtain ⟨v, w, rfl, h1, h2⟩ := ar2 ar
    cases e
    rw [arInt h1, arInt h2]
    exact ⟨_, _, rfl, post _ H (Ext.refl H) (fun _ => repInt) (fun z => by cases z)⟩
  · cases e
theorem prim_min2 {K : PySem.W.Frag} : Prim K rMn2 min2D := by
  intro U H ds vs Q b d hU ar e post
  unfold min2D at e
  split at e
  · obtain ⟨v, w, rfl, h1, h2⟩ := ar2 ar
    cases e
    rw [arInt h1, arInt h2]
    exact ⟨_, _, rfl, post _ H (Ext.refl H) (fun _ => repInt) (fun z => by cases z)⟩
  · cases e
noncomputable def allD : List D → Option (Bool × D)
  | [.lst ds] => (asBls ds).map fun ns => (false, .bl (ns.all id))
  | _ => none
noncomputable def anyD : List D → Option (Bool × D)
  | [.lst ds] => (asBls ds).map fun ns => (false, .bl (ns.any id))
  | _ => none
theorem prim_all {K : PySem.W.Frag} : Prim K (rAll K) allD := by
  intro U H ds vs Q b d hU ar e post
  unfold allD at e
  split at e
  · rename_i xs
    obtain ⟨v, rfl, h1⟩ := ar1 ar
    obtain ⟨p, ys, rfl, hp, r⟩ := arLst h1
    cases q : asBls xs with
    | none => rw [q] at e; cases e
    | some ns =>
      rw [q] at e
      cases e
      rw [asBls_of q] at r
      exact ⟨p, ns, rfl, by rw [← r.bls]; exact SqL.of hp, post _ H (Ext.refl H) (fun _ => repBl) (fun z => by cases z)⟩
  · cases e
theorem prim_any {K : PySem.W.Frag} : Prim K (rAny K) anyD := by
  intro U H ds vs Q b d hU ar e post
  unfold anyD at e
  split at e
  · rename_i xs
    obtain ⟨v, rfl, h1⟩ := ar1 ar
    obtain ⟨p, ys, rfl, hp, r⟩ := arLst h1
    cases q : asBls xs with
    | none => rw [q] at e; cases e
    | some ns =>
      rw [q] at e
      cases e
      rw [asBls_of q] at r
      exact ⟨p, ns, rfl, by rw [← r.bls]; exact SqL.of hp, post _ H (Ext.refl H) (fun _ => repBl) (fun z => by cases z)⟩
  · cases e
end PyD

namespace PyD
open PySem PySem.Spec L2
noncomputable def itA (h : List D → Option (List D)) (fs : M (List R)) : M (List D) := fun en => match fs en with
  | .ok rs en1 => (match stos rs with
    | some ds => (match h ds with
      | some out => .ok out en1
      | none => .bad)
    | none => .bad)
  | .exc x en1 => .exc x en1
  | .bad => .bad
noncomputable def PrimI (K : PySem.W.Frag) (r : List V → Hp → (It → Hp → Prop) → Prop) (h : List D → Option (List D)) : Prop :=
  ∀ (U : Addr → Prop) (H : Hp) (ds : List D) (vs : List V) (out : List D) (Rr : It → Hp → Prop), (∀ a, U a → H a ≠ none) → RepL K U H ds vs → h ds = some out → (∀ J, WalkD K U H J out → Rr J H) → r vs H Rr
section
variable {K : PySem.W.Frag} {W : WX} {B B' B1 : Addr → Prop} {U U' : Addr → Prop} {H H' H1 : Hp} {σ σ' σ1 : L2.St} {en en' en1 : En} {d : D} {v : V} {i : Nat} {p : Addr} {ds : List D} {fs : M (List R)}
theorem itAImp {r : List V → Hp → (It → Hp → Prop) → Prop} {h : List D → Option (List D)} {Rr : It → Hp → Prop} (hp : PrimI K r h) (m : RdI K W (itA h fs) σ H Rr) : RdA K W fs σ H fun vs H1 => r vs H1 Rr := by
  obtain ⟨B, en, G, m⟩ := m
  refine ⟨B, en, G, ?_⟩
  unfold itA at m
  cases e1 : fs en with
  | bad => rw [e1] at m; exact m
  | exc x en1 => rw [e1] at m; exact m
  | ok rs en1 =>
    rw [e1] at m
    dsimp only at m ⊢
    intro vs H1 ⟨B1, b1, G1, a1, n1⟩ st1
    cases e2 : stos rs with
    | none => rw [e2] at m; exact m.elim
    | some ds =>
      rw [e2] at m
      dsimp only at m
      cases e3 : h ds with
      | none => rw [e3] at m; exact m.elim
      | some out =>
        rw [e3] at m
        dsimp only at m
        have rl := stos_rep b1 G G1 a1 n1 e2
        have G2 : Good K B H1 σ en1 := G1.mono b1.up
        exact hp _ H1 ds vs out Rr (fun a q => G2.unAt q) rl e3 fun J w => m J H1 B (Bx.refl B σ en H) G2 st1 w
theorem wd_rep (k : Kp U H H1) {d : D} {v : V} (r : Rep K U H d v) {U1 : Addr → Prop} (h1 : ∀ a o, H a = some o → ¬ U a → ¬ U1 a) : Rep K U1 H1 d v :=
  Rep.to (fun a o e n => ⟨k a o e n, h1 a o e n⟩) d v r
theorem wd_list {a : Addr} {vs : List V} (q : ∀ H1, Kp U H H1 → SqL K H1 a vs) (r : RepL K U H ds vs) : WalkD K U H (Itl K a) ds where
  go := fun i H1 k hi => by
    have hl := r.len
    exact ⟨vs, vs[i], q H1 k, by simp [hl, hi]⟩
  stop := fun H1 k => ⟨vs, q H1 k, by rw [r.len]; exact Nat.le_refl _⟩
  yld := fun i H1 x H2 d k e y => by
    obtain ⟨z, y⟩ := y
    subst z
    obtain ⟨v, ev, rv⟩ := r.get e
    have := y vs (q _ k)
    rw [ev] at this
    cases this
    exact ⟨Ext.refl _, fun U1 h1 h2 => wd_rep k rv h1⟩
theorem wd_tup {a : Addr} {vs : List V} (q : ∀ H1, Kp U H H1 → SqT K H1 a vs) (r : RepL K U H ds vs) : WalkD K U H (Itt K a) ds where
  go := fun i H1 k hi => by
    have hl := r.len
    exact ⟨vs, vs[i], q H1 k, by simp [hl, hi]⟩
  stop := fun H1 k => ⟨vs, q H1 k, by rw [r.len]; exact Nat.le_refl _⟩
  yld := fun i H1 x H2 d k e y => by
    obtain ⟨z, y⟩ := y
    subst z
    obtain ⟨v, ev, rv⟩ := r.get e
    have := y vs (q _ k)
    rw [ev] at this
    cases this
    exact ⟨Ext.refl _, fun U1 h1 h2 => wd_rep k rv h1⟩
noncomputable def stepL (lo c : Int) (n : Nat) : List D := (List.range n).map fun i : Nat => D.int (lo + (i : Int) * c)
noncomputable def upL (lo : Int) (n : Nat) : List D := (List.range n).map fun i : Nat => D.int (lo + (i : Int))
theorem wd_up {lo : Int} {n : Nat} : WalkD K U H (Itr lo n) (upL lo n) where
  go := fun i H1 k hi => by
    show i < n
    simpa [upL] using hi
  stop := fun H1 k => by show n ≤ _; simp [upL]
  yld := fun i H1 x H2 d k e y => by
    obtain ⟨z, y⟩ := y
    subst z y
    obtain ⟨j, hj, e⟩ : ∃ j, (List.range n)[i]? = some j ∧ D.int (lo + (j : Int)) = d := by simpa [upL] using e
    obtain ⟨_, rfl⟩ := List.getElem?_eq_some_iff.mp hj
    subst e
    exact ⟨Ext.refl _, fun U1 h1 h2 => by simp [Rep]⟩
noncomputable def sgnL (z : Str) : List D := z.cps.toList.map fun c => D.str ⟨#[c]⟩
theorem wd_str {z : Str} : WalkD K U H (Its z) (sgnL z) where
  go := fun i H1 k hi => by
    show i < z.cps.size
    simpa [sgnL] using hi
  stop := fun H1 k => by show z.cps.size ≤ _; simp [sgnL]
  yld := fun i H1 x H2 d k e y => by
    obtain ⟨q, c, y, z⟩ := y
    subst q z
    rw [sgnL, List.getElem?_map, Array.getElem?_toList, y] at e
    cases e
    exact ⟨Ext.refl _, fun U1 h1 h2 => by simp [Rep]⟩
noncomputable def enumL (ds : List D) : List D := (List.range ds.length).map fun i => D.tup [.int (i : Nat), ds.getD i .non]
noncomputable def zipL (as bs : List D) : List D := (as.zip bs).map fun p => D.tup [p.1, p.2]
end
noncomputable def itemsD : D → Option (List D)
  | .lst ds => some ds
  | .tup ds => some ds
  | .scr ns => some (ns.map .int)
  | .str s => some (sgnL s)
  | _ => none
noncomputable def itD : List D → Option (List D)
  | [d] => itemsD d
  | _ => none
noncomputable def rItU (K : PySem.W.Frag) : List V → Hp → (It → Hp → Prop) → Prop := fun vs H Rr => (∃ a, vs = [.ref a] ∧ (∃ xs, SqL K H a xs) ∧ Rr (Itl K a) H) ∨ (∃ a, vs = [.ref a] ∧ (∃ xs, SqT K H a xs) ∧ Rr (Itt K a) H) ∨ ∃ x, vs = [.str x] ∧ Rr (Its x) H
theorem rl1 {K : PySem.W.Frag} {U : Addr → Prop} {H : Hp} {a : D} {vs : List V} (h : RepL K U H [a] vs) : ∃ v, vs = [v] ∧ Rep K U H a v := by
  obtain ⟨v, us, e, r, s⟩ := h.inv
  rw [s.nil_inv] at e
  exact ⟨v, e, r⟩
theorem rl2 {K : PySem.W.Frag} {U : Addr → Prop} {H : Hp} {a b : D} {vs : List V} (h : RepL K U H [a, b] vs) : ∃ v w, vs = [v, w] ∧ Rep K U H a v ∧ Rep K U H b w := by
  obtain ⟨v, us, e, r, s⟩ := h.inv
  obtain ⟨w, rfl, r2⟩ := rl1 s
  exact ⟨v, w, e, r, r2⟩
theorem scr_sq {K : PySem.W.Frag} {U : Addr → Prop} {H : Hp} {ns : List Int} {v : V} (h : Rep K U H (.scr ns) v) : ∃ p, v = .ref p ∧ ∀ H1, Kp U H H1 → SqL K H1 p (ns.map V.int) := by
  unfold Rep at h
  obtain ⟨p, e, c⟩ := h
  refine ⟨p, e, fun H1 k => ?_⟩
  rcases c with ⟨n, o, c⟩ | c
  · exact .inl (.inr ⟨o, k p _ c n⟩)
  · exact .inr c
theorem Kp.refl (U : Addr → Prop) (H : Hp) : Kp U H H := fun _ _ h _ => h
theorem prim_itU {K : PySem.W.Frag} : PrimI K (rItU K) itD := by
  intro U H ds vs out Rr hU rl e q
  unfold itD at e
  split at e
  · unfold itemsD at e
    split at e
    · obtain ⟨v, rfl, r⟩ := rl1 rl
      unfold Rep at r
      obtain ⟨a, us, rfl, nu, ha, r⟩ := r
      cases e
      exact .inl ⟨a, rfl, ⟨us, SqL.of ha⟩, q _ (wd_list (fun H1 k => SqL.of (k a _ ha nu)) r)⟩
    · obtain ⟨v, rfl, r⟩ := rl1 rl
      unfold Rep at r
      obtain ⟨a, us, rfl, nu, ha, r⟩ := r
      cases e
      exact .inr (.inl ⟨a, rfl, ⟨us, SqT.of ha⟩, q _ (wd_tup (fun H1 k => SqT.of (k a _ ha nu)) r)⟩)
    · obtain ⟨v, rfl, r⟩ := rl1 rl
      obtain ⟨p, rfl, s⟩ := scr_sq r
      cases e
      exact .inl ⟨p, rfl, ⟨_, s H (Kp.refl U H)⟩, q _ (wd_list s (RepL.ofInts _))⟩
    · obtain ⟨v, rfl, r⟩ := rl1 rl
      unfold Rep at r
      subst r
      cases e
      exact .inr (.inr ⟨_, rfl, q _ wd_str⟩)
    · cases e
  · cases e
section
variable {X : Cx} {W : WX} {tg e a b c : Expr} {pos p : Pos} {f : M R} {fs : M (List R)}
theorem pi_U {te : TE} (he : PE X e te) : PI X tg e (fun σ H Rr => te σ H fun x H1 => rItU X.K [x] H1 Rr) := by
  refine ⟨fun pins s σ H R I h => ?_⟩
  refine thn (he.run pins s σ H _ I h) fun v s1 ⟨x, H1, I1, r1, q1⟩ => ?_
  rcases q1 with ⟨a, ex, ⟨xs, hq⟩, q⟩ | ⟨a, ex, ⟨xs, hq⟩, q⟩ | ⟨z, ex, q⟩
  · obtain rfl : x = .ref a := by simpa using ex
    cases r1
    obtain ⟨its, rv, p, hz⟩ := I1.list hq
    refine wpAny_pyIter_list p.isList ?_
    exact pi_one (tk := s1.toks) I1 _ (turn_list a _) ⟨_, Heap.get?_push_size _ rfl, rfl, rfl⟩ q
  · obtain rfl : x = .ref a := by simpa using ex
    cases r1
    obtain ⟨its, rv, p, hz⟩ := I1.tuple hq
    refine wpAny_pyIter_tuple (show s1.heap.IsTuple a its.toArray from p) ?_
    exact pi_one (tk := s1.toks) I1 _ (turn_tuple a _) ⟨_, Heap.get?_push_size _ rfl, rfl, rfl⟩ q
  · obtain rfl : x = .str z := by simpa using ex
    obtain ⟨t, rfl⟩ := r1
    cases ha : z.cps.all (· < 128)
    · exact wpAny_pyIter_wide ha (pi_one (tk := s1.toks) I1 _ (turn_str _ z t "str_iterator" (.inr rfl)) ⟨_, Heap.get?_push_size _ rfl, rfl, rfl⟩ q)
    · exact wpAny_pyIter_ascii ha (pi_one (tk := s1.toks) I1 _ (turn_str _ z t "str_ascii_iterator" (.inl rfl)) ⟨_, Heap.get?_push_size _ rfl, rfl, rfl⟩ q)
theorem i_seq (he : PE X e (RdE X.K W f)) : PI X tg e (RdI X.K W (itA itD (one f))) := pi_imp (pi_U he) fun σ H Rr m => imp1 (itAImp prim_itU m)
noncomputable def rg1D : List D → Option (List D)
  | [.int j] => if -(2 ^ 62) ≤ j ∧ j < 2 ^ 62 then some (upL 0 j.toNat) else none
  | _ => none
noncomputable def rg2D : List D → Option (List D)
  | [.int i, .int j] => if -(2 ^ 62) ≤ i ∧ i < 2 ^ 62 ∧ -(2 ^ 62) ≤ j ∧ j < 2 ^ 62 then some (upL i (j - i).toNat) else none
  | _ => none
noncomputable def rRg1 : List V → Hp → (It → Hp → Prop) → Prop := fun vs H1 R => ∃ j : Int, vs = [.int j] ∧ -(2 ^ 62) ≤ j ∧ j < 2 ^ 62 ∧ R (Itr 0 j.toNat) H1
noncomputable def rRg2 : List V → Hp → (It → Hp → Prop) → Prop := fun vs H1 R => ∃ i j : Int, vs = [.int i, .int j] ∧ (-(2 ^ 62) ≤ i ∧ i < 2 ^ 62 ∧ -(2 ^ 62) ≤ j ∧ j < 2 ^ 62) ∧ R (Itr i (j - i).toNat) H1
theorem prim_rg1 {K : PySem.W.Frag} : PrimI K rRg1 rg1D := by
  intro U H ds vs out Rr hU rl e q
  unfold rg1D at e
  split at e
  · obtain ⟨v, rfl, r⟩ := rl1 rl
    unfold Rep at r
    subst r
    split at e
    · rename_i h
      cases e
      exact ⟨_, rfl, h.1, h.2, q _ wd_up⟩
    · cases e
  · cases e
theorem prim_rg2 {K : PySem.W.Frag} : PrimI K rRg2 rg2D := by
  intro U H ds vs out Rr hU rl e q
  unfold rg2D at e
  split at e
  · obtain ⟨v, w, rfl, r, r'⟩ := rl2 rl
    unfold Rep at r r'
    subst r r'
    split at e
    · rename_i h
      cases e
      exact ⟨_, _, rfl, h, q _ wd_up⟩
    · cases e
  · cases e
theorem i_rg1 (hg : Gl X "range") (hm : X.mg "range" = none) (ha : PA X [a] (RdA X.K W fs)) (hs : starEach [a] X.env = [(false, eval a X.env)] := by rfl) : PI X tg (.Call (.Name "range" p) [a] [] pos) (RdI X.K W (itA rg1D fs)) :=
  pi_imp (pi_range1 hg hm ha hs) fun σ H Rr m => itAImp prim_rg1 m
theorem i_rg2 (hg : Gl X "range") (hm : X.mg "range" = none) (ha : PA X [a, b] (RdA X.K W fs)) (hs : starEach [a, b] X.env = [(false, eval a X.env), (false, eval b X.env)] := by rfl) (hs2 : starEach [b] X.env = [(false, eval b X.env)] := by rfl) :
    PI X tg (.Call (.Name "range" p) [a, b] [] pos) (RdI X.K W (itA rg2D fs)) :=
  pi_imp (pi_range2 hg hm ha hs hs2) fun σ H Rr m => itAImp prim_rg2 m
noncomputable def rg3D : List D → Option (List D)
  | [.int i, .int j, .int k] => if -(2 ^ 62) ≤ i ∧ i < 2 ^ 62 ∧ -(2 ^ 62) ≤ j ∧ j < 2 ^ 62 ∧ k = -1 then some (stepL i (-1) (i - j).toNat) else none
  | _ => none
noncomputable def enumD : List D → Option (List D)
  | [.lst ds] => some (enumL ds)
  | [.scr ns] => some (enumL (ns.map .int))
  | _ => none
variable {elts : List Expr} {kk : Nat} {tpos : Pos}
noncomputable def zipD : List D → Option (List D)
  | [.lst as, .lst bs] => some (zipL as bs)
  | [.tup as, .tup bs] => some (zipL as bs)
  | _ => none
noncomputable def revItD : List D → Option (List D)
  | [.lst ds] => some ds.reverse
  | [.tup ds] => some ds.reverse
  | _ => none
end
end PyD

namespace PyD
open PySem PySem.Spec L2
section
variable {K : PySem.W.Frag} {U : Addr → Prop} {H H' : Hp} {p : Addr} {o : HO} {d : D} {v : V} {ds : List D} {vs : List V} {kvs : List (Key × D)} {ws : List (Key × V)}
theorem sideTo (hp : U p) : ∀ a x, H a = some x → ¬ U a → upd H p o a = some x ∧ ¬ U a := fun a x e n =>
  ⟨by rw [upd_ne (fun z => n (by rw [z]; exact hp))]; exact e, n⟩
theorem repSide (hp : U p) (r : Rep K U H d v) : Rep K U (upd H p o) d v := Rep.to (sideTo hp) d v r
theorem repLSide (hp : U p) (r : RepL K U H ds vs) : RepL K U (upd H p o) ds vs := RepL.to (sideTo hp) ds vs r
theorem repKSide (hp : U p) (r : RepK K U H kvs ws) : RepK K U (upd H p o) kvs ws := RepK.to (sideTo hp) kvs ws r
theorem updKeep : ∀ a x, a ≠ p → H a = some x → upd H p o a = some x := fun a x n e => by rw [upd_ne n]; exact e
theorem updAt : upd H p o p = some o := by simp [upd]
end
theorem line_ok {n : Nat} (h : n < 1000000) : n < sizeLine := Nat.lt_trans h (by decide)
noncomputable def appM : D → List D → Option (D × D)
  | .lst xs, [d] => if xs.length < 1000000 then some (.lst (xs ++ [d]), .non) else none
  | _, _ => none
noncomputable instance : FlatM appM := ⟨fun d0 ds d1 d e => by
  unfold appM at e
  repeat' split at e
  all_goals (first | (cases e; exact ⟨rfl, rfl⟩) | cases e)⟩
theorem prim_append {K : PySem.W.Frag} : PrimM K true rAppend appM := by
  intro U H d0 ds p vs Q d1 d hU hp c ar rl e post
  have rl := rl rfl
  unfold appM at e
  split at e
  · obtain ⟨v, rfl, r⟩ := rl1 rl
    split at e
    · rename_i h
      cases e
      obtain ⟨us, hH, r0⟩ := c
      refine ⟨p, us, v, rfl, rfl, hH, by rw [r0.len]; exact line_ok h, post _ _ updKeep (by rw [updAt]; simp) ⟨_, updAt, ?_⟩ repNon⟩
      exact repLSide hp (RepL.app r0 (RepL.cons r RepL.nil))
    · cases e
  · cases e
noncomputable def extM : D → List D → Option (D × D)
  | .lst xs, [.lst ys] => if xs.length + ys.length ≤ 1000000 then some (.lst (xs ++ ys), .non) else none
  | _, _ => none
noncomputable instance : FlatM extM := ⟨fun d0 ds d1 d e => by
  unfold extM at e
  repeat' split at e
  all_goals (first | (cases e; exact ⟨rfl, rfl⟩) | cases e)⟩
noncomputable def popM : D → List D → Option (D × D)
  | .lst xs, [] => match xs[xs.length - 1]? with
    | some d => some (.lst xs.dropLast, d)
    | none => none
  | _, _ => none
theorem RepL.dropLast {K : PySem.W.Frag} {U : Addr → Prop} {H : Hp} {ds : List D} {vs : List V} (r : RepL K U H ds vs) : RepL K U H ds.dropLast vs.dropLast := by
  rw [List.dropLast_eq_take, List.dropLast_eq_take, r.len]
  exact RepL.take _ r
noncomputable instance : FlatM popM := ⟨fun d0 ds d1 d e => by
  unfold popM at e
  repeat' split at e
  all_goals (first | (cases e; exact ⟨rfl, rfl⟩) | cases e)⟩
noncomputable def popAtM : D → List D → Option (D × D)
  | .lst xs, [.int i] => if -(2 ^ 63) ≤ i ∧ i < 2 ^ 63 then (match seqIndex? i xs.length with
    | some k => (match xs[k]? with
      | some d => some (.lst (xs.eraseIdx k), d)
      | none => none)
    | none => none) else none
  | _, _ => none
noncomputable instance : FlatM popAtM := ⟨fun d0 ds d1 d e => by
  unfold popAtM at e
  repeat' split at e
  all_goals (first | (cases e; exact ⟨rfl, rfl⟩) | cases e)⟩
noncomputable def clrM : D → List D → Option (D × D)
  | .lst _, [] => some (.lst [], .non)
  | _, _ => none
noncomputable instance : FlatM clrM := ⟨fun d0 ds d1 d e => by
  unfold clrM at e
  repeat' split at e
  all_goals (first | (cases e; exact ⟨rfl, rfl⟩) | cases e)⟩
noncomputable def insM : D → List D → Option (D × D)
  | .lst xs, [.int i, d] => if xs.length < 1000000 ∧ 0 ≤ i ∧ i < 2 ^ 63 then some (.lst (xs.take i.toNat ++ [d] ++ xs.drop i.toNat), .non) else none
  | _, _ => none
noncomputable instance : FlatM insM := ⟨fun d0 ds d1 d e => by
  unfold insM at e
  repeat' split at e
  all_goals (first | (cases e; exact ⟨rfl, rfl⟩) | cases e)⟩
noncomputable def valD (kvs : List (Key × D)) (k : Key) : Option D := (kvs.find? fun kv => decide (kv.1 = k)).map (·.2)
noncomputable def putD (kvs : List (Key × D)) (k : Key) (v : D) : List (Key × D) :=
  if (kvs.any fun kv => decide (kv.1 = k)) = true then kvs.map (fun kv => if kv.1 = k then (kv.1, v) else kv) else kvs ++ [(k, v)]
noncomputable def keyOf : D → Option Key
  | .int i => some (.inl i)
  | .str s => some (.inr s)
  | _ => none
section
variable {K : PySem.W.Frag} {U : Addr → Prop} {H H' : Hp} {p : Addr} {o : HO} {d : D} {v : V} {ds : List D} {vs : List V} {k : Key}
theorem RepK.cons {kvs : List (Key × D)} {ws : List (Key × V)} (h : Rep K U H d v) (r : RepK K U H kvs ws) : RepK K U H ((k, d) :: kvs) ((k, v) :: ws) := by
  unfold RepK
  exact ⟨v, ws, rfl, h, r⟩
theorem RepK.nil : RepK K U H [] [] := by unfold RepK; rfl
theorem RepK.inv {kvs : List (Key × D)} {ws : List (Key × V)} (r : RepK K U H ((k, d) :: kvs) ws) : ∃ v s, ws = (k, v) :: s ∧ Rep K U H d v ∧ RepK K U H kvs s := by
  unfold RepK at r
  exact r
theorem RepK.nil_inv {ws : List (Key × V)} (r : RepK K U H [] ws) : ws = [] := by
  unfold RepK at r
  exact r
theorem RepK.fst : ∀ {kvs : List (Key × D)} {ws : List (Key × V)}, RepK K U H kvs ws → ws.map (·.1) = kvs.map (·.1)
  | [], ws, r => by rw [r.nil_inv] <;> rfl
  | (k, d) :: kvs, ws, r => by
    obtain ⟨v, s, rfl, _, r'⟩ := r.inv
    simp [r'.fst]
theorem RepK.app {k2 : List (Key × D)} {w2 : List (Key × V)} : ∀ {kvs : List (Key × D)} {ws : List (Key × V)}, RepK K U H kvs ws → RepK K U H k2 w2 → RepK K U H (kvs ++ k2) (ws ++ w2)
  | [], ws, r, q => by rw [r.nil_inv]; exact q
  | (k, d) :: kvs, ws, r, q => by
    obtain ⟨v, s, rfl, h, r'⟩ := r.inv
    exact RepK.cons h (r'.app q)
theorem RepK.val : ∀ {kvs : List (Key × D)} {ws : List (Key × V)}, RepK K U H kvs ws → match valD kvs k with
    | some d => ∃ v, valV ws k = some v ∧ Rep K U H d v
    | none => valV ws k = none
  | [], ws, r => by rw [r.nil_inv]; exact rfl
  | (k', d) :: kvs, ws, r => by
    obtain ⟨v, s, rfl, h, r'⟩ := r.inv
    by_cases e : k' = k
    · have e1 : valD ((k', d) :: kvs) k = some d := by simp [valD, e]
      rw [e1]
      exact ⟨v, valV_pos e, h⟩
    · have e1 : valD ((k', d) :: kvs) k = valD kvs k := by simp [valD, e]
      rw [e1, valV_neg e]
      exact r'.val
theorem RepK.any_eq {f : Key → Bool} {kvs : List (Key × D)} {ws : List (Key × V)} (r : RepK K U H kvs ws) : (ws.any fun kv => f kv.1) = kvs.any fun kv => f kv.1 := by
  have := r.fst
  have h1 : (ws.any fun kv => f kv.1) = (ws.map (·.1)).any f := by simp [List.any_map, Function.comp_def]
  have h2 : (kvs.any fun kv => f kv.1) = (kvs.map (·.1)).any f := by simp [List.any_map, Function.comp_def]
  rw [h1, h2, this]
theorem RepK.mapPut (rd : Rep K U H d v) : ∀ {kvs : List (Key × D)} {ws : List (Key × V)}, RepK K U H kvs ws → RepK K U H (kvs.map fun kv => if kv.1 = k then (kv.1, d) else kv) (ws.map fun kv => if kv.1 = k then (kv.1, v) else kv)
  | [], ws, r => by rw [r.nil_inv]; exact RepK.nil
  | (k', d') :: kvs, ws, r => by
    obtain ⟨v', s, rfl, h, r'⟩ := r.inv
    by_cases e : k' = k
    · simp only [List.map_cons, e, if_true]
      exact RepK.cons rd (r'.mapPut rd)
    · simp only [List.map_cons, e, if_false]
      exact RepK.cons h (r'.mapPut rd)
theorem RepK.put {kvs : List (Key × D)} {ws : List (Key × V)} (r : RepK K U H kvs ws) (rd : Rep K U H d v) : RepK K U H (putD kvs k d) (putK ws k v) := by
  unfold putD putK
  rw [r.any_eq (f := fun x => decide (x = k))]
  split
  · exact r.mapPut rd
  · exact r.app (RepK.cons rd RepK.nil)
theorem keyOf_rep {k : Key} (h : keyOf d = some k) (r : ARep K U H d v) : v = kV k := by
  cases d <;> first | (cases h; done) | skip
  · cases h; exact arInt r
  · cases h; exact arStr r
theorem keyOf_rep' {k : Key} (h : keyOf d = some k) (r : Rep K U H d v) : v = kV k := keyOf_rep h r.arep
end
theorem val_some {K : PySem.W.Frag} {U : Addr → Prop} {H : Hp} {kvs : List (Key × D)} {ws : List (Key × V)} (r : RepK K U H kvs ws) (k : Key) : (valV ws k).isSome = (valD kvs k).isSome := by
  have := r.val (k := k)
  cases ev : valD kvs k with
  | none => rw [ev] at this; rw [this] <;> rfl
  | some d0 =>
    rw [ev] at this
    obtain ⟨v0, e0, _⟩ := this
    rw [e0] <;> rfl
noncomputable def setD : D → D → D → Option D
  | .lst xs, .int k, d => (ixN xs.length k).map fun j => .lst (xs.set j d)
  | .dic kvs, y, d => match keyOf y with
    | some k => if kvs.length < 1000000 then some (.dic (putD kvs k d)) else none
    | none => none
  | _, _, _ => none
noncomputable def rSetU : V → V → V → Hp → (Hp → Prop) → Prop := fun o i v H Q => rSetL o i v H Q ∨ ∃ a H', o = .ref a ∧ DPut H a i v H' ∧ Q H'
theorem set_U {X : Cx} (hu : X.A.units + 1 < cLine) : PSet X rSetU := by
  intro pins s σ H o i v ov iv u Q I ro ri rv h
  rcases h with h | ⟨a, H', rfl, g, q⟩
  · exact set_list pins s σ H o i v ov iv u Q I ro ri rv h
  · obtain rfl : ov = Value.ref a := ro
    exact d_setItem hu I g ri rv fun s4 I4 => ⟨H', I4, q⟩
noncomputable instance : FlatS setD := ⟨fun d0 di d d1 e => by
  unfold setD at e
  split at e
  · obtain ⟨j, _, rfl⟩ := Option.map_eq_some_iff.mp e
    exact ⟨rfl, rfl⟩
  · repeat' split at e
    all_goals (first | (cases e; exact ⟨rfl, rfl⟩) | cases e)
  · cases e⟩
theorem prim_set {K : PySem.W.Frag} : PrimS K rSetU setD := by
  intro U H d0 di d p vi v Q d1 hU hp c ai rv e post
  unfold setD at e
  split at e
  · obtain ⟨us, hH, r0⟩ := c
    rw [arInt ai]
    obtain ⟨j, ej, rfl⟩ := Option.map_eq_some_iff.mp e
    refine .inl ⟨p, us, _, j, rfl, rfl, hH, by rw [r0.len]; exact ej, post _ updKeep (by rw [updAt]; simp) ⟨_, updAt, ?_⟩⟩
    exact repLSide hp (RepL.set j r0 rv)
  · split at e
    · rename_i k hk
      split at e
      · rename_i hl
        cases e
        obtain ⟨us, hH, r0⟩ := c
        rw [keyOf_rep hk ai]
        refine .inr ⟨p, _, rfl, DPut.k hH (by rw [r0.len]; exact line_ok hl), post _ updKeep (by rw [updAt]; simp) ⟨_, updAt, ?_⟩⟩
        exact repKSide hp (r0.put rv)
      · cases e
    · cases e
  · cases e
noncomputable def ixUD : List D → Option (Bool × D)
  | [.dic kvs, y] => match keyOf y with
    | some k => (valD kvs k).map fun d => (false, d)
    | none => none
  | ds => ixD ds
noncomputable def rIxU (K : PySem.W.Frag) : R2 := fun x y H Q => rIx K x y H Q ∨ ∃ a v, x = .ref a ∧ DGet H a y (some v) ∧ Q v H
theorem ix_U {X : Cx} (hu : X.A.units + 1 < cLine) : IxR X (rIxU X.K) := by
  refine ix_seq.or ?_
  intro value slice pins s σ H x y v u Q I rx ry h hs
  obtain ⟨a, z, rfl, g, q⟩ := h
  obtain rfl : v = Value.ref a := rx
  exact PyProof.Rows.tail_any (dict_typeIs I g) PySem.F.slot_dict_getitem.lookup (d_getItem hu I g ry fun w' s3 I3 rw' => ⟨z, H, I3, rw', q⟩) hs
theorem prim_ixU {K : PySem.W.Frag} : Prim K (r2 (rIxU K)) ixUD := by
  intro U H ds vs Q b d hU ar e post
  unfold ixUD at e
  split at e
  · obtain ⟨v, w, rfl, h1, h2⟩ := ar2 ar
    split at e
    · rename_i k hk
      obtain ⟨p, ws, rfl, hp, r⟩ := arDic h1
      have := r.val (k := k)
      obtain ⟨d0, ev, e⟩ := Option.map_eq_some_iff.mp e
      · rw [ev] at this
        cases e
        obtain ⟨v0, e0, r0⟩ := this
        refine ⟨_, _, rfl, .inr ⟨p, v0, rfl, ?_, post _ H (Ext.refl H) (fun _ => r0) (fun z => by cases z)⟩⟩
        rw [keyOf_rep hk h2, ← e0]
        exact DGet.k hp
    · cases e
  · obtain ⟨x, y, e1, q⟩ := prim_ix (K := K) U H _ vs Q b d hU ar e post
    exact ⟨x, y, e1, .inl q⟩
noncomputable def inUD (n : Bool) : List D → Option (Bool × D)
  | [x, .dic kvs] => match keyOf x with
    | some k => some (false, .bl ((valD kvs k).isSome != n))
    | none => none
  | ds => inOp n ds
noncomputable def rInV (K : PySem.W.Frag) (n : Bool) : R2 := fun x y H Q => rInU K n x y H Q ∨ ∃ a ov, y = .ref a ∧ DGet H a x ov ∧ Q (.bl (ov.isSome != n)) H
theorem op_inV {X : Cx} (hu : X.A.units + 1 < cLine) : OpR X (compareOp .In) (rInV X.K false) := by
  refine OpR.or op_inU ?_
  intro pins s σ H x y v u Q I rx ry h
  obtain ⟨a, ov, rfl, g, q⟩ := h
  obtain rfl : u = Value.ref a := ry
  exact d_in hu I g rx fun s3 I3 => ⟨.bl ov.isSome, H, I3, rfl, by simpa using q⟩
theorem prim_inU {K : PySem.W.Frag} {n : Bool} : Prim K (r2 (rInV K n)) (inUD n) := by
  intro U H ds vs Q b d hU ar e post
  unfold inUD at e
  split at e
  · obtain ⟨v, w, rfl, h1, h2⟩ := ar2 ar
    split at e
    · rename_i k hk
      cases e
      obtain ⟨p, ws, rfl, hp, r⟩ := arDic h2
      have := r.val (k := k)
      refine ⟨_, _, rfl, .inr ⟨p, valV ws k, rfl, ?_, ?_⟩⟩
      · rw [keyOf_rep hk h1]
        exact DGet.k hp
      · rw [val_some r k]
        exact post _ H (Ext.refl H) (fun _ => repBl) (fun z => by cases z)
    · cases e
  · obtain ⟨x, y, e1, q⟩ := prim_in (K := K) (n := n) U H _ vs Q b d hU ar e post
    exact ⟨x, y, e1, .inl q⟩
end PyD

namespace PyD
open PySem PySem.Spec L2
noncomputable def ordB (f : Int → Int → Bool) (g : List Nat → List Nat → Bool) : D → D → Option Bool
  | .int a, .int b => some (f a b)
  | .str a, .str b => some (g a.cps.toList b.cps.toList)
  | _, _ => none
noncomputable def chF (f : Int → Int → Bool) (g : List Nat → List Nat → Bool) (f' : Int → Int → Bool) (g' : List Nat → List Nat → Bool) (fa fb fc : M R) : M R := fun en => match two fa fb en with
  | .ok [.sh a, .sh b] en2 => (match ordB f g a b with
    | some true => (match fc en2 with
      | .ok (.sh c) en3 => (match ordB f' g' b c with
        | some k => .ok (.sh (.bl k)) en3
        | none => .bad)
      | .ok _ _ => .bad
      | .exc x en3 => .exc x en3
      | .bad => .bad)
    | some false => .ok (.sh (.bl false)) en2
    | none => .bad)
  | .ok _ _ => .bad
  | .exc x en2 => .exc x en2
  | .bad => .bad
section
variable {K : PySem.W.Frag} {W : WX} {B B' B1 : Addr → Prop} {U U' : Addr → Prop} {H H' H1 : Hp} {σ σ' σ1 : L2.St} {en en' en1 : En} {a b d : D} {v x y : V} {i : Nat} {p : Addr} {ds : List D} {Q : VK} {f f' : Int → Int → Bool} {g g' : List Nat → List Nat → Bool}
theorem ordB_run {k : Bool} (e : ordB f g a b = some k) (rx : Rep K U H a x) (ry : Rep K U' H' b y) (q : Q (.bl k) H1) : rOrdU f g x y H1 Q := by
  unfold ordB at e
  split at e
  · cases e
    unfold Rep at rx ry
    subst rx ry
    exact .inl ⟨_, _, rfl, rfl, q⟩
  · cases e
    unfold Rep at rx ry
    subst rx ry
    exact .inr ⟨_, _, rfl, rfl, q⟩
  · cases e
theorem chImp {fa fb fc : M R} (m : RdE K W (chF f g f' g' fa fb fc) σ H Q) : tChain (rOrdU f g) (rOrdU f' g') (RdE K W fa) (RdE K W fb) (RdE K W fc) σ H Q := by
  have key : RdA K W (two fa fb) σ H fun vs H2 => ∃ x y, vs = [x, y] ∧ rOrdU f g x y H2 fun z H3 => ∃ k, z = .bl k ∧ (if k = true then RdE K W fc σ H3 (fun w' H4 => rOrdU f' g' y w' H4 Q) else Q (.bl false) H3) := by
    obtain ⟨B, en, G, m⟩ := m
    refine ⟨B, en, G, ?_⟩
    unfold chF at m
    cases e1 : two fa fb en with
    | bad => rw [e1] at m; exact m
    | exc x en1 => rw [e1] at m; exact m
    | ok rs en1 =>
      rw [e1] at m
      dsimp only at m ⊢
      intro vs H1 ⟨B1, b1, G1, a1, n1⟩ st1
      match rs, a1, m with
      | [.sh a, .sh b], a1, m =>
        obtain ⟨x, us, rfl, rx, ⟨y, us2, rfl, ry, rfl, _⟩, _⟩ := a1
        have rx : Rep K (Un B1 H1 σ en1) H1 a x := rx
        have ry : Rep K (Un B1 H1 σ en1) H1 b y := ry
        refine ⟨x, y, rfl, ?_⟩
        dsimp only at m
        cases e2 : ordB f g a b with
        | none => rw [e2] at m; exact m.elim
        | some k =>
          rw [e2] at m
          refine ordB_run e2 rx ry ⟨k, rfl, ?_⟩
          cases k with
          | false =>
            rw [if_neg (by decide)]
            exact m _ H1 ⟨B1, b1, G1, (by unfold ArgR; exact repBl), trivial⟩ st1
          | true =>
            rw [if_pos rfl]
            refine RdE.of b1 G1 st1 ?_
            dsimp only at m
            cases e3 : fc en1 with
            | bad => rw [e3] at m; exact m
            | exc x en3 => rw [e3] at m; exact m
            | ok rc en3 =>
              rw [e3] at m
              match rc, m with
              | .fr _, m => exact m.elim
              | .sl _, m => exact m.elim
              | .sh c, m =>
                dsimp only at m ⊢
                intro w' H4 ⟨B4, b4, G4, r4, n4⟩ st4
                have r4 : Rep K (Un B4 H4 σ en3) H4 c w' := r4
                cases e4 : ordB f' g' b c with
                | none => rw [e4] at m; exact m.elim
                | some k' =>
                  rw [e4] at m
                  exact ordB_run e4 ry r4 (m _ H4 ⟨B4, b4, G4, (by unfold ArgR; exact repBl), trivial⟩ st4)
      | [], a1, m => exact m.elim
      | [.fr _], a1, m => exact m.elim
      | [.sl _], a1, m => exact m.elim
      | [.sh _], a1, m => exact m.elim
      | .fr _ :: _ :: _, a1, m => exact m.elim
      | .sl _ :: _ :: _, a1, m => exact m.elim
      | .sh _ :: .fr _ :: _, a1, m => exact m.elim
      | .sh _ :: .sl _ :: _, a1, m => exact m.elim
      | .sh _ :: .sh _ :: _ :: _, a1, m => exact m.elim
  exact RdE.mono (fun x H1 h => RdE.mono (fun y H2 ⟨x', y', e, q⟩ => by cases e; exact q) h) (imp2 key)
variable {X : Cx} {pos : Pos} {ea eb ec : Expr} {fa fb fc : M R} {op op' : CmpOp}
theorem e_chain (ho : OpR X (compareOp op) (rOrdU f g)) (ho' : OpR X (compareOp op') (rOrdU f' g')) (ha : PE X ea (RdE X.K W fa)) (hb : PE X eb (RdE X.K W fb)) (hc : PE X ec (RdE X.K W fc))
    (hm : lastMarks [op, op'] [eb, ec] = false := by with_unfolding_all rfl) : PE X (.Compare ea [op, op'] [eb, ec] pos) (RdE X.K W (chF f g f' g' fa fb fc)) := pe_imp (pe_chain ho ho' ha hb hc hm) fun σ H Q m => chImp m
end
end PyD

namespace PyD
open PySem PySem.Spec L2
noncomputable def DefAt (P : Program) (w : World) (K : PySem.W.Frag) (mg : Str → Option Value) (base : Heap) (x : Str) (lev : Nat) (ps : List Str) (io : List Bool) (φ : List D → Out) : Prop :=
  ∃ (f : Addr) (fd : FuncData), FnOk P w K mg base (L2.CX P w) lev f fd ps (spD K io φ) ∧ mg x = some (.ref f) ∧ PySem.W.keepIn K (.ref f) = true ∧ Binds K fd ps []
theorem e_callD {X : Cx} {W : WX} {k : Nat} {io : List Bool} {φ : List D → Out} {fs : M (List R)} {ps : List Str} {x : Str} {p pos : Pos} {e : Expr} {es : List Expr} (h : DefAt X.prog X.w X.K X.mg X.base x k ps io φ) (hr : Room k X.A) (tk : Takes X W)
    (ha : PA X (e :: es) (RdA X.K W fs)) (hg : Gl X x := by rfl) (hdb : (x == ("__debug__" : Str)) = false := by decide) (he : starEach (e :: es) X.env = (false, eval e X.env) :: starEach es X.env := by rfl) (hpl : (backTo pos (starEach es X.env)).any (·.1) = false := by rfl) :
    PE X (.Call (.Name x p) (e :: es) [] pos) (RdE X.K W (callF io φ fs)) := by
  obtain ⟨f, fd, F, hm, hk, hb⟩ := h
  exact e_call F hr hg hm hk hb tk ha hdb he hpl
section
variable {P : Program} {w : World} {K : PySem.W.Frag} {mg : Str → Option Value} {base : Heap}
theorem DefAt.mk {x : Str} {st : Stmt} {f : Addr} {fd : FuncData} {N ps : List Str} {lev k : Nat} {io : List Bool} {b : En → Fl} {φ : List D → Out} (F : Fun K x x st f fd) (hm : mg x = some (.ref f)) (bd : Binds K fd ps []) (S : FnScope N ps (defScope st)) (hps : io.length = ps.length) (hN : N.length = ps.length + k)
    (hb : ∀ (cdv : Value) (A : Around) (outer : List Env) (s : Shared) (H : Hp) (E : XK), Room lev (A.deeper (PyProof.Rows.envOfC x (defScope st) s.heap.objs.size f cdv)) → PSs (cxOf (L2.CX P w) P w K mg base N x (defScope st) f cdv A outer s H E) (defBody st) (RdS K (fun cls d _ H => E cls d H) b)) (e : φ = runF io k b) :
    DefAt P w K mg base x (lev + 1) ps io φ := by
  subst e
  exact ⟨f, fd, ok_def F S hps hN hb, hm, F.kp, bd⟩
theorem DefAt.mono {x : Str} {j k : Nat} {ps : List Str} {io : List Bool} {φ : List D → Out} (h : DefAt P w K mg base x j ps io φ) (hk : j ≤ k) : DefAt P w K mg base x k ps io φ := by
  obtain ⟨f, fd, F, r⟩ := h
  exact ⟨f, fd, F.mono hk, r⟩
theorem DefAt.bad {x : Str} {st : Stmt} {f : Addr} {fd : FuncData} {ps : List Str} {io : List Bool} {k : Nat} (F : Fun K x x st f fd) (hm : mg x = some (.ref f)) (bd : Binds K fd ps []) : DefAt P w K mg base x k ps io fun _ => .bad := by
  have no : ∀ vs H Q E, spD K io (fun _ => Out.bad) vs H Q E → False := fun vs H Q E h => by
    obtain ⟨_, _, _, _, _, h⟩ := h
    exact h
  exact ⟨f, fd, ⟨fun vs H Q E h => (no vs H Q E h).elim, fun A outer s H args us vs Q E hr he hb hv h => (no vs H Q E h).elim⟩, hm, F.kp, bd⟩
end
theorem only_scr {K : PySem.W.Frag} {H : Hp} {a : Addr} {ns : List Int} {U : Addr → Prop} (hU : ¬ U a) (hO : Only H) (hS : SqL K H a (ns.map V.int)) : Rep K U H (.scr ns) (.ref a) := by
  unfold Rep
  refine ⟨a, rfl, ?_⟩
  rcases hS with h | h
  · rcases h with h | ⟨o, h⟩
    · rcases hO a with q | ⟨o, xs, q⟩
      · rw [h] at q; cases q
      · rw [h] at q; cases q
    · exact .inl ⟨hU, o, h⟩
  · exact .inr h
theorem law_end {K : PySem.W.Frag} {φ : List D → Out} {H : Hp} {a : Addr} {ns : List Int} (h : ∃ outs, φ [.scr ns] = .ret false (.bl true) outs) (hO : Only H) (hS : SqL K H a (ns.map V.int)) :
    spD K [false] φ [.ref a] H (fun v _ => v = .bl true) fun _ _ _ => False := by
  obtain ⟨outs, h⟩ := h
  refine ⟨fun _ => False, [.scr ns], rfl, rfl, ?_, ?_⟩
  · have no : ∀ (i : Nat) (b : Bool) (d : D), (mkE [false] [D.scr ns])[i]? ≠ some (.o b d) := fun i b d e => by
      obtain ⟨b', d', e1, e2, e3⟩ := mkE_get e
      match i, e1 with
      | 0, e1 => cases e1; cases e3
    refine ⟨rfl, fun _ z => z.elim, fun i d e => ?_, fun i b d e => (no i b d e).elim, fun i j p q a b c d d' e => (no i b d e).elim⟩
    obtain ⟨b', d', e1, e2, e3⟩ := mkE_get e
    match i, e1, e2 with
    | 0, e1, e2 =>
      cases e1
      cases e2
      cases e3
      refine ⟨.ref a, rfl, only_scr (fun q => ?_) hO hS⟩
      rcases q with q | ⟨i, b, d, _, e, _⟩
      · exact q
      · exact no i b d e
  · rw [h]
    dsimp only
    intro v H' ⟨B', _, _, r, _⟩ _
    have := r rfl
    unfold Rep at this
    exact this
theorem law_cx {l : Program} (w : World) (H : Hp) (s : Shared) (e : Value) (s' : Shared) (h : L2.CX l w [] H s (fun _ _ _ => False) e s') : False := by
  obtain ⟨_, _, _, _, _, _, _, _, _, _, _, _, h⟩ := h
  exact h
end PyD

namespace PyD
open PySem PySem.Spec L2
structure Tg {β : Type} (k : β) : Type
noncomputable def okE {α : Type} (f : M α) (en : En) (k : α → En → Prop) (x : Ex → En → Prop) (_ : Tg (k, x) := ⟨⟩) : Prop := match f en with
  | .ok a en1 => k a en1
  | .exc e en1 => x e en1
  | .bad => False
noncomputable def okS (f : En → Fl) (en : En) (k : Fl → Prop) (_ : Tg k := ⟨⟩) : Prop := match f en with
  | .bad => False
  | o => k o
noncomputable def okO (o : Out) (k : Out → Prop) (_ : Tg k := ⟨⟩) : Prop := match o with
  | .bad => False
  | o => k o
noncomputable def okL {α : Type} (o : Option α) (k : α → Prop) (_ : Tg k := ⟨⟩) : Prop := match o with
  | some a => k a
  | none => False
section
variable {α β : Type} {en en' : En} {x : Ex → En → Prop}
theorem okL_some {a : α} {k : α → Prop} : okL (some a) k = k a := rfl
theorem okL_map {f : α → β} {o : Option α} {k : β → Prop} : okL (o.map f) k = okL o fun a => k (f a) := by cases o <;> rfl
theorem okL_if {c : Prop} [Decidable c] {a : α} {k : α → Prop} : okL (if c then some a else none) k = (c ∧ k a) := by
  by_cases h : c
  · simp [h, okL]
  · simp [h, okL]
theorem okL_ifo {c : Prop} [Decidable c] {o : Option α} {k : α → Prop} : okL (if c then o else none) k = (c ∧ okL o k) := by
  by_cases h : c
  · simp [h, okL]
  · simp [h, okL]
noncomputable def nmK (i : Nat) (k : R → Prop) (o : Option Sl) (_ : Tg k := ⟨⟩) : Prop := match o with
  | some (.v d) => k (.sh d)
  | some (.o _ _) => k (.sl i)
  | _ => False
theorem nmK_v {i : Nat} {k : R → Prop} {d : D} : nmK i k (some (.v d)) = k (.sh d) := rfl
theorem nmK_o {i : Nat} {k : R → Prop} {b : Bool} {d : D} : nmK i k (some (.o b d)) = k (.sl i) := rfl
theorem ok_c {d : D} {k : R → En → Prop} : okE (cF d) en k x = k (.sh d) en := rfl
theorem ok_nm {i : Nat} {k : R → En → Prop} : okE (nmF i) en k x = nmK i (fun r => k r en) en[i]? := by
  unfold okE nmF
  cases h : en[i]? with
  | none => rfl
  | some s => cases s <;> rfl
noncomputable def mvK (i : Nat) (en : En) (k : R → En → Prop) (o : Option Sl) (_ : Tg k := ⟨⟩) : Prop := match o with
  | some (.v d) => k (.sh d) en
  | some (.o false d) => k (.fr d) (en.set i .e)
  | _ => False
theorem mvK_v {i : Nat} {k : R → En → Prop} {d : D} : mvK i en k (some (.v d)) = k (.sh d) en := rfl
theorem mvK_o {i : Nat} {k : R → En → Prop} {d : D} : mvK i en k (some (.o false d)) = k (.fr d) (en.set i .e) := rfl
theorem ok_mv {i : Nat} {k : R → En → Prop} : okE (mvF i) en k x = mvK i en k en[i]? := by
  unfold okE mvF
  cases h : en[i]? with
  | none => rfl
  | some s =>
    cases s with
    | e => rfl
    | v d => rfl
    | o b d => cases b <;> rfl
noncomputable def dmK (i : Nat) (en : En) (k : R → En → Prop) (o : Option Sl) (_ : Tg k := ⟨⟩) : Prop := match o with
  | some (.v d) => k (.sh d) en
  | some (.o false d) => k (.sh d) (en.set i (.v d))
  | _ => False
theorem dmK_v {i : Nat} {k : R → En → Prop} {d : D} : dmK i en k (some (.v d)) = k (.sh d) en := rfl
theorem dmK_o {i : Nat} {k : R → En → Prop} {d : D} : dmK i en k (some (.o false d)) = k (.sh d) (en.set i (.v d)) := rfl
theorem ok_dm {i : Nat} {k : R → En → Prop} : okE (dmF i) en k x = dmK i en k en[i]? := by
  unfold okE dmF
  cases h : en[i]? with
  | none => rfl
  | some s =>
    cases s with
    | e => rfl
    | v d => rfl
    | o b d => cases b <;> rfl
theorem ok_nil {k : List R → En → Prop} : okE nilF en k x = k [] en := rfl
theorem ok_cons {f : M R} {fs : M (List R)} {k : List R → En → Prop} : okE (consF f fs) en k x = okE f en (fun r en1 => okE fs en1 (fun rs en2 => k (r :: rs) en2) x) x := by
  unfold okE consF
  cases f en with
  | bad => rfl
  | exc e en1 => rfl
  | ok r en1 =>
    dsimp only
    cases fs en1 <;> rfl
theorem ok_one {f : M R} {k : List R → En → Prop} : okE (one f) en k x = okE f en (fun r en1 => k [r] en1) x := by
  unfold one
  rw [ok_cons]
  rfl
theorem ok_two {f g : M R} {k : List R → En → Prop} : okE (two f g) en k x = okE f en (fun r en1 => okE g en1 (fun s en2 => k [r, s] en2) x) x := by
  unfold two
  rw [ok_cons]
  unfold okE
  cases f en with
  | bad => rfl
  | exc e en1 => rfl
  | ok r en1 =>
    have h := ok_cons (en := en1) (x := x) (f := g) (fs := nilF) (k := fun rs en2 => k (r :: rs) en2)
    unfold okE at h
    dsimp only
    rw [h]
    rfl
theorem ok_op {g : List D → Option (Bool × D)} {fs : M (List R)} {k : R → En → Prop} : okE (opF g fs) en k x = okE fs en (fun rs en1 => okL (rsls en1 rs) fun ds => okL (g ds) fun bd => k (mkR bd.1 bd.2) en1) x := by
  unfold okE opF
  cases fs en with
  | bad => rfl
  | exc e en1 => rfl
  | ok rs en1 =>
    dsimp only
    cases rsls en1 rs with
    | none => rfl
    | some ds =>
      dsimp only [okL]
      cases g ds with
      | none => rfl
      | some bd => rfl
theorem ok_tstB {f : M R} {k : Bool → En → Prop} : okE (tstB f) en k x = okE f en (fun r en1 => okL (rsl en1 r) fun d => okL (blD d) fun b => k b en1) x := by
  unfold okE tstB
  cases f en with
  | bad => rfl
  | exc e en1 => rfl
  | ok r en1 =>
    dsimp only
    cases rsl en1 r with
    | none => rfl
    | some d =>
      dsimp only [okL]
      cases blD d <;> rfl
theorem ok_tstF {f : M R} {k : Bool → En → Prop} : okE (tstF f) en k x = okE f en (fun r en1 => okL (rsl en1 r) fun d => okL (truD d) fun b => k b en1) x := by
  unfold okE tstF
  cases f en with
  | bad => rfl
  | exc e en1 => rfl
  | ok r en1 =>
    dsimp only
    cases rsl en1 r with
    | none => rfl
    | some d =>
      dsimp only [okL]
      cases truD d <;> rfl
theorem ok_not {f : M Bool} {k : Bool → En → Prop} : okE (notT f) en k x = okE f en (fun b en1 => k (!b) en1) x := by
  unfold okE notT
  cases f en <;> rfl
noncomputable def bi (b : Bool) (p q : Prop) (_ : Tg (p, q) := ⟨⟩) : Prop := (b = true → p) ∧ (b = false → q)
theorem bi_true {p q : Prop} : bi true p q = p := by simp [bi]
theorem bi_false {p q : Prop} : bi false p q = q := by simp [bi]
theorem bi_eq {b : Bool} {p q : Prop} (h : bi b p q) : match b with | true => p | false => q := by
  cases b
  · exact h.2 rfl
  · exact h.1 rfl
theorem ok_and {f g : M Bool} {k : Bool → En → Prop} : okE (andT f g) en k x = okE f en (fun b en1 => bi b (okE g en1 k x) (k false en1)) x := by
  unfold okE andT
  cases f en with
  | bad => rfl
  | exc e en1 => rfl
  | ok b en1 => cases b <;> simp [bi]
theorem ok_or {f g : M Bool} {k : Bool → En → Prop} : okE (orT f g) en k x = okE f en (fun b en1 => bi b (k true en1) (okE g en1 k x)) x := by
  unfold okE orT
  cases f en with
  | bad => rfl
  | exc e en1 => rfl
  | ok b en1 => cases b <;> simp [bi]
theorem ok_ifF {t : M Bool} {f g : M R} {k : R → En → Prop} : okE (ifF t f g) en k x = okE t en (fun b en1 => bi b (okE f en1 k x) (okE g en1 k x)) x := by
  unfold okE ifF
  cases t en with
  | bad => rfl
  | exc e en1 => rfl
  | ok b en1 => cases b <;> simp [bi]
theorem ok_andF {f g : M R} {k : R → En → Prop} : okE (andF f g) en k x = okE (tstB f) en (fun b en1 => bi b (okE g en1 k x) (k (.sh (.bl false)) en1)) x := by
  unfold okE andF
  cases tstB f en with
  | bad => rfl
  | exc e en1 => rfl
  | ok b en1 => cases b <;> simp [bi]
theorem ok_orF {f g : M R} {k : R → En → Prop} : okE (orF f g) en k x = okE (tstB f) en (fun b en1 => bi b (k (.sh (.bl true)) en1) (okE g en1 k x)) x := by
  unfold okE orF
  cases tstB f en with
  | bad => rfl
  | exc e en1 => rfl
  | ok b en1 => cases b <;> simp [bi]
theorem ok_notF {f : M R} {k : R → En → Prop} : okE (notF f) en k x = okE (tstB f) en (fun b en1 => k (.sh (.bl (!b))) en1) x := by
  unfold okE notF
  cases tstB f en <;> rfl
theorem ok_tup {fs : M (List R)} {k : R → En → Prop} : okE (tupF fs) en k x = okE fs en (fun rs en1 => okL (stos rs) fun ds => ds.length ≤ 1000 ∧ k (.sh (.tup ds)) en1) x := by
  unfold okE tupF
  cases fs en with
  | bad => rfl
  | exc e en1 => rfl
  | ok rs en1 =>
    dsimp only
    cases stos rs with
    | none => rfl
    | some ds =>
      dsimp only [okL]
      by_cases h : ds.length ≤ 1000
      · simp [h]
      · simp [h]
theorem ok_lst {fs : M (List R)} {k : R → En → Prop} : okE (lstF fs) en k x = okE fs en (fun rs en1 => okL (stos rs) fun ds => ds.length ≤ 1000 ∧ k (.fr (.lst ds)) en1) x := by
  unfold okE lstF
  cases fs en with
  | bad => rfl
  | exc e en1 => rfl
  | ok rs en1 =>
    dsimp only
    cases stos rs with
    | none => rfl
    | some ds =>
      dsimp only [okL]
      by_cases h : ds.length ≤ 1000
      · simp [h]
      · simp [h]
theorem ok_dic {k : R → En → Prop} : okE dicF en k x = k (.fr (.dic [])) en := rfl
theorem ok_bm {isT : D → Bool} {g : List D → Option (Bool × D)} {fo : M R} {fs : M (List R)} {k : R → En → Prop} : okE (bmF isT g fo fs) en k x = okE fo en (fun r en1 => okL (rsl en1 r) fun d0 => isT d0 = true ∧
    okE fs en1 (fun rs en2 => okL (rsls en2 (r :: rs)) fun ds => okL (g ds) fun bd => k (mkR bd.1 bd.2) en2) x) x := by
  unfold okE bmF
  cases fo en with
  | bad => rfl
  | exc e en1 => rfl
  | ok r en1 =>
    dsimp only
    cases rsl en1 r with
    | none => rfl
    | some d =>
      dsimp only [okL]
      cases h : isT d with
      | false => simp
      | true =>
        simp only [true_and]
        cases fs en1 with
        | bad => rfl
        | exc e en2 => rfl
        | ok rs en2 =>
          dsimp only
          cases rsls en2 (r :: rs) with
          | none => rfl
          | some ds =>
            dsimp only
            cases g ds <;> rfl
noncomputable def intR (k : Option Int → En → Prop) (en : En) (r : R) (_ : Tg k := ⟨⟩) : Prop := match r with
  | .sh (.int i) => k (some i) en
  | _ => False
theorem intR_int {k : Option Int → En → Prop} {i : Int} : intR k en (.sh (.int i)) = k (some i) en := rfl
theorem ok_prtN {k : Option Int → En → Prop} : okE (prtF none) en k x = k none en := rfl
theorem ok_prtS {f : M R} {k : Option Int → En → Prop} : okE (prtF (some f)) en k x = okE f en (fun r en1 => intR k en1 r) x := by
  unfold okE prtF
  dsimp only
  cases f en with
  | bad => rfl
  | exc e en1 => rfl
  | ok r en1 =>
    cases r with
    | sh d => cases d <;> rfl
    | fr d => rfl
    | sl d => rfl
theorem ok_sl {g : D → Option Int → Option Int → Option (Bool × D)} {f : M R} {lo hi : Option (M R)} {k : R → En → Prop} : okE (slF g f lo hi) en k x = okE f en (fun r en1 => okE (prtF lo) en1 (fun l en2 => okE (prtF hi) en2 (fun h en3 =>
    okL (rsl en3 r) fun d => okL (g d l h) fun bd => k (mkR bd.1 bd.2) en3) x) x) x := by
  unfold okE
  rw [slF_eq]
  cases f en with
  | bad => rfl
  | exc e en1 => rfl
  | ok r en1 =>
    dsimp only
    cases prtF lo en1 with
    | bad => rfl
    | exc e en2 => rfl
    | ok l en2 =>
      dsimp only
      cases prtF hi en2 with
      | bad => rfl
      | exc e en3 => rfl
      | ok h en3 =>
        dsimp only
        cases rsl en3 r with
        | none => rfl
        | some d =>
          dsimp only [okL]
          cases g d l h <;> rfl
noncomputable def shK (k : D → Prop) (r : R) (_ : Tg k := ⟨⟩) : Prop := match r with
  | .sh d => k d
  | _ => False
theorem shK_sh {k : D → Prop} {d : D} : shK k (.sh d) = k d := rfl
theorem ok_ch {f : Int → Int → Bool} {g : List Nat → List Nat → Bool} {f' : Int → Int → Bool} {g' : List Nat → List Nat → Bool} {fa fb fc : M R} {k : R → En → Prop} : okE (chF f g f' g' fa fb fc) en k x = okE fa en (fun ra en1 => okE fb en1 (fun rb en2 => shK (fun a => shK (fun b =>
    okL (ordB f g a b) fun t => bi t (okE fc en2 (fun rc en3 => shK (fun c => okL (ordB f' g' b c) fun t' => k (.sh (.bl t')) en3) rc) x) (k (.sh (.bl false)) en2)) rb) ra) x) x := by
  unfold okE chF two consF nilF
  cases e1 : fa en with
  | bad => rfl
  | exc e en1 => rfl
  | ok ra en1 =>
    dsimp only
    cases e2 : fb en1 with
    | bad => rfl
    | exc e en2 => rfl
    | ok rb en2 =>
      cases ra with
      | fr a => rfl
      | sl a => rfl
      | sh a =>
        cases rb with
        | fr a => rfl
        | sl a => rfl
        | sh b =>
          dsimp only [shK]
          cases et : ordB f g a b with
          | none => rfl
          | some t =>
            dsimp only [okL]
            cases t with
            | false => simp [bi]
            | true =>
              simp only [bi_true]
              cases ec : fc en2 with
              | bad => rfl
              | exc e en3 => rfl
              | ok rc en3 =>
                cases rc with
                | fr a => rfl
                | sl a => rfl
                | sh c =>
                  dsimp only
                  cases ordB f' g' b c <;> rfl
noncomputable def callK (io : List Bool) (rs : List R) (en1 : En) (k : R → En → Prop) (x : Ex → En → Prop) (o : Out) (_ : Tg (k, x) := ⟨⟩) : Prop := match o with
  | .ret b d outs => (!(borrows io rs) || (!(io.elem true) && resFlat b d)) = true ∧ k (mkR b d) (putBack io rs outs en1)
  | .exc e outs => (!(borrows io rs) || (!(io.elem true) && excFlat e)) = true ∧ x e (putBack io rs outs en1)
  | .bad => False
theorem ok_call {io : List Bool} {φ : List D → Out} {fs : M (List R)} {k : R → En → Prop} : okE (callF io φ fs) en k x = okE fs en (fun rs en1 => okL (rsls en1 rs) fun ds => (lentOk io rs && nodupB (slotsOf rs)) = true ∧ okO (φ ds) fun o => callK io rs en1 k x o) x := by
  unfold okE callF
  cases fs en with
  | bad => rfl
  | exc e en1 => rfl
  | ok rs en1 =>
    dsimp only
    cases rsls en1 rs with
    | none => rfl
    | some ds =>
      dsimp only [okL]
      cases h : (lentOk io rs && nodupB (slotsOf rs)) with
      | false => simp
      | true =>
        simp only [true_and, okO]
        cases φ ds with
        | bad => rfl
        | ret b d outs =>
          dsimp only [callK]
          cases h2 : (!(borrows io rs) || (!(io.elem true) && resFlat b d)) with
          | false => simp
          | true => simp
        | exc e outs =>
          dsimp only [callK]
          cases h2 : (!(borrows io rs) || (!(io.elem true) && excFlat e)) with
          | false => simp
          | true => simp
theorem callK_ret {io : List Bool} {rs : List R} {en1 : En} {k : R → En → Prop} {b : Bool} {d : D} {outs : List D} : callK io rs en1 k x (.ret b d outs) = ((!(borrows io rs) || (!(io.elem true) && resFlat b d)) = true ∧ k (mkR b d) (putBack io rs outs en1)) := rfl
theorem callK_exc {io : List Bool} {rs : List R} {en1 : En} {k : R → En → Prop} {e : Ex} {outs : List D} : callK io rs en1 k x (.exc e outs) = ((!(borrows io rs) || (!(io.elem true) && excFlat e)) = true ∧ x e (putBack io rs outs en1)) := rfl
theorem ok_itA {h : List D → Option (List D)} {fs : M (List R)} {k : List D → En → Prop} : okE (itA h fs) en k x = okE fs en (fun rs en1 => okL (stos rs) fun ds => okL (h ds) fun out => k out en1) x := by
  unfold okE itA
  cases fs en with
  | bad => rfl
  | exc e en1 => rfl
  | ok rs en1 =>
    dsimp only
    cases stos rs with
    | none => rfl
    | some ds =>
      dsimp only [okL]
      cases h ds <;> rfl
theorem ok_lc {it : M (List D)} {g : D → M Unit} {tt : M Bool} {te : M R} {vs : List Nat} {k : R → En → Prop} : okE (lcF it g tt te vs) en k x = okE it en (fun ds en1 => vs.all (freeAt en1) = true ∧
    okE (lcL g tt te vs ds []) (wipeE vs en1) (fun acc en2 => k (.fr (.lst acc)) (resE vs en1 en2)) (fun _ _ => False)) x := by
  unfold okE lcF
  cases it en with
  | bad => rfl
  | exc e en1 => rfl
  | ok ds en1 =>
    dsimp only
    cases h : vs.all (freeAt en1) with
    | false => simp
    | true =>
      simp only [true_and]
      cases lcL g tt te vs ds [] (wipeE vs en1) <;> rfl
noncomputable def mutG (b : Bool) (rs : List R) (en1 : En) : Option (List D) := match b with
  | true => stos rs
  | false => rsls en1 rs
noncomputable def ownK (k : Bool → D → Prop) (o : Option Sl) (_ : Tg k := ⟨⟩) : Prop := match o with
  | some (.o b d) => k b d
  | _ => False
theorem ownK_o {k : Bool → D → Prop} {b : Bool} {d : D} : ownK k (some (.o b d)) = k b d := rfl
theorem ok_mut {st : Bool} {i : Nat} {isT : D → Bool} {g : D → List D → Option (D × D)} {fs : M (List R)} {k : R → En → Prop} : okE (mutF st i isT g fs) en k x = ownK (fun _ dd => isT dd = true ∧ okE fs en (fun rs en1 => okL (mutG st rs en1) fun ds => ownK (fun b d0 => okL (g d0 ds) fun dd => k (.sh dd.2) (en1.set i (.o b dd.1))) en1[i]?) x) en[i]? := by
  unfold okE mutF
  cases e : en[i]? with
  | none => rfl
  | some s =>
    cases s with
    | e => rfl
    | v d => rfl
    | o b d =>
      dsimp only [ownK]
      cases h1 : isT d with
      | false => simp
      | true =>
        simp only [true_and]
        cases e2 : fs en with
        | bad => rfl
        | exc e en1 => rfl
        | ok rs en1 =>
          cases st with
          | true =>
            dsimp only [mutG]
            cases e3 : stos rs with
            | none => rfl
            | some ds =>
              dsimp only [okL]
              cases e4 : en1[i]? with
              | none => rfl
              | some s =>
                cases s with
                | e => rfl
                | v d => rfl
                | o b d =>
                  dsimp only [ownK]
                  cases g d ds <;> rfl
          | false =>
            dsimp only [mutG]
            cases e3 : rsls en1 rs with
            | none => rfl
            | some ds =>
              dsimp only [okL]
              cases e4 : en1[i]? with
              | none => rfl
              | some s =>
                cases s with
                | e => rfl
                | v d => rfl
                | o b d =>
                  dsimp only [ownK]
                  cases g d ds <;> rfl
variable {k : Fl → Prop}
theorem os_sk : okS skF en k = k (.nx en) := rfl
theorem os_bk : okS bkF en k = k (.bk en) := rfl
theorem os_ct : okS ctF en k = k (.ct en) := rfl
noncomputable def seqK (g : En → Fl) (k : Fl → Prop) (o : Fl) (_ : Tg k := ⟨⟩) : Prop := match o with
  | .nx en => okS g en k
  | .bad => False
  | o => k o
theorem seqK_nx {g : En → Fl} : seqK g k (.nx en) = okS g en k := rfl
theorem seqK_rt {g : En → Fl} {r : R} : seqK g k (.rt r en) = k (.rt r en) := rfl
theorem seqK_bk {g : En → Fl} : seqK g k (.bk en) = k (.bk en) := rfl
theorem seqK_ct {g : En → Fl} : seqK g k (.ct en) = k (.ct en) := rfl
theorem seqK_exc {g : En → Fl} {e : Ex} : seqK g k (.exc e en) = k (.exc e en) := rfl
theorem os_seq {f g : En → Fl} : okS (seqF f g) en k = (okS f en fun o => seqK g k o) := by
  unfold okS seqF
  cases f en <;> rfl
theorem os_dr {f : M R} : okS (drF f) en k = okE f en (fun _ en1 => k (.nx en1)) fun e en => k (.exc e en) := by
  unfold okS okE drF
  cases f en <;> rfl
theorem os_rt {f : M R} : okS (rtF f) en k = okE f en (fun r en1 => k (.rt r en1)) fun e en => k (.exc e en) := by
  unfold okS okE rtF
  cases f en <;> rfl
theorem os_if {t : M Bool} {f g : En → Fl} : okS (ifS t f g) en k = okE t en (fun b en1 => bi b (okS f en1 k) (okS g en1 k)) fun e en => k (.exc e en) := by
  unfold okE okS ifS
  cases t en with
  | bad => rfl
  | exc e en1 => rfl
  | ok b en1 => cases b <;> simp [bi]
noncomputable def vK (i : Nat) (en1 : En) (k : Fl → Prop) (r : R) (_ : Tg k := ⟨⟩) : Prop := match r with
  | .sh d => k (.nx (en1.set i (.v d)))
  | .fr d => k (.nx (en1.set i (.v d)))
  | .sl _ => False
theorem vK_sh {i : Nat} {d : D} : vK i en k (.sh d) = k (.nx (en.set i (.v d))) := rfl
theorem vK_fr {i : Nat} {d : D} : vK i en k (.fr d) = k (.nx (en.set i (.v d))) := rfl
theorem os_asV {i : Nat} {f : M R} : okS (asV i f) en k = okE f en (fun r en1 => freeAt en1 i = true ∧ vK i en1 k r) fun e en => k (.exc e en) := by
  unfold okE okS asV
  cases f en with
  | bad => rfl
  | exc e en1 => rfl
  | ok r en1 =>
    dsimp only
    cases freeAt en1 i with
    | false => simp
    | true => cases r <;> simp [vK]
noncomputable def oK (i : Nat) (en1 : En) (k : Fl → Prop) (r : R) (_ : Tg k := ⟨⟩) : Prop := match r with
  | .fr d => k (.nx (en1.set i (.o false d)))
  | _ => False
theorem oK_fr {i : Nat} {d : D} : oK i en k (.fr d) = k (.nx (en.set i (.o false d))) := rfl
theorem os_asO {i : Nat} {f : M R} : okS (asO i f) en k = okE f en (fun r en1 => freeAt en1 i = true ∧ oK i en1 k r) fun e en => k (.exc e en) := by
  unfold okE okS asO
  cases f en with
  | bad => rfl
  | exc e en1 => rfl
  | ok r en1 =>
    dsimp only
    cases freeAt en1 i with
    | false => simp
    | true => cases r <;> simp [oK]
theorem os_asG {g : D → M Unit} {f : M R} : okS (asG g f) en k = okE f en (fun r en1 => shK (fun d => okE (g d) en1 (fun _ en2 => k (.nx en2)) fun _ _ => False) r) fun e en => k (.exc e en) := by
  unfold okS okE asG
  cases e : f en with
  | bad => rfl
  | exc e1 en1 => rfl
  | ok r en1 =>
    cases r with
    | fr d => rfl
    | sl d => rfl
    | sh d =>
      dsimp only [shK]
      cases g d en1 <;> rfl
theorem ok_gNm {i : Nat} {d : D} {k : Unit → En → Prop} : okE (gNm i d) en k x = (freeAt en i = true ∧ k () (en.set i (.v d))) := by
  unfold okE gNm
  cases freeAt en i <;> simp
theorem ok_gTp {is : List Nat} {ds : List D} {k : Unit → En → Prop} : okE (gTp is (.tup ds)) en k x = okE (gNms is ds) en k x := rfl
theorem ok_gNms0 {k : Unit → En → Prop} : okE (gNms [] []) en k x = k () en := rfl
theorem ok_gNms1 {i : Nat} {is : List Nat} {d : D} {ds : List D} {k : Unit → En → Prop} : okE (gNms (i :: is) (d :: ds)) en k x = (freeAt en i = true ∧ okE (gNms is ds) (en.set i (.v d)) k x) := by
  unfold okE
  rw [show gNms (i :: is) (d :: ds) en = (match freeAt en i with | true => gNms is ds (en.set i (.v d)) | false => .bad) from rfl]
  cases freeAt en i <;> simp
noncomputable def shK2 (k : D → D → Prop) (r : List R) (_ : Tg k := ⟨⟩) : Prop := match r with
  | [.sh d, .sh d'] => k d d'
  | _ => False
theorem shK2_sh {k : D → D → Prop} {d d' : D} : shK2 k [.sh d, .sh d'] = k d d' := rfl
theorem os_asP {i j : Nat} {fs : M (List R)} : okS (asP i j fs) en k = okE fs en (fun rs en1 => shK2 (fun d d' => freeAt en1 i = true ∧ freeAt en1 j = true ∧ k (.nx ((en1.set i (.v d)).set j (.v d')))) rs) fun e en => k (.exc e en) := by
  unfold okS okE asP
  cases e : fs en with
  | bad => rfl
  | exc e1 en1 => rfl
  | ok rs en1 =>
    dsimp only
    match rs with
    | [.sh d, .sh d'] =>
      dsimp only [shK2]
      cases freeAt en1 i <;> cases freeAt en1 j <;> simp
    | [] => rfl
    | [.fr _] => rfl
    | [.sl _] => rfl
    | [.sh _] => rfl
    | .fr _ :: _ :: _ => rfl
    | .sl _ :: _ :: _ => rfl
    | .sh _ :: .fr _ :: _ => rfl
    | .sh _ :: .sl _ :: _ => rfl
    | .sh _ :: .sh _ :: _ :: _ => rfl
theorem os_st {i : Nat} {fi fv : M R} {u : D → D → D → Option D} : okS (stF i fi fv u) en k = okE fv en (fun r en1 => okL (stoD r) fun d => ownK (fun _ _ => okE fi en1 (fun ri en2 => okL (rsl en2 ri) fun di => ownK (fun b d0 => okL (u d0 di d) fun d1 => k (.nx (en2.set i (.o b d1)))) en2[i]?) fun e en => k (.exc e en)) en1[i]?) fun e en => k (.exc e en) := by
  unfold okS okE stF
  cases e : fv en with
  | bad => rfl
  | exc e1 en1 => rfl
  | ok r en1 =>
    dsimp only
    cases e2 : stoD r with
    | none => rfl
    | some d =>
      dsimp only [okL]
      cases e3 : en1[i]? with
      | none => rfl
      | some s =>
        cases s with
        | e => rfl
        | v d => rfl
        | o b0 d00 =>
          dsimp only [ownK]
          cases e4 : fi en1 with
          | bad => rfl
          | exc e1 en2 => rfl
          | ok ri en2 =>
            dsimp only
            cases e5 : rsl en2 ri with
            | none => rfl
            | some di =>
              dsimp only [okL]
              cases e6 : en2[i]? with
              | none => rfl
              | some s =>
                cases s with
                | e => rfl
                | v d => rfl
                | o b d0 =>
                  dsimp only [ownK]
                  cases u d0 di d <;> rfl
theorem os_fr {it : M (List D)} {g : D → M Unit} {f : En → Fl} : okS (frF it g f) en k = okE it en (fun ds en1 => okS (frL g f ds) en1 k) fun e en => k (.exc e en) := by
  unfold okS okE frF
  cases it en <;> rfl
noncomputable def defK (io : List Bool) (ds : List D) (k : Out → Prop) (o : Fl) (_ : Tg k := ⟨⟩) : Prop := match o with
  | .nx en => k (.ret false .non (outsOf io ds en))
  | .rt (.sh d) en => k (.ret false d (outsOf io ds en))
  | .rt (.fr d) en => k (.ret true d (outsOf io ds en))
  | .exc e en => k (.exc e (outsOf io ds en))
  | _ => False
theorem ok_run {io : List Bool} {n : Nat} {f : En → Fl} {ds : List D} {k : Out → Prop} : okO (runF io n f ds) k = okS f (mkE io ds ++ List.replicate n .e) (fun o => defK io ds k o) := by
  unfold okO okS runF
  cases f (mkE io ds ++ List.replicate n .e) with
  | rt r en => cases r <;> rfl
  | _ => rfl
theorem defK_nx {io : List Bool} {ds : List D} {k : Out → Prop} : defK io ds k (.nx en) = k (.ret false .non (outsOf io ds en)) := rfl
theorem defK_sh {io : List Bool} {ds : List D} {k : Out → Prop} {d : D} : defK io ds k (.rt (.sh d) en) = k (.ret false d (outsOf io ds en)) := rfl
theorem defK_fr {io : List Bool} {ds : List D} {k : Out → Prop} {d : D} : defK io ds k (.rt (.fr d) en) = k (.ret true d (outsOf io ds en)) := rfl
theorem defK_exc {io : List Bool} {ds : List D} {k : Out → Prop} {e : Ex} : defK io ds k (.exc e en) = k (.exc e (outsOf io ds en)) := rfl
theorem os_mono {f : En → Fl} {k k' : Fl → Prop} (h : okS f en k) (i : ∀ o, k o → k' o) : okS f en k' := by
  revert h
  unfold okS
  cases f en with
  | bad => exact id
  | _ => exact fun h => i _ h
theorem oe_mono {f : M α} {k k' : α → En → Prop} {x' : Ex → En → Prop} (h : okE f en k x) (i : ∀ a e, k a e → k' a e) (j : ∀ a e, x a e → x' a e) : okE f en k' x' := by
  revert h
  unfold okE
  cases f en with
  | bad => exact id
  | ok a e => exact fun h => i _ _ h
  | exc a e => exact fun h => j _ _ h
noncomputable def loopK (nxt brk : En → Prop) (k : Fl → Prop) (o : Fl) (_ : Tg (nxt, brk, k) := ⟨⟩) : Prop := match o with
  | .nx en => nxt en
  | .ct en => nxt en
  | .bk en => brk en
  | .bad => False
  | o => k o
theorem loopK_nx {nxt brk : En → Prop} : loopK nxt brk k (.nx en) = nxt en := rfl
theorem loopK_ct {nxt brk : En → Prop} : loopK nxt brk k (.ct en) = nxt en := rfl
theorem loopK_bk {nxt brk : En → Prop} : loopK nxt brk k (.bk en) = brk en := rfl
theorem loopK_rt {nxt brk : En → Prop} {r : R} : loopK nxt brk k (.rt r en) = k (.rt r en) := rfl
theorem loopK_exc {nxt brk : En → Prop} {e : Ex} : loopK nxt brk k (.exc e en) = k (.exc e en) := rfl
theorem os_frL (P : List D → List D → En → Prop) {g : D → M Unit} {f : En → Fl} : ∀ (ds pre : List D) (en : En), P pre ds en → (∀ pre d ds en, P pre (d :: ds) en → okE (g d) en (fun _ en1 => okS f en1 (fun o => loopK (P (pre ++ [d]) ds) (fun en2 => k (.nx en2)) k o)) fun _ _ => False) →
    (∀ pre en, P pre [] en → k (.nx en)) → okS (frL g f ds) en k
  | [], pre, en, h0, hs, hd => hd pre en h0
  | d :: ds, pre, en, h0, hs, hd => by
    have h := hs pre d ds en h0
    unfold okE at h
    unfold okS frL
    cases e1 : g d en with
    | bad => rw [e1] at h; exact h.elim
    | exc e1 en1 => rw [e1] at h; exact h.elim
    | ok u en1 =>
      rw [e1] at h
      dsimp only at h ⊢
      unfold okS at h
      have ih := fun en2 h2 => os_frL P ds (pre ++ [d]) en2 h2 hs hd
      unfold okS at ih
      cases e2 : f en1 with
      | bad => rw [e2] at h; exact h
      | nx en2 => rw [e2] at h; exact ih en2 h
      | ct en2 => rw [e2] at h; exact ih en2 h
      | bk en2 => rw [e2] at h; exact h
      | rt r en2 => rw [e2] at h; exact h
      | exc r en2 => rw [e2] at h; exact h
theorem os_while (P : Nat → En → Prop) {t : M Bool} {f : En → Fl} : ∀ (n m : Nat) (en : En), m < n → P m en → (∀ m en, P m en → okE t en (fun b en1 => bi b (okS f en1 (fun o => loopK (fun en2 => ∃ m', m' < m ∧ P m' en2) (fun en2 => k (.nx en2)) k o)) (k (.nx en1))) fun e en => k (.exc e en)) → okS (whF t f n) en k
  | 0, m, en, hm, _, _ => absurd hm (Nat.not_lt_zero _)
  | n + 1, m, en, hm, h0, hs => by
    have h := hs m en h0
    unfold okE at h
    unfold okS whF
    cases e1 : t en with
    | bad => rw [e1] at h; exact h.elim
    | exc e1 en1 => rw [e1] at h; exact h
    | ok b en1 =>
      rw [e1] at h
      have h := bi_eq h
      cases b with
      | false => exact h
      | true =>
        dsimp only at h ⊢
        unfold okS at h
        have ih := fun m' en2 hm' h2 => os_while P n m' en2 (Nat.lt_of_lt_of_le hm' (Nat.le_of_lt_succ hm)) h2 hs
        unfold okS at ih
        cases e2 : f en1 with
        | bad => rw [e2] at h; exact h
        | nx en2 => rw [e2] at h; obtain ⟨m', h1, h2⟩ := h; exact ih m' en2 h1 h2
        | ct en2 => rw [e2] at h; obtain ⟨m', h1, h2⟩ := h; exact ih m' en2 h1 h2
        | bk en2 => rw [e2] at h; exact h
        | rt r en2 => rw [e2] at h; exact h
        | exc r en2 => rw [e2] at h; exact h
theorem ok_lcL (P : List D → List D → List D → En → Prop) {g : D → M Unit} {tt : M Bool} {te : M R} {vs : List Nat} {k : List D → En → Prop} : ∀ (ds pre acc : List D) (en : En), P pre ds acc en →
    (∀ pre d ds acc en, P pre (d :: ds) acc en → okE (g d) en (fun _ en1 => okE tt en1 (fun b en2 => bi b (okE te en2 (fun r en3 => okL (stoD r) fun y => acc.length < 1000000 ∧ P (pre ++ [d]) ds (acc ++ [y]) (wipeE vs en3)) fun _ _ => False) (P (pre ++ [d]) ds acc (wipeE vs en2))) fun _ _ => False) fun _ _ => False) →
    (∀ pre acc en, P pre [] acc en → k acc en) → okE (lcL g tt te vs ds acc) en k x
  | [], pre, acc, en, h0, hs, hd => hd pre acc en h0
  | d :: ds, pre, acc, en, h0, hs, hd => by
    have h := hs pre d ds acc en h0
    unfold okE lcL
    unfold okE at h
    have ih := fun acc' en2 h2 => ok_lcL P ds (pre ++ [d]) acc' en2 h2 hs hd
    unfold okE at ih
    cases e1 : g d en with
    | bad => rw [e1] at h; exact h.elim
    | exc e1 en1 => rw [e1] at h; exact h.elim
    | ok u en1 =>
      rw [e1] at h
      dsimp only at h ⊢
      cases e2 : tt en1 with
      | bad => rw [e2] at h; exact h.elim
      | exc e2 en2 => rw [e2] at h; exact h.elim
      | ok b en2 =>
        rw [e2] at h
        have h := bi_eq h
        cases b with
        | false => exact ih acc _ h
        | true =>
          dsimp only at h ⊢
          cases e3 : te en2 with
          | bad => rw [e3] at h; exact h.elim
          | exc e2 en2 => rw [e3] at h; exact h.elim
          | ok r en3 =>
            rw [e3] at h
            dsimp only at h ⊢
            cases e4 : stoD r with
            | none => rw [e4] at h; exact h.elim
            | some y =>
              rw [e4] at h
              obtain ⟨hl, h⟩ := h
              dsimp only
              rw [decide_eq_true hl]
              exact ih _ _ h
end
end PyD

namespace PyD
open PySem PySem.Spec L2
noncomputable def tx (l : List Nat) : Str := ⟨l.toArray⟩
theorem tx_inj {a b : List Nat} (h : tx a = tx b) : a = b := by
  unfold tx at h
  have := Str.mk.inj h
  simpa using this
theorem tx_eq {a b : List Nat} : (tx a = tx b) = (a = b) := propext ⟨tx_inj, fun h => by rw [h]⟩
theorem tx_len (l : List Nat) : (tx l).length = l.length := by simp [tx, Str.length]
theorem tx_list (l : List Nat) : (tx l).cps.toList = l := by simp [tx]
theorem tx_app (a b : List Nat) : tx a ++ tx b = tx (a ++ b) := by
  show Str.append (tx a) (tx b) = _
  simp [tx, Str.append]
theorem line_eq : sizeLine = 16777216 := rfl
theorem add_tx {a b : List Nat} : addD [.str (tx a), .str (tx b)] = if a.length + b.length ≤ 16777216 then some (false, .str (tx (a ++ b))) else none := by
  simp only [addD, tx_len, tx_app, line_eq]
theorem add_int {a b : Int} : addD [.int a, .int b] = some (false, .int (a + b)) := rfl
theorem add_lst {a b : List D} : addD [.lst a, .lst b] = if a.length + b.length ≤ 16777216 then some (true, .lst (a ++ b)) else none := rfl
theorem add_tup {a b : List D} : addD [.tup a, .tup b] = if a.length + b.length ≤ 16777216 then some (false, .tup (a ++ b)) else none := rfl
theorem sub_int {a b : Int} : subD [.int a, .int b] = some (false, .int (a - b)) := rfl
theorem mod_int {a b : Int} : modD [.int a, .int b] = if 0 < b then some (false, .int (a % b)) else none := by
  by_cases h : 0 < b
  · simp [modD, int2, h]
  · simp [modD, int2, h]
theorem fdv_int {a b : Int} : fdvD [.int a, .int b] = if 0 < b ∧ b.natAbs.log2 ≤ 8000 then some (false, .int (a / b)) else none := by
  by_cases h : 0 < b ∧ b.natAbs.log2 ≤ 8000
  · simp [fdvD, int2, h]
  · simp only [fdvD, int2, if_neg h]
    rfl
theorem pow_int {a b : Int} : powD [.int a, .int b] = if 0 ≤ b ∧ b ≤ 1000 ∧ a.natAbs < 2 ^ 64 then some (false, .int (a ^ b.toNat)) else none := by
  by_cases h : 0 ≤ b ∧ b ≤ 1000 ∧ a.natAbs < 2 ^ 64
  · simp only [powD, int2, if_pos h]
    rfl
  · simp only [powD, int2, if_neg h]
    rfl
theorem neg_int {a : Int} : negD [.int a] = some (false, .int (-a)) := rfl
noncomputable def okT (l : List Nat) : Prop := ∀ c ∈ l, c < 1114112
theorem strOk_tx {l : List Nat} : PyData.strOk (tx l) = true ↔ okT l := by
  simp [PyData.strOk, tx, okT]
theorem shaped_int (a : Int) : SeqAt.shaped (.int a) = true := rfl
theorem shaped_str {l : List Nat} (h : okT l) : SeqAt.shaped (.str (tx l)) = true := by
  have := strOk_tx.mpr h
  simp [SeqAt.shaped, PyData.canLay0, PyData.depth, this]
theorem dec_eq {α : Type} [DecidableEq α] (a b : α) : (a == b) = decide (a = b) := by
  by_cases h : a = b
  · simp [h]
  · simp [h]
theorem eq_int {a b : Int} : eqD (.int a) (.int b) = some (decide (a = b)) := by
  simp only [eqD, toPy, shaped_int, and_self, if_true, PyData.eqv, dec_eq]
theorem okL_eqtx {a b : List Nat} {k : Bool → Prop} (h : okT a) (h' : okT b) (hk : k (decide (a = b))) : okL (eqD (.str (tx a)) (.str (tx b))) k := by
  have e : eqD (.str (tx a)) (.str (tx b)) = some (decide (a = b)) := by
    simp only [eqD, toPy, shaped_str h, shaped_str h', and_self, if_true, PyData.eqv, dec_eq, tx_eq]
  rw [e]
  exact hk
theorem eqOp_eq {n : Bool} {a b : D} : eqOp n [a, b] = (eqD a b).map fun k => (false, .bl (k != n)) := rfl
theorem ne_false (b : Bool) : (b != false) = b := by cases b <;> rfl
theorem ne_true (b : Bool) : (b != true) = !b := by cases b <;> rfl
theorem len_tx {l : List Nat} : lenD [.str (tx l)] = if l.length ≤ 16777216 then some (false, .int l.length) else none := by
  simp only [lenD, tx_len, line_eq]
theorem len_lst {l : List D} : lenD [.lst l] = some (false, .int l.length) := rfl
theorem len_tup {l : List D} : lenD [.tup l] = some (false, .int l.length) := rfl
theorem len_scr {l : List Int} : lenD [.scr l] = some (false, .int l.length) := rfl
theorem len_dic {l : List (Key × D)} : lenD [.dic l] = some (false, .int l.length) := rfl
theorem ix_lst {l : List D} {i : Int} : ixUD [.lst l, .int i] = (atI l i).map fun d => (false, d) := rfl
theorem ix_tup {l : List D} {i : Int} : ixUD [.tup l, .int i] = (atI l i).map fun d => (false, d) := rfl
theorem ix_scr {l : List Int} {i : Int} : ixUD [.scr l, .int i] = (atI l i).map fun n => (false, .int n) := rfl
theorem ix_tx {l : List Nat} {i : Int} : ixUD [.str (tx l), .int i] = if l.length ≤ 16777216 then (atI l i).map fun c => (false, .str (tx [c])) else none := by
  show ixD [.str (tx l), .int i] = _
  simp only [ixD, tx_len, tx_list, line_eq]
  rfl
theorem at_0 {α : Type} {a : α} {l : List α} : atI (a :: l) 0 = some a := by simp [atI, ixN]
theorem at_1 {α : Type} {a b : α} {l : List α} : atI (a :: b :: l) 1 = some b := by
  have : (1 : Int) < ((l.length : Int) + 1 + 1) := by omega
  simp [atI, ixN, this]
theorem at_2 {α : Type} {a b c : α} {l : List α} : atI (a :: b :: c :: l) 2 = some c := by
  have : (2 : Int) < ((l.length : Int) + 1 + 1 + 1) := by omega
  simp [atI, ixN, this]
theorem okL_at {α : Type} {l : List α} {i : Int} {k : α → Prop} (h0 : 0 ≤ i) (h1 : i < l.length) (hk : ∀ x, l[i.toNat]? = some x → k x) : okL (atI l i) k := by
  have hn : i.toNat < l.length := by omega
  have e : atI l i = some l[i.toNat] := by
    unfold atI ixN
    rw [if_pos h0, if_pos h1]
    simp [hn]
  rw [e]
  exact hk _ (by simp [hn])
theorem okL_atMem {α : Type} {l : List α} {i : Int} {k : α → Prop} (h0 : 0 ≤ i) (h1 : i < l.length) (hk : ∀ x, x ∈ l → k x) : okL (atI l i) k :=
  okL_at h0 h1 fun x e => hk x (List.mem_of_getElem? e)
theorem set_lst {xs : List D} {i : Int} {d : D} : setD (.lst xs) (.int i) d = (ixN xs.length i).map fun j => .lst (xs.set j d) := rfl
theorem set_dic {kvs : List (Key × D)} {k : Key} {y d : D} (h : keyOf y = some k) : setD (.dic kvs) y d = if kvs.length < 1000000 then some (.dic (putD kvs k d)) else none := by
  simp only [setD, h]
theorem app_lst {xs : List D} {d : D} : appM (.lst xs) [d] = if xs.length < 1000000 then some (.lst (xs ++ [d]), .non) else none := rfl
theorem ixN_30 : ixN 3 0 = some 0 := by decide
theorem ixN_31 : ixN 3 1 = some 1 := by decide
theorem ixN_32 : ixN 3 2 = some 2 := by decide
theorem ixN_20 : ixN 2 0 = some 0 := by decide
theorem ixN_21 : ixN 2 1 = some 1 := by decide
theorem ixN_10 : ixN 1 0 = some 0 := by decide
theorem sl_tx {l : List Nat} {lo hi : Option Int} : slD (.str (tx l)) lo hi = if l.length ≤ 16777216 then some (false, .str (tx (cutL l lo hi))) else none := by
  simp only [slD, tx_len, tx_list, line_eq]
  rfl
theorem sl_lst {l : List D} {lo hi : Option Int} : slD (.lst l) lo hi = some (true, .lst (cutL l lo hi)) := rfl
theorem sl_tup {l : List D} {lo hi : Option Int} : slD (.tup l) lo hi = some (false, .tup (cutL l lo hi)) := rfl
theorem sl_scr {l : List Int} {lo hi : Option Int} : slD (.scr l) lo hi = some (true, .lst ((cutL l lo hi).map .int)) := rfl
theorem sIx_pos {n d : Nat} {i : Int} (h : 0 ≤ i) : HT.sIx n d (some i) = min i.toNat n := by
  obtain ⟨k, rfl⟩ := Int.eq_ofNat_of_zero_le h
  exact HT.sIx_nat n d k
theorem cut_mid {α : Type} {l : List α} {i j : Int} (hi : 0 ≤ i) (hj : 0 ≤ j) : cutL l (some i) (some j) = (l.take j.toNat).drop i.toNat := by
  unfold cutL
  rw [sIx_pos hi, sIx_pos hj]
  apply List.ext_getElem?
  intro n
  simp only [List.getElem?_take, List.getElem?_drop]
  have hl : l.length ≤ n + i.toNat → l[i.toNat + n]? = none := fun h => List.getElem?_eq_none (by omega)
  by_cases h1 : i.toNat ≤ l.length
  · rw [Nat.min_eq_left h1]
    by_cases h2 : i.toNat + n < l.length
    · by_cases h3 : i.toNat + n < j.toNat
      · rw [if_pos (by omega), if_pos h3]
      · rw [if_neg (by omega), if_neg h3]
    · rw [hl (by omega)]
      split <;> split <;> rfl
  · rw [hl (by omega)]
    have e : l[min i.toNat l.length + n]? = none := List.getElem?_eq_none (by omega)
    rw [e]
    split <;> split <;> rfl
theorem cut_to {α : Type} {l : List α} {j : Int} (hj : 0 ≤ j) : cutL l none (some j) = l.take j.toNat := by
  unfold cutL
  rw [sIx_pos hj, HT.sIx_none, List.drop_zero, Nat.sub_zero]
  by_cases h : j.toNat ≤ l.length
  · rw [Nat.min_eq_left h]
  · rw [Nat.min_eq_right (by omega), List.take_of_length_le (Nat.le_refl _), List.take_of_length_le (by omega)]
noncomputable def bj (c p q : Prop) (_ : Tg (p, q) := ⟨⟩) : Prop := (c → p) ∧ (¬ c → q)
theorem bj_mk {c p q : Prop} (h : c → p) (h' : ¬ c → q) : bj c p q := ⟨h, h'⟩
theorem bj_t {c p q : Prop} (h : c) (h' : p) : bj c p q := ⟨fun _ => h', fun z => absurd h z⟩
theorem bj_f {c p q : Prop} (h : ¬ c) (h' : q) : bj c p q := ⟨fun z => absurd z h, fun _ => h'⟩
theorem bj_true {p q : Prop} : bj True p q = p := by simp [bj]
theorem bj_false {p q : Prop} : bj False p q = q := by simp [bj]
theorem bj_not {c p q : Prop} [Decidable c] : bj (¬ c) p q = bj c q p := by
  by_cases h : c <;> simp [bj, h]
theorem bi_dec {c : Prop} [Decidable c] {p q : Prop} : bi (decide c) p q = bj c p q := by
  unfold bi bj
  by_cases h : c
  · simp [h]
  · simp [h]
theorem bi_not {b : Bool} {p q : Prop} : bi (!b) p q = bi b q p := by cases b <;> simp [bi]
theorem bi_not_dec {c : Prop} [Decidable c] {p q : Prop} : bi (!decide c) p q = bj c q p := by rw [bi_not, bi_dec]
noncomputable def frS : Sl → Bool
  | .o true _ => false
  | _ => true
theorem frS_e : frS .e = true := rfl
theorem frS_v {d : D} : frS (.v d) = true := rfl
theorem frS_o {d : D} : frS (.o false d) = true := rfl
theorem free_eq {en : En} {i : Nat} : (freeAt en i = true) = (match en[i]? with | some s => frS s = true | none => False) := by
  unfold freeAt
  cases en[i]? with
  | none => simp
  | some s =>
    cases s with
    | e => simp [frS]
    | v d => simp [frS]
    | o b d => cases b <;> simp [frS]
noncomputable def nxK (mid : En → Prop) (o : Fl) (_ : Tg mid := ⟨⟩) : Prop := match o with
  | .nx en => mid en
  | _ => False
theorem nxK_nx {mid : En → Prop} {en : En} : nxK mid (.nx en) = mid en := rfl
theorem os_cut (mid : En → Prop) {f g : En → Fl} {en : En} {k : Fl → Prop} (h1 : okS f en fun o => nxK mid o) (h2 : ∀ en1, mid en1 → okS g en1 k) : (okS f en fun o => seqK g k o) :=
  os_mono h1 fun o h => by
    cases o with
    | nx en1 => exact h2 en1 h
    | _ => exact h.elim
end PyD

namespace PyD
open PySem PySem.Spec L2
noncomputable def joinL (sep : List Nat) : List (List Nat) → List Nat
  | [] => []
  | [x] => x
  | x :: y :: r => x ++ sep ++ joinL sep (y :: r)
theorem join_tx (sep : List Nat) (ls : List (List Nat)) : Txt.join (tx sep) (ls.map tx) = tx (joinL sep ls) := by
  show Builtin.Str.glued _ _ = _
  rw [StrLaws.glued_eq_join]
  induction ls with
  | nil => rfl
  | cons x r ih =>
    cases r with
    | nil => rfl
    | cons y r =>
      show tx x ++ tx sep ++ Str.join (tx sep) ((y :: r).map tx) = _
      rw [ih, tx_app, tx_app]
      rfl
theorem joinL_nil : ∀ ls : List (List Nat), joinL [] ls = ls.flatten
  | [] => rfl
  | [x] => by simp [joinL]
  | x :: y :: r => by
    show x ++ [] ++ joinL [] (y :: r) = _
    rw [joinL_nil (y :: r)]
    simp
noncomputable def dtx (l : List Nat) : D := .str (tx l)
theorem asStrs_tx (ls : List (List Nat)) : asStrs (ls.map dtx) = some (ls.map tx) := by
  have : ls.map dtx = (ls.map tx).map D.str := by simp [dtx, Function.comp_def]
  rw [this, asStrs_map]
theorem lens_tx (ls : List (List Nat)) : ((ls.map tx).map fun s => s.length) = ls.map List.length := by
  simp [Function.comp_def, tx_len]
theorem join_lst {sep : List Nat} {ls : List (List Nat)} : joinD [.str (tx sep), .lst (ls.map dtx)] = if (ls.map List.length).sum + ls.length * sep.length ≤ 16777216 then some (false, .str (tx (joinL sep ls))) else none := by
  simp only [joinD, asStrs_tx, lens_tx, join_tx, tx_len, List.length_map]
theorem sum_ones : ∀ {ls : List (List Nat)}, (∀ l ∈ ls, l.length = 1) → (ls.map List.length).sum = ls.length
  | [], _ => rfl
  | l :: ls, h => by
    rw [List.map_cons, List.sum_cons, h l (by simp), sum_ones (fun x hx => h x (by simp [hx])), List.length_cons]
    omega
theorem int_bl {b : Bool} : intD [.bl b] = some (false, .int (if b then 1 else 0)) := rfl
theorem int_int {i : Int} : intD [.int i] = some (false, .int i) := rfl
theorem list_lst {ds : List D} : listD [.lst ds] = some (true, .lst ds) := rfl
theorem list_tup {ds : List D} : listD [.tup ds] = some (true, .lst ds) := rfl
theorem list_scr {ns : List Int} : listD [.scr ns] = some (true, .lst (ns.map .int)) := rfl
theorem tuple_lst {ds : List D} : tupleD [.lst ds] = some (false, .tup ds) := rfl
theorem tuple_tup {ds : List D} : tupleD [.tup ds] = some (false, .tup ds) := rfl
theorem max2_int {i j : Int} : max2D [.int i, .int j] = some (false, .int (maxI i j)) := rfl
theorem min2_int {i j : Int} : min2D [.int i, .int j] = some (false, .int (minI i j)) := rfl
theorem isi_int {i : Int} {T : String} : isiD T [.int i] = some (false, .bl (isTy "int" T)) := rfl
theorem isi_bl {i : Bool} {T : String} : isiD T [.bl i] = some (false, .bl (isTy "bool" T)) := rfl
theorem isi_str {i : Str} {T : String} : isiD T [.str i] = some (false, .bl (isTy "str" T)) := rfl
theorem isi_tup {ds : List D} {T : String} : isiD T [.tup ds] = some (false, .bl (isTy "tuple" T)) := rfl
theorem isi_lst {ds : List D} {T : String} : isiD T [.lst ds] = some (false, .bl (isTy "list" T)) := rfl
theorem isi_non {T : String} : isiD T [.non] = some (false, .bl (isTy "NoneType" T)) := rfl
theorem isi_dic {ds : List (Key × D)} {T : String} : isiD T [.dic ds] = some (false, .bl (isTy "dict" T)) := rfl
theorem ty_ii : isTy "int" "int" = true := by decide
theorem ty_ib : isTy "int" "bool" = false := by decide
theorem ty_is : isTy "int" "str" = false := by decide
theorem ty_it : isTy "int" "tuple" = false := by decide
theorem ty_il : isTy "int" "list" = false := by decide
theorem ty_bi : isTy "bool" "int" = true := by decide
theorem ty_bb : isTy "bool" "bool" = true := by decide
theorem ty_bs : isTy "bool" "str" = false := by decide
theorem ty_bt : isTy "bool" "tuple" = false := by decide
theorem ty_bL : isTy "bool" "list" = false := by decide
theorem ty_si : isTy "str" "int" = false := by decide
theorem ty_sb : isTy "str" "bool" = false := by decide
theorem ty_ss : isTy "str" "str" = true := by decide
theorem ty_st : isTy "str" "tuple" = false := by decide
theorem ty_sl : isTy "str" "list" = false := by decide
theorem ty_ti : isTy "tuple" "int" = false := by decide
theorem ty_tb : isTy "tuple" "bool" = false := by decide
theorem ty_ts : isTy "tuple" "str" = false := by decide
theorem ty_tt : isTy "tuple" "tuple" = true := by decide
theorem ty_tl : isTy "tuple" "list" = false := by decide
theorem ty_li : isTy "list" "int" = false := by decide
theorem ty_lb : isTy "list" "bool" = false := by decide
theorem ty_ls : isTy "list" "str" = false := by decide
theorem ty_lt : isTy "list" "tuple" = false := by decide
theorem ty_ll : isTy "list" "list" = true := by decide
theorem ty_ni : isTy "NoneType" "int" = false := by decide
theorem ty_nb : isTy "NoneType" "bool" = false := by decide
theorem ty_ns : isTy "NoneType" "str" = false := by decide
theorem ty_nt : isTy "NoneType" "tuple" = false := by decide
theorem ty_nl : isTy "NoneType" "list" = false := by decide
theorem rg1 {j : Int} : rg1D [.int j] = if -(2 ^ 62) ≤ j ∧ j < 2 ^ 62 then some (upL 0 j.toNat) else none := rfl
theorem rg2 {i j : Int} : rg2D [.int i, .int j] = if -(2 ^ 62) ≤ i ∧ i < 2 ^ 62 ∧ -(2 ^ 62) ≤ j ∧ j < 2 ^ 62 then some (upL i (j - i).toNat) else none := rfl
theorem rg3 {i j k : Int} : rg3D [.int i, .int j, .int k] = if -(2 ^ 62) ≤ i ∧ i < 2 ^ 62 ∧ -(2 ^ 62) ≤ j ∧ j < 2 ^ 62 ∧ k = -1 then some (stepL i (-1) (i - j).toNat) else none := rfl
theorem it_lst {ds : List D} : itD [.lst ds] = some ds := rfl
theorem it_tup {ds : List D} : itD [.tup ds] = some ds := rfl
theorem it_scr {ns : List Int} : itD [.scr ns] = some (ns.map .int) := rfl
theorem it_str {l : List Nat} : itD [.str (tx l)] = some (l.map fun c => .str (tx [c])) := by
  simp only [itD, itemsD, sgnL, tx_list]
  rfl
theorem enum_lst {ds : List D} : enumD [.lst ds] = some (enumL ds) := rfl
theorem zip_lst {as bs : List D} : zipD [.lst as, .lst bs] = some (zipL as bs) := rfl
theorem zip_tup {as bs : List D} : zipD [.tup as, .tup bs] = some (zipL as bs) := rfl
theorem rev_lst {as : List D} : revItD [.lst as] = some as.reverse := rfl
theorem rev_tup {as : List D} : revItD [.tup as] = some as.reverse := rfl
theorem upL_len (lo : Int) (n : Nat) : (upL lo n).length = n := by simp [upL]
theorem tru_int {i : Int} : truD (.int i) = some (decide (i ≠ 0)) := by
  by_cases h : i = 0
  · simp [truD, h]
  · simp [truD, h]
theorem tru_bl {i : Bool} : truD (.bl i) = some i := rfl
theorem tru_lst {l : List D} : truD (.lst l) = some (!l.isEmpty) := rfl
theorem tru_tup {l : List D} : truD (.tup l) = some (!l.isEmpty) := rfl
theorem yesT_ok {en : En} {k : Bool → En → Prop} {x : Ex → En → Prop} : okE yesT en k x = k true en := rfl
theorem os_ix (P : Nat → En → Prop) {g : D → M Unit} {f : En → Fl} {ds : List D} {en : En} {k : Fl → Prop} (h0 : P 0 en) (hs : ∀ i d, ds[i]? = some d → ∀ en, P i en → okE (g d) en (fun _ en1 => okS f en1 (fun o => loopK (P (i + 1)) (fun en2 => k (.nx en2)) k o)) fun _ _ => False)
    (hd : ∀ en, P ds.length en → k (.nx en)) : okS (frL g f ds) en k := by
  refine os_frL (fun pre r en => P pre.length en ∧ pre ++ r = ds) ds [] en ⟨h0, rfl⟩ ?_ ?_
  · rintro pre d r en ⟨h, e⟩
    have hg : ds[pre.length]? = some d := by rw [← e]; simp
    refine oe_mono (hs _ d hg en h) (fun _ e1 h1 => os_mono h1 ?_) fun _ _ z => z
    intro o ho
    have e' : pre ++ [d] ++ r = ds := by rw [← e]; simp
    have l' : (pre ++ [d]).length = pre.length + 1 := by simp
    cases o with
    | nx e2 => exact ⟨by rw [l']; exact ho, e'⟩
    | ct e2 => exact ⟨by rw [l']; exact ho, e'⟩
    | _ => exact ho
  · rintro pre en ⟨h, e⟩
    have l' : pre.length = ds.length := by rw [← e]; simp
    exact hd en (l' ▸ h)
theorem upL_get {lo : Int} {n i : Nat} {d : D} (h : (upL lo n)[i]? = some d) : d = .int (lo + i) ∧ i < n := by
  obtain ⟨j, hj, e⟩ : ∃ j, (List.range n)[i]? = some j ∧ D.int (lo + (j : Int)) = d := by simpa [upL] using h
  obtain ⟨hl, rfl⟩ := List.getElem?_eq_some_iff.mp hj
  exact ⟨by rw [← e]; simp, by simpa using hl⟩
theorem ok_lcY (P : List D → En → Prop) {g : D → M Unit} {te : M R} {vs : List Nat} {x : Ex → En → Prop} {k : List D → En → Prop} {ds : List D} {en : En} (h0 : P [] en) (hn : ds.length ≤ 1000000)
    (hs : ∀ i d, ds[i]? = some d → ∀ acc en, acc.length = i → P acc en → okE (g d) en (fun _ en1 => okE te en1 (fun r en3 => okL (stoD r) fun y => P (acc ++ [y]) (wipeE vs en3)) fun _ _ => False) fun _ _ => False)
    (hd : ∀ acc en, acc.length = ds.length → P acc en → k acc en) : okE (lcL g yesT te vs ds []) en k x := by
  refine ok_lcL (fun pre r acc en => P acc en ∧ pre ++ r = ds ∧ acc.length = pre.length) ds [] [] en ⟨h0, rfl, rfl⟩ ?_ ?_
  · rintro pre d r acc en ⟨h, hl, ha⟩
    have hlen : acc.length < ds.length := by rw [← hl, ha]; simp
    have hg : ds[acc.length]? = some d := by rw [← hl, ha]; simp
    refine oe_mono (hs _ d hg acc en rfl h) (fun _ e1 h1 => ?_) fun _ _ z => z
    rw [yesT_ok, bi_true]
    refine oe_mono h1 (fun r3 e3 h3 => ?_) fun _ _ z => z
    revert h3
    cases stoD r3 with
    | none => exact id
    | some y =>
      intro h3
      exact ⟨by omega, h3, by rw [← hl]; simp, by simp [ha]⟩
  · rintro pre acc en ⟨h, hl, ha⟩
    exact hd acc en (by rw [ha, ← hl]; simp) h
end PyD

namespace PyD
open PySem PySem.Spec L2
noncomputable def getD2 : List D → Option (Bool × D)
  | [.dic kvs, y, z] => match keyOf y with
    | some k => if flatD z = true then some (false, (valD kvs k).getD z) else none
    | none => none
  | _ => none
noncomputable def rGet2 : V → List V → Hp → VK → Prop := fun x xs H Q => ∃ a y z o, x = .ref a ∧ xs = [y, z] ∧ DGet H a y o ∧ Q (o.getD z) H
theorem mt_get2 {X : Cx} (hu : X.A.units + 1 < cLine) : MtR X "dict.get" rGet2 := by
  intro pins s σ H x xs v us Q I rx rs h
  obtain ⟨a, y, z, o, rfl, rfl, g, q⟩ := h
  obtain rfl : v = Value.ref a := rx
  obtain ⟨u1, u2, rfl, r1, r2⟩ := Vals.two rs
  exact d_get2 hu I g r1 r2 fun w' s3 I3 rw' => ⟨_, H, I3, rw', q⟩
theorem ta_dic {K : PySem.W.Frag} : TyA K "dict" isDic := fun U H d v h r => by
  cases d with
  | dic s => obtain ⟨p, ws, rfl, hp, _⟩ := arDic r; exact .inr (.inr (.inl ⟨rfl, .inl ⟨ws, hp⟩⟩))
  | _ => cases h
theorem arep_flat {K : PySem.W.Frag} {U : Addr → Prop} {H : Hp} {d : D} {v : V} (h : flatD d = true) (r : ARep K U H d v) : Rep K U H d v := by
  cases d with
  | lst _ => cases h
  | dic _ => cases h
  | obj _ _ => cases h
  | ow _ => cases h
  | _ => exact r
theorem prim_get2 {K : PySem.W.Frag} : Prim K (rM rGet2) getD2 := by
  intro U H ds vs Q b d hU ar e post
  unfold getD2 at e
  split at e
  · split at e
    · rename_i k hk
      split at e
      · rename_i hf
        cases e
        obtain ⟨v, w, x, rfl, h1, h2, h3⟩ := ar3 ar
        obtain ⟨p, ws, rfl, hp, r⟩ := arDic h1
        refine ⟨_, _, rfl, p, w, x, valV ws k, rfl, rfl, by rw [keyOf_rep hk h2]; exact DGet.k hp, post _ H (Ext.refl H) (fun _ => ?_) (fun z => by cases z)⟩
        have := r.val (k := k)
        rename_i kvs _ _ _ _
        revert this
        cases valD _ k with
        | none => intro this; rw [this]; exact arep_flat hf h3
        | some d0 => rintro ⟨v0, e0, r0⟩; rw [e0]; exact r0
      · cases e
    · cases e
  · cases e
noncomputable def dropD (kvs : List (Key × D)) (k : Key) : List (Key × D) := kvs.filter fun kv => decide (kv.1 ≠ k)
theorem RepK.dropK {K : PySem.W.Frag} {U : Addr → Prop} {H : Hp} {k : Key} : ∀ {kvs : List (Key × D)} {ws : List (Key × V)}, RepK K U H kvs ws → RepK K U H (dropD kvs k) (L2.dropK ws k)
  | [], ws, r => by rw [r.nil_inv]; exact RepK.nil
  | (k', d) :: kvs, ws, r => by
    obtain ⟨v, s, rfl, h, r'⟩ := r.inv
    have ih := RepK.dropK (k := k) r'
    by_cases e : k' = k
    · have e1 : dropD ((k', d) :: kvs) k = dropD kvs k := by simp [dropD, e]
      have e2 : L2.dropK ((k', v) :: s) k = L2.dropK s k := by simp [L2.dropK, e]
      rw [e1, e2]
      exact ih
    · have e1 : dropD ((k', d) :: kvs) k = (k', d) :: dropD kvs k := by simp [dropD, e]
      have e2 : L2.dropK ((k', v) :: s) k = (k', v) :: L2.dropK s k := by simp [L2.dropK, e]
      rw [e1, e2]
      exact RepK.cons h ih
noncomputable def popD2 : D → List D → Option (D × D)
  | .dic kvs, [y, z] => match keyOf y with
    | some k => match valD kvs k with
      | some d => some (.dic (dropD kvs k), d)
      | none => some (.dic kvs, z)
    | none => none
  | _, _ => none
noncomputable def rPop2 : V → List V → Hp → VK → Prop := fun x xs H Q => ∃ a y z kvs k, x = .ref a ∧ xs = [y, z] ∧ H a = some (.dK kvs) ∧ y = kV k ∧ (∀ v, valV kvs k = some v → Q v (upd H a (.dK (L2.dropK kvs k)))) ∧ (valV kvs k = none → Q z H)
theorem mt_pop2 {X : Cx} : MtR X "dict.pop" rPop2 := by
  intro pins s σ H x xs v us Q I rx rs h
  obtain ⟨a, y, z, kvs, k, rfl, rfl, ea, rfl, q3, q4⟩ := h
  obtain rfl : v = Value.ref a := rx
  obtain ⟨u1, u2, rfl, r1, r2⟩ := Vals.two rs
  cases l : valV kvs k with
  | some v => exact d_pop I ea r1 l (.inr ⟨u2, rfl⟩) fun w' s4 I4 rw' => ⟨v, _, I4, rw', q3 v l⟩
  | none => exact d_popD I ea r1 l fun s4 I4 => ⟨z, H, I4, r2, q4 l⟩
noncomputable instance : FlatM popD2 := ⟨fun d0 ds d1 d e => by
  unfold popD2 at e
  repeat' split at e
  all_goals (first | (cases e; exact ⟨rfl, rfl⟩) | cases e)⟩
theorem prim_pop2 {K : PySem.W.Frag} : PrimM K true rPop2 popD2 := by
  intro U H d0 ds p vs Q d1 d hU hp c ar rl e post
  have rl := rl rfl
  unfold popD2 at e
  split at e
  · split at e
    · rename_i k hk
      obtain ⟨v, w, rfl, r, r'⟩ := rl2 rl
      obtain ⟨ws, hH, r0⟩ := c
      have hv := r0.val (k := k)
      refine ⟨p, v, w, ws, k, rfl, rfl, hH, keyOf_rep' hk r, fun v0 e0 => ?_, fun e0 => ?_⟩
      · split at e
        · rename_i d2 hd
          cases e
          rw [hd] at hv
          obtain ⟨v1, e1, r1⟩ := hv
          rw [e0] at e1
          cases e1
          exact post _ _ updKeep (by rw [updAt]; simp) ⟨_, updAt, repKSide hp r0.dropK⟩ (repSide hp r1)
        · rename_i hd
          rw [hd] at hv
          rw [e0] at hv
          cases hv
      · split at e
        · rename_i d2 hd
          rw [hd] at hv
          obtain ⟨v1, e1, r1⟩ := hv
          rw [e0] at e1
          cases e1
        · cases e
          exact post _ _ (fun a x _ h => h) (by rw [hH]; simp) ⟨_, hH, r0⟩ r'
    · cases e
  · cases e
noncomputable instance (a b : Int) : Decidable (RgOk a b) := by unfold RgOk; infer_instance
noncomputable def rgD : List D → Option (List D)
  | [.int n] => if RgOk 0 n then some (upL 0 n.toNat) else none
  | [.int i, .int j] => if RgOk i j then some (upL i (j - i).toNat) else none
  | _ => none
theorem rgV_rep {K : PySem.W.Frag} {U : Addr → Prop} {H : Hp} {a b : Int} : RepL K U H (upL a (b - a).toNat) (rgV a b) := by
  unfold upL rgV
  have e1 : (List.range (b - a).toNat).map (fun i : Nat => D.int (a + (i : Int))) = ((List.range (b - a).toNat).map fun i : Nat => (a + (i : Int))).map D.int := by simp
  have e2 : (List.range (b - a).toNat).map (fun i : Nat => V.int (a + (i : Int))) = ((List.range (b - a).toNat).map fun i : Nat => (a + (i : Int))).map V.int := by simp
  rw [e1, e2]
  exact RepL.ofInts _
noncomputable def lrgD (ds : List D) : Option (Bool × D) := (rgD ds).map fun l => (true, .lst l)
noncomputable def rLrg (f : List V → HO) : List V → Hp → VK → Prop := fun vs H Q => ∃ a b, ((vs = [.int b] ∧ a = 0) ∨ vs = [.int a, .int b]) ∧ RgOk a b ∧ ∀ q, H q = none → Q (.ref q) (upd H q (f (rgV a b)))
theorem prim_rg {K : PySem.W.Frag} {f : List V → HO} {fr : Bool} {g : List D → D} (hp : ∀ (U : Addr → Prop) (H : Hp) (q : Addr) (ds : List D) (vs : List V), (∀ a, U a → H a ≠ none) → H q = none → RepL K U H ds vs → (fr = false → Rep K U (upd H q (f vs)) (g ds) (.ref q)) ∧ (fr = true → Fresh K U H (upd H q (f vs)) (g ds) (.ref q))) :
    Prim K (rLrg f) fun ds => (rgD ds).map fun l => (fr, g l) := by
  intro U H ds vs Q b d hU ar e post
  obtain ⟨l, el, e⟩ := Option.map_eq_some_iff.mp e
  cases e
  unfold rgD at el
  split at el
  · split at el
    · rename_i n hn
      cases el
      obtain ⟨v, rfl, h1⟩ := ar1 ar
      rw [arInt h1]
      refine ⟨0, n, .inl ⟨rfl, rfl⟩, hn, fun q hq => ?_⟩
      have e0 : n.toNat = (n - 0).toNat := by rw [Int.sub_zero]
      obtain ⟨p1, p2⟩ := hp U H q _ _ hU hq (rgV_rep (K := K) (U := U) (H := H) (a := 0) (b := n))
      rw [← e0] at p1 p2
      exact post _ _ (ext_new hq) p1 p2
    · cases el
  · split at el
    · rename_i i j hn
      cases el
      obtain ⟨v, w, rfl, h1, h2⟩ := ar2 ar
      rw [arInt h1, arInt h2]
      refine ⟨i, j, .inr rfl, hn, fun q hq => ?_⟩
      obtain ⟨p1, p2⟩ := hp U H q _ _ hU hq (rgV_rep (K := K) (U := U) (H := H) (a := i) (b := j))
      exact post _ _ (ext_new hq) p1 p2
    · cases el
  · cases el
theorem prim_lrg {K : PySem.W.Frag} : Prim K (rLrg HO.lst) lrgD := prim_rg (fr := true) (g := .lst) fun U H q ds vs hU hq r => ⟨(fun z => by cases z), fun _ => newLst hq r⟩
section
variable {X : Cx} {W : WX} {a b : Expr} {fa fb : M R} {p p2 pos pos2 : Pos}
theorem rg2Imp {K : PySem.W.Frag} {f : List V → HO} {g : List D → Option (Bool × D)} {σ : L2.St} {H : Hp} {Q : VK} (hp : Prim K (rLrg f) g) (m : RdE K W (opF g (two fa fb)) σ H Q) : tRg2 (RdE K W fa) (RdE K W fb) σ H fun a b H1 => RgOk a b ∧ ∀ q, H1 q = none → Q (.ref q) (upd H1 q (f (rgV a b))) := by
  refine RdE.mono (fun v H1 h => RdE.mono (fun w H2 h => ?_) h) (imp2 (opImp hp m))
  obtain ⟨a, b, h1, h2⟩ := h
  rcases h1 with ⟨e, rfl⟩ | e
  · cases e
  · cases e
    exact ⟨a, b, rfl, rfl, h2⟩
theorem e_lrg2 (hg : Gl X "list") (hm : X.mg "list" = none) (hg2 : Gl X "range") (hm2 : X.mg "range" = none) (hc : X.calm = true) (ha : PE X a (RdE X.K W fa)) (hb : PE X b (RdE X.K W fb))
    (na : starEach [a, b] X.env = (false, eval a X.env) :: starEach [b] X.env := by rfl) (nb : starEach [b] X.env = (false, eval b X.env) :: starEach [] X.env := by rfl) (hp : (backTo pos2 (starEach [b] X.env)).any (·.1) = false := by rfl)
    (nc : starEach [.Call (.Name "range" p2) [a, b] [] pos2] X.env = (false, eval (.Call (.Name "range" p2) [a, b] [] pos2) X.env) :: starEach [] X.env := by rfl) :
    PE X (.Call (.Name "list" p) [.Call (.Name "range" p2) [a, b] [] pos2] [] pos) (RdE X.K W (opF lrgD (two fa fb))) := pe_imp (pe_listRg hc hg hm (prg_2 hg2 hm2 ha hb na nb hp) nc) fun σ H Q m => rg2Imp prim_lrg m
end
end PyD

namespace PyD
open PySem PySem.Spec L2
theorem each_of {K : PySem.W.Frag} {H : Hp} : ∀ {xs : List V} {its : List Value} {ps : List PyData}, Vals xs its → DpAll K H xs ps → PySem.W.EachIs (fun (v : Value) (b : V × PyData) => RelV b.1 v ∧ Dp K H b.1 b.2) its (xs.zip ps) ∧ (xs.zip ps).map Prod.snd = ps ∧ (xs.zip ps).length = xs.length
  | _, _, _, .nil, .nil => ⟨.nil, rfl, rfl⟩
  | _, _, _, .cons r rs, .cons d ds => by
    obtain ⟨h1, h2, h3⟩ := each_of rs ds
    exact ⟨.cons ⟨r, d⟩ h1, by simp [h2], by simp [h3]⟩
theorem each_vals : ∀ {its : List Value} {bs : List (V × PyData)}, PySem.W.EachIs (fun (v : Value) (b : V × PyData) => RelV b.1 v) its bs → Vals (bs.map Prod.fst) its
  | _, _, .nil => .nil
  | _, _, .cons r rs => .cons r (each_vals rs)
noncomputable def rSortA (K : PySem.W.Frag) : List V → Hp → VK → Prop := fun vs H Q => ∃ (a : Addr) (xs : List V) (ps : List PyData), vs = [V.ref a] ∧ SqL K H a xs ∧ DpAll K H xs ps ∧ PySem.W.AllAlike ps ∧ PySem.W.Sortable ps ∧ (∀ p, p ∈ ps → p.depth ≤ 60) ∧
  ∀ p : Addr, H p = none → Q (.ref p) (upd H p (.lst (((xs.zip ps).mergeSort (PySem.W.dataLe false Prod.snd)).map Prod.fst)))
theorem cr_sortedA {X : Cx} (hu : X.A.units + 64 < cLine) : CallR X (.builtin "sorted") (rSortA X.K) := by
  intro pins s σ H vs us Q I r h
  obtain ⟨a, xs, ps, rfl, hs, hd, hal, hk, hdep, q⟩ := h
  obtain ⟨its, rv, hl, hz⟩ := I.list hs
  rw [Vals.ref1 r]
  obtain ⟨e0, e1, e2⟩ := each_of rv hd
  refine PySem.W.sorted_data (R := fun (v : Value) (b : V × PyData) => RelV b.1 v) (enc := Prod.snd) hl.isList (e0.mono fun _ _ h => h.1) (e0.mono fun v b h => Dp.reads I b.2 b.1 v h.2 h.1) (by rw [e1]; exact hal) (by rw [e1]; exact hk) (by rw [e2]; exact hz) (fun b hb => ?_) fun out h1 h2 => ?_
  · have := hdep b.2 (by rw [← e1]; exact List.mem_map_of_mem hb)
    omega
  · obtain ⟨ep, he'⟩ := PyProof.Rows.sortedAll_at s.heap its out.toArray
    have hlen : (((xs.zip ps).mergeSort (PySem.W.dataLe false Prod.snd)).map Prod.fst).length ≤ sizeLine := by
      rw [List.length_map, List.length_mergeSort, e2]
      exact hz
    exact ⟨.ref _, upd H (s.heap.objs.size + 1) (.lst _), I.laid (t' := s.toks) (fun _ _ => PyProof.Rows.sortedAll_old) (Nat.le_succ _) ⟨hlen, out, ep, each_vals h2, he'⟩, rfl, q _ (I.hok.fresh (Nat.le_succ _))⟩
noncomputable instance (ps : List PyData) : Decidable (PySem.W.AllAlike ps) := by unfold PySem.W.AllAlike; infer_instance
noncomputable def sortable (ps : List PyData) : Bool := (ps.all fun d => match d with | .tuple (_ :: _) => true | _ => false) || ps.all fun d => match d with | .none => false | .tuple _ => false | _ => true
theorem sortable_of {ps : List PyData} (h : sortable ps = true) : PySem.W.Sortable ps := by
  unfold sortable at h
  rcases Bool.or_eq_true_iff.mp h with h | h
  · refine .inl fun d hd => ?_
    have := List.all_eq_true.mp h d hd
    split at this
    · exact ⟨_, _, rfl⟩
    · cases this
  · refine .inr fun d hd => ?_
    have := List.all_eq_true.mp h d hd
    split at this
    · cases this
    · cases this
    · rename_i h1 h2
      exact ⟨h1, fun xs e => h2 xs e⟩
noncomputable def pyG (d : D) : PyData := (toPy d).getD .none
noncomputable def leD' (a b : D) : Bool := PySem.W.dataLe false pyG a b
noncomputable def sortD : List D → Option (Bool × D)
  | [.lst ds] => match toPyL ds with
    | some ps => if PySem.W.AllAlike ps ∧ sortable ps = true ∧ ∀ p ∈ ps, p.depth ≤ 60 then some (true, .lst (ds.mergeSort leD')) else none
    | none => none
  | _ => none
theorem rep_zip {K : PySem.W.Frag} {U : Addr → Prop} {H : Hp} : ∀ {ds : List D} {vs : List V}, RepL K U H ds vs → ∀ p ∈ ds.zip vs, Rep K U H p.1 p.2
  | [], _, _, p, hp => by simp at hp
  | d :: ds, _, r, p, hp => by
    obtain ⟨v, us, rfl, r1, r2⟩ := r.inv
    rcases List.mem_cons.mp hp with rfl | hp
    · exact r1
    · exact rep_zip r2 p hp
theorem zip_rep {K : PySem.W.Frag} {U : Addr → Prop} {H : Hp} : ∀ {l : List (D × V)}, (∀ p ∈ l, Rep K U H p.1 p.2) → RepL K U H (l.map Prod.fst) (l.map Prod.snd)
  | [], _ => RepL.nil
  | p :: l, h => RepL.cons (h p (by simp)) (zip_rep fun q hq => h q (by simp [hq]))
theorem toPyL_map : ∀ {ds : List D} {ps : List PyData}, toPyL ds = some ps → ps = ds.map pyG
  | [], ps, h => by cases h; rfl
  | d :: ds, ps, h => by
    unfold toPyL at h
    cases e1 : toPy d with
    | none => rw [e1] at h; cases h
    | some p =>
      rw [e1] at h
      dsimp only at h
      cases e2 : toPyL ds with
      | none => rw [e2] at h; cases h
      | some qs =>
        rw [e2] at h
        cases h
        rw [toPyL_map e2]
        simp [pyG, e1]
theorem zip_swap : ∀ {ds : List D} {xs : List V}, xs.length = ds.length → (ds.zip xs).map (fun p => (p.2, pyG p.1)) = xs.zip (ds.map pyG)
  | [], xs, h => by
    have : xs = [] := List.eq_nil_of_length_eq_zero h
    subst this
    rfl
  | d :: ds, [], h => by cases h
  | d :: ds, x :: xs, h => by
    simp only [List.zip_cons_cons, List.map_cons]
    rw [zip_swap (by simpa using h)]
theorem prim_sort {K : PySem.W.Frag} : Prim K (rSortA K) sortD := by
  intro U H ds vs Q b d hU ar e post
  unfold sortD at e
  split at e
  · rename_i ds
    split at e
    · rename_i ps hps
      split at e
      · rename_i hc
        cases e
        obtain ⟨v, rfl, h1⟩ := ar1 ar
        obtain ⟨p, xs, rfl, hp, r⟩ := arLst h1
        refine ⟨p, xs, ps, rfl, SqL.of hp, dpL_of r hps, hc.1, sortable_of hc.2.1, hc.2.2, fun q hq => ?_⟩
        have hl := r.len
        have key : RepL K U H (ds.mergeSort leD') (((xs.zip ps).mergeSort (PySem.W.dataLe false Prod.snd)).map Prod.fst) := by
          have e0 := toPyL_map hps
          subst e0
          have z1 : (ds.zip xs).map Prod.fst = ds := by rw [List.map_fst_zip]; omega
          have z2 := zip_swap hl
          have s1 : ((ds.zip xs).mergeSort fun (a b : D × V) => leD' a.1 b.1).map Prod.fst = ds.mergeSort leD' := by
            rw [List.map_mergeSort (r := fun (a b : D × V) => leD' a.1 b.1) (s := leD') (fun _ _ _ _ => rfl), z1]
          have s2 : ((ds.zip xs).mergeSort fun (a b : D × V) => leD' a.1 b.1).map (fun p => (p.2, pyG p.1)) = (xs.zip (ds.map pyG)).mergeSort (PySem.W.dataLe false Prod.snd) := by
            rw [List.map_mergeSort (r := fun (a b : D × V) => leD' a.1 b.1) (s := PySem.W.dataLe false Prod.snd) (fun _ _ _ _ => rfl), z2]
          rw [← s1, ← s2, List.map_map]
          exact zip_rep fun p hp => rep_zip r p (List.mem_mergeSort.mp hp)
        exact post _ _ (ext_new hq) (fun z => by cases z) fun _ => newLst hq key
      · cases e
    · cases e
  · cases e
theorem e_gi {X : Cx} {W : WX} {x : Str} {i : Int} {pos : Pos} (c : ∃ t, X.mg x = some (.int i t)) (hg : Gl X x) (hd : (x == ("__debug__" : Str)) = false := by decide) : PE X (.Name x pos) (RdE X.K W (cF (.int i))) := by
  obtain ⟨t, c⟩ := c
  exact e_c (pe_glob (v := .int i) hg c ⟨t, rfl⟩ hd) fun _ _ => repInt
end PyD

namespace PyD
open PySem PySem.Spec L2
noncomputable def wpM : List Bool → En → En
  | true :: ms, _ :: en => .e :: wpM ms en
  | false :: ms, s :: en => s :: wpM ms en
  | _, en => en
noncomputable def frM : List Bool → En → Bool
  | true :: ms, s :: en => frS s && frM ms en
  | false :: ms, _ :: en => frM ms en
  | _, _ => true
noncomputable def endF (ms : List Bool) (f : En → Fl) : En → Fl := fun en => match f en with
  | .nx e => (match frM ms e with
    | true => .nx (wpM ms e)
    | false => .bad)
  | o => o
noncomputable def bodF (ms : List Bool) (f : En → Fl) : En → Fl := fun en => match f en with
  | .nx e => (match frM ms e with
    | true => .nx (wpM ms e)
    | false => .bad)
  | .ct e => (match frM ms e with
    | true => .ct (wpM ms e)
    | false => .bad)
  | o => o
theorem wpM_len : ∀ (ms : List Bool) (en : En), (wpM ms en).length = en.length
  | [], en => by cases en <;> rfl
  | true :: ms, [] => rfl
  | false :: ms, [] => rfl
  | true :: ms, s :: en => by
    show (wpM ms en).length + 1 = _
    rw [wpM_len ms en]; rfl
  | false :: ms, s :: en => by
    show (wpM ms en).length + 1 = _
    rw [wpM_len ms en]; rfl
theorem wpM_get : ∀ (ms : List Bool) (en : En) (j : Nat) (s : Sl), (wpM ms en)[j]? = some s → s = .e ∨ en[j]? = some s
  | [], en, j, s, h => .inr (by cases en <;> exact h)
  | true :: ms, [], j, s, h => .inr h
  | false :: ms, [], j, s, h => .inr h
  | true :: ms, t :: en, 0, s, h => .inl (by cases h; rfl)
  | false :: ms, t :: en, 0, s, h => .inr h
  | true :: ms, t :: en, j + 1, s, h => wpM_get ms en j s h
  | false :: ms, t :: en, j + 1, s, h => wpM_get ms en j s h
theorem wpM_keep : ∀ (ms : List Bool) (en : En) (j : Nat) (d : D), frM ms en = true → en[j]? = some (.o true d) → (wpM ms en)[j]? = some (.o true d)
  | [], en, j, d, _, h => by cases en <;> exact h
  | true :: ms, [], j, d, _, h => h
  | false :: ms, [], j, d, _, h => h
  | true :: ms, t :: en, 0, d, f, h => by
    cases h
    cases f
  | false :: ms, t :: en, 0, d, f, h => h
  | true :: ms, t :: en, j + 1, d, f, h => wpM_keep ms en j d (by
    have : (frS t && frM ms en) = true := f
    simp only [Bool.and_eq_true] at this
    exact this.2) h
  | false :: ms, t :: en, j + 1, d, f, h => wpM_keep ms en j d f h
section
variable {K : PySem.W.Frag} {W : WX} {B B' B1 : Addr → Prop} {U U' : Addr → Prop} {H H' H1 : Hp} {σ σ' σ1 : L2.St} {en en' en1 e : En} {ms : List Bool} {D0 : Ends} {f : En → Fl}
theorem own_wp {a : Addr} (h : Own H σ (wpM ms en) a) : Own H σ en a := by
  obtain ⟨j, b, d, p, e, s, r⟩ := h
  rcases wpM_get _ _ _ _ e with q | q
  · cases q
  · exact ⟨j, b, d, p, q, s, r⟩
theorem Good.wp (G : Good K B H σ en) : Good K B H σ (wpM ms en) := by
  have t : ∀ a o, H a = some o → ¬ Un B H σ en a → H a = some o ∧ ¬ Un B H σ (wpM ms en) a := fun a o x n => ⟨x, fun z => n (z.imp id own_wp)⟩
  exact {
    len := by rw [wpM_len]; exact G.len
    all := G.all
    rep := fun j d e => by
      rcases wpM_get _ _ _ _ e with q | q
      · cases q
      · obtain ⟨v, s, r⟩ := G.rep j d q
        exact ⟨v, s, Rep.to t d v r⟩
    own := fun j b d e => by
      rcases wpM_get _ _ _ _ e with q | q
      · cases q
      · obtain ⟨p, s, n1, c⟩ := G.own j b d q
        exact ⟨p, s, n1, Cont.to t (fun _ _ _ x => x) c⟩
    inj := fun j k q q' a b c d d' e1 e2 s1 s2 => by
      rcases wpM_get _ _ _ _ e1 with z | q1
      · cases z
      · rcases wpM_get _ _ _ _ e2 with z | q2
        · cases z
        · exact G.inj j k q q' a b c d d' q1 q2 s1 s2 }
theorem Stp.wp (s : Stp σ en H σ' e H') (h : frM ms e = true) : Stp σ en H σ' (wpM ms e) H' where
  len := by rw [wpM_len]; exact s.len
  fr := s.fr
  al := s.al
  ow := fun a h => s.ow a (own_wp h)
  of := fun a h => s.of a (by
    obtain ⟨j, d, p, e, q⟩ := h
    rcases wpM_get _ _ _ _ e with z | z
    · cases z
    · exact ⟨j, d, p, z, q⟩)
  pin := fun i d e1 => by
    obtain ⟨q, d', e2⟩ := s.pin i d e1
    exact ⟨q, d', wpM_keep _ _ _ _ h e2⟩
  pb := fun i d e1 => by
    rcases wpM_get _ _ _ _ e1 with z | z
    · cases z
    · exact s.pb i d z
  pr := fun i d d' p a e1 e2 q r => by
    rcases wpM_get _ _ _ _ e2 with z | z
    · cases z
    · exact s.pr i d d' p a e1 z q r
theorem endImp (m : RdS K W (endF ms f) D0 σ H) : RdS K W f D0 σ H := by
  obtain ⟨B, en, G, m⟩ := RdS.qs m
  refine ⟨B, en, G, ?_⟩
  unfold endF at m
  cases e : f en with
  | nx en1 =>
    rw [e] at m
    dsimp only at m
    cases h : frM ms en1 with
    | false => rw [h] at m; exact m.elim
    | true =>
      rw [h] at m
      exact fun σ' H' g' st => m σ' H' g'.wp (st.wp h)
  | bk en1 => rw [e] at m; exact m
  | ct en1 => rw [e] at m; exact m
  | rt r en1 => rw [e] at m; exact m
  | exc x en1 => rw [e] at m; exact m
  | bad => rw [e] at m; exact m
theorem bodImp (m : RdS K W (bodF ms f) D0 σ H) : RdS K W f D0 σ H := by
  obtain ⟨B, en, G, m⟩ := RdS.qs m
  refine ⟨B, en, G, ?_⟩
  unfold bodF at m
  cases e : f en with
  | nx en1 =>
    rw [e] at m
    dsimp only at m
    cases h : frM ms en1 with
    | false => rw [h] at m; exact m.elim
    | true =>
      rw [h] at m
      exact fun σ' H' g' st => m σ' H' g'.wp (st.wp h)
  | ct en1 =>
    rw [e] at m
    dsimp only at m
    cases h : frM ms en1 with
    | false => rw [h] at m; exact m.elim
    | true =>
      rw [h] at m
      exact fun σ' H' g' st => m σ' H' g'.wp (st.wp h)
  | bk en1 => rw [e] at m; exact m
  | rt r en1 => rw [e] at m; exact m
  | exc x en1 => rw [e] at m; exact m
  | bad => rw [e] at m; exact m
variable {X : Cx} {st : Stmt} {l : List Stmt}
theorem s_end (h : PS X st (RdS X.K W f)) : PS X st (RdS X.K W (endF ms f)) := ps_imp h fun D σ H m => endImp m
theorem s_bod (h : PSs X l (RdS X.K W f)) : PSs X l (RdS X.K W (bodF ms f)) := pss_imp h fun D σ H m => bodImp m
end
theorem frM_t {ms : List Bool} {s : Sl} {en : En} : frM (true :: ms) (s :: en) = (frS s && frM ms en) := rfl
theorem frM_f {ms : List Bool} {s : Sl} {en : En} : frM (false :: ms) (s :: en) = frM ms en := rfl
theorem frM_n {en : En} : frM [] en = true := by cases en <;> rfl
theorem wpM_t {ms : List Bool} {s : Sl} {en : En} : wpM (true :: ms) (s :: en) = .e :: wpM ms en := rfl
theorem wpM_f {ms : List Bool} {s : Sl} {en : En} : wpM (false :: ms) (s :: en) = s :: wpM ms en := rfl
theorem wpM_n {en : En} : wpM [] en = en := by cases en <;> rfl
noncomputable def endK (ms : List Bool) (k : Fl → Prop) (o : Fl) (_ : Tg k := ⟨⟩) : Prop := match o with
  | .nx e => frM ms e = true ∧ k (.nx (wpM ms e))
  | .bad => False
  | o => k o
noncomputable def bodK (ms : List Bool) (k : Fl → Prop) (o : Fl) (_ : Tg k := ⟨⟩) : Prop := match o with
  | .nx e => frM ms e = true ∧ k (.nx (wpM ms e))
  | .ct e => frM ms e = true ∧ k (.ct (wpM ms e))
  | .bad => False
  | o => k o
section
variable {ms : List Bool} {k : Fl → Prop} {e : En} {f : En → Fl} {r : R} {x : Ex}
theorem endK_nx : endK ms k (.nx e) = (frM ms e = true ∧ k (.nx (wpM ms e))) := rfl
theorem endK_rt : endK ms k (.rt r e) = k (.rt r e) := rfl
theorem endK_bk : endK ms k (.bk e) = k (.bk e) := rfl
theorem endK_ct : endK ms k (.ct e) = k (.ct e) := rfl
theorem endK_exc : endK ms k (.exc x e) = k (.exc x e) := rfl
theorem bodK_nx : bodK ms k (.nx e) = (frM ms e = true ∧ k (.nx (wpM ms e))) := rfl
theorem bodK_rt : bodK ms k (.rt r e) = k (.rt r e) := rfl
theorem bodK_bk : bodK ms k (.bk e) = k (.bk e) := rfl
theorem bodK_ct : bodK ms k (.ct e) = (frM ms e = true ∧ k (.ct (wpM ms e))) := rfl
theorem bodK_exc : bodK ms k (.exc x e) = k (.exc x e) := rfl
theorem os_end {en : En} : okS (endF ms f) en k = okS f en fun o => endK ms k o := by
  unfold okS endF
  cases f en with
  | nx e1 =>
    dsimp only [endK]
    cases h : frM ms e1 <;> simp
  | _ => rfl
theorem os_endFr {it : M (List D)} {g : D → M Unit} {en : En} : okS (endF ms (frF it g f)) en k = okS (frF it g f) en fun o => endK ms k o := os_end
theorem os_endWh {t : M Bool} {n : Nat} {en : En} : okS (endF ms (whF t f n)) en k = okS (whF t f n) en fun o => endK ms k o := os_end
theorem os_endA {i : Nat} {g : M R} {en : En} : okS (endF ms (asV i g)) en k = okS (asV i g) en fun o => endK ms k o := os_end
theorem os_endO {i : Nat} {g : M R} {en : En} : okS (endF ms (asO i g)) en k = okS (asO i g) en fun o => endK ms k o := os_end
theorem os_endG {gg : D → M Unit} {g : M R} {en : En} : okS (endF ms (asG gg g)) en k = okS (asG gg g) en fun o => endK ms k o := os_end
theorem os_endP {i j : Nat} {g : M (List R)} {en : En} : okS (endF ms (asP i j g)) en k = okS (asP i j g) en fun o => endK ms k o := os_end
theorem os_endD {g : M R} {en : En} : okS (endF ms (drF g)) en k = okS (drF g) en fun o => endK ms k o := os_end
theorem os_endS {i : Nat} {a b : M R} {u : D → D → D → Option D} {en : En} : okS (endF ms (stF i a b u)) en k = okS (stF i a b u) en fun o => endK ms k o := os_end
theorem os_endIf {t : M Bool} {g : En → Fl} {en : En} : okS (endF ms (ifS t f g)) en k = okS (ifS t f g) en fun o => endK ms k o := os_end
theorem os_bod {en : En} : okS (bodF ms f) en k = okS f en fun o => bodK ms k o := by
  unfold okS bodF
  cases f en with
  | nx e1 =>
    dsimp only [bodK]
    cases h : frM ms e1 <;> simp
  | ct e1 =>
    dsimp only [bodK]
    cases h : frM ms e1 <;> simp
  | _ => rfl
end
theorem e_strT {X : Cx} {W : WX} {s t : Str} {j} {pos : Pos} (h : s = t) : PE X (.Constant (.str s) j pos) (RdE X.K W (cF (.str t))) := h ▸ e_str
theorem is_nn {n : Bool} : isOp n [.non, .non] = some (false, .bl (true != n)) := rfl
theorem is_in {n : Bool} {i : Int} : isOp n [.int i, .non] = some (false, .bl (false != n)) := rfl
theorem is_sn {n : Bool} {i : Str} : isOp n [.str i, .non] = some (false, .bl (false != n)) := rfl
theorem is_tn {n : Bool} {i : List D} : isOp n [.tup i, .non] = some (false, .bl (false != n)) := rfl
theorem is_ln {n : Bool} {i : List D} : isOp n [.lst i, .non] = some (false, .bl (false != n)) := rfl
theorem is_bn {n : Bool} {i : Bool} : isOp n [.bl i, .non] = some (false, .bl (false != n)) := rfl
theorem ok_lcX (P : Nat → List D → En → Prop) {g : D → M Unit} {tt : M Bool} {te : M R} {vs : List Nat} {x : Ex → En → Prop} {k : List D → En → Prop} {ds : List D} {en : En} (h0 : P 0 [] en) (hn : ds.length ≤ 1000000)
    (hs : ∀ i d, ds[i]? = some d → ∀ acc en, acc.length ≤ i → P i acc en → okE (g d) en (fun _ en1 => okE tt en1 (fun b en2 => bi b (okE te en2 (fun r en3 => okL (stoD r) fun y => P (i + 1) (acc ++ [y]) (wipeE vs en3)) fun _ _ => False) (P (i + 1) acc (wipeE vs en2))) fun _ _ => False) fun _ _ => False)
    (hd : ∀ acc en, acc.length ≤ ds.length → P ds.length acc en → k acc en) : okE (lcL g tt te vs ds []) en k x := by
  refine ok_lcL (fun pre r acc en => P pre.length acc en ∧ pre ++ r = ds ∧ acc.length ≤ pre.length) ds [] [] en ⟨h0, rfl, Nat.le_refl _⟩ ?_ ?_
  · rintro pre d r acc en ⟨h, hl, ha⟩
    have hlen : pre.length < ds.length := by rw [← hl]; simp
    have hg : ds[pre.length]? = some d := by rw [← hl]; simp
    have l' : (pre ++ [d]).length = pre.length + 1 := by simp
    refine oe_mono (hs _ d hg acc en ha h) (fun _ e1 h1 => oe_mono h1 (fun b e2 h2 => ?_) fun _ _ z => z) fun _ _ z => z
    cases b with
    | false => rw [bi_false] at h2 ⊢; exact ⟨by rw [l']; exact h2, by rw [← hl]; simp, by simp; omega⟩
    | true =>
      rw [bi_true] at h2 ⊢
      refine oe_mono h2 (fun r3 e3 h3 => ?_) fun _ _ z => z
      revert h3
      cases stoD r3 with
      | none => exact id
      | some y =>
        intro h3
        exact ⟨by omega, by rw [l']; exact h3, by rw [← hl]; simp, by simp; omega⟩
  · rintro pre acc en ⟨h, hl, ha⟩
    have e : pre = ds := by rw [← hl]; simp
    subst e
    exact hd acc en ha h
end PyD

namespace PyD
open PySem PySem.Spec L2 PyProof.Rows
noncomputable def pyK : Key → PyData
  | .inl i => .int i
  | .inr s => .str s
noncomputable def sortK (ks : List Key) : List Key := ks.mergeSort (PySem.W.dataLe false pyK)
noncomputable def rSortD : List V → Hp → VK → Prop := fun xs H Q => ∃ (a : Addr) (kvs : List (Key × V)), xs = [.ref a] ∧ Rd H a (.dK kvs) ∧ PySem.W.AllAlike ((kvs.map (·.1)).map pyK) ∧
  ∀ p, H p = none → Q (.ref p) (upd H p (.lst ((sortK (kvs.map (·.1))).map kV)))
theorem vals_each : ∀ {ks : List Key} {us : List Value}, Vals (ks.map kV) us → PySem.W.EachIs (fun (v : Value) (k : Key) => RelV (kV k) v) us ks
  | [], _, h => by cases h; exact .nil
  | k :: ks, _, h => by
    cases h with
    | cons r rs => exact .cons r (vals_each rs)
theorem each_valsK : ∀ {ks : List Key} {us : List Value}, PySem.W.EachIs (fun (v : Value) (k : Key) => RelV (kV k) v) us ks → Vals (ks.map kV) us
  | [], _, h => by cases h; exact .nil
  | k :: ks, _, h => by
    cases h with
    | cons r rs => exact .cons r (each_valsK rs)
theorem reads_key {h : Heap} {a : Addr} {k : Key} {v : Value} (r : RelV (kV k) v) : ∃ as, Reads h v (pyK k) as ∧ a ∉ as := by
  cases k with
  | inl i =>
    obtain ⟨t, rfl⟩ := r
    exact ⟨[], .int i t, by simp⟩
  | inr x =>
    obtain ⟨t, rfl⟩ := r
    exact ⟨[], .str x t, by simp⟩
theorem sortable_keys (ks : List Key) : PySem.W.Sortable (ks.map pyK) := by
  refine .inr fun d hd => ?_
  obtain ⟨k, _, rfl⟩ := List.mem_map.mp hd
  cases k with
  | inl i => exact ⟨fun z => by (cases z), fun _ z => by (cases z)⟩
  | inr i => exact ⟨fun z => by (cases z), fun _ z => by (cases z)⟩
theorem cr_sortedDK {X : Cx} (hcalm : X.calm = true) (hu : X.A.units + 64 < cLine) : CallR X (.builtin "sorted") rSortD := by
  intro pins s σ H xs us Q I r q
  obtain ⟨a, kvs, ex, hd, hal, q⟩ := q
  subst ex
  obtain ⟨u, eu, rx⟩ := vals1 r
  subst eu
  cases rx
  obtain ⟨z, lo, vs, rel, dd⟩ := dk_rd I.hok hd
  obtain ⟨ep, hat⟩ := dd.dictAt
  have hkeys : vs.map (·.1) = kvs.map (·.1) := rel.keys.symm
  have hl : vs.length = kvs.length := by
    have e := congrArg List.length hkeys
    rw [List.length_map, List.length_map] at e
    exact e
  have h16 : vs.length ≤ sizeLine := by rw [hl]; exact z
  refine Calls.call_function_entry PyProof.Rows.kind_sorted PyProof.Rows.plain_sorted PyProof.Rows.entry_sorted (PyProof.Rows.args_sorted1 _) ?_
  unfold Builtin.«sorted»
  refine wpAny_bind (m := checkCount "sorted" 1 1 _) (wpAny_pure ?_)
  refine wpAny_bind (PySem.W.kdu_collect (A := X.A.in1) (PySem.W.kdl_dict (knd := mixKind X.prog X.w) (kvs := vs) (ep := ep) lo) (I.ok.hd hcalm) hat h16 fun h' tk acc hk hacc => ?_)
  have hal2 : acc.toList.length = kvs.length := by rw [Array.length_toList, hacc.1, hl]
  have hvals : Vals ((kvs.map (·.1)).map kV) acc.toList := by
    have := keys_at (us := acc.toList) (vs := vs) (by rw [hal2, hl]) fun j v e => hacc.2 j v (by rw [← Array.getElem?_toList]; exact e)
    rw [← hkeys, List.map_map]
    exact this
  have I1 : Inv X pins σ H { s with heap := h', toks := tk } := I.kept hk
  refine wpAny_bind (wpAny_newList ?_ (by rw [hal2, ← hl]; exact h16))
  have hoL : (h'.push (seqObj "list" acc.toList.toArray 0)).get? h'.objs.size = some (seqObj "list" acc.toList.toArray 0) := Heap.get?_push_size _ rfl
  show wpAny _ _ _ _ _ { s with heap := h'.push (seqObj "list" acc.toList.toArray 0), toks := tk }
  have he := vals_each hvals
  refine wpAny_bind (wpAny_holding (PySem.W.list_sort_data (s := { s with heap := h'.push (seqObj "list" acc.toList.toArray 0), toks := tk }) (enc := pyK) hoL he (he.mono fun v k rv => reads_key rv) hal (sortable_keys _) (by rw [List.length_map]; rw [← hl]; exact h16) (fun k hk => ?_) fun out h1 h2 => ?_))
  · have : (pyK k).depth ≤ 1 := by cases k <;> simp [pyK, PyData.depth]
    have : X.A.in1.units ≤ X.A.units + 2 := by simp [Around.in1]
    have : X.A.in1.in1.units ≤ X.A.units + 2 := by simp [Around.in1]
    omega
  obtain ⟨e', he'⟩ := PyProof.Rows.sortedHeap_at (vs := acc.toList) (out := out.toArray) hoL
  have hlen : ((sortK (kvs.map (·.1))).map kV).length ≤ sizeLine := by
    rw [List.length_map, sortK, List.length_mergeSort, List.length_map, ← hl]
    exact h16
  refine wpAny_pure ⟨_, rfl, .ref h'.objs.size, upd H h'.objs.size (.lst ((sortK (kvs.map (·.1))).map kV)), I1.laid (t' := tk) (fun b u e => ?_) (Nat.le_refl _)
    (show ObjOk X.prog X.w _ _ _ (.lst ((sortK (kvs.map (·.1))).map kV)) from ⟨hlen, out, e', each_valsK h2, he'⟩), rfl, q _ (I1.hok.fresh (Nat.le_refl _))⟩
  have hb : b < h'.objs.size := Heap.lt_size e
  rw [PyProof.Rows.sortedHeap_old (Nat.ne_of_lt hb) (by rw [size_push']; exact Nat.lt_succ_of_lt hb)]
  exact Heap.get?_push_of_some _ e
noncomputable def rSortT (K : PySem.W.Frag) : List V → Hp → VK → Prop := fun xs H Q => ∃ (a : Addr) (ns : List Int), xs = [.ref a] ∧ SqT K H a (ns.map V.int) ∧
  ∀ p, H p = none → Q (.ref p) (upd H p (.lst ((sortK (ns.map Sum.inl)).map kV)))
theorem alike_ints (ns : List Int) : PySem.W.AllAlike (((ns.map Sum.inl : List Key)).map pyK) := by
  intro d hd d' hd'
  obtain ⟨p, hp, rfl⟩ := List.mem_map.mp hd
  obtain ⟨p', hp', rfl⟩ := List.mem_map.mp hd'
  obtain ⟨q, _, rfl⟩ := List.mem_map.mp hp
  obtain ⟨q', _, rfl⟩ := List.mem_map.mp hp'
  rfl
theorem cr_sortedT {X : Cx} (hu : X.A.units + 64 < cLine) : CallR X (.builtin "sorted") (rSortT X.K) := by
  intro pins s σ H xs us Q I r q
  obtain ⟨a, ns, ex, hs, q⟩ := q
  subst ex
  obtain ⟨its, rv, ⟨o, ho, hcls, n, hdat⟩, hz⟩ := I.tuple hs
  rw [Vals.ref1 r]
  have hl : its.length = ns.length := by
    have e := rv.length
    rw [List.length_map] at e
    omega
  have h16 : its.length ≤ sizeLine := by
    rw [List.length_map] at hz
    omega
  refine Calls.call_function_entry PyProof.Rows.kind_sorted PyProof.Rows.plain_sorted PyProof.Rows.entry_sorted (PyProof.Rows.args_sorted1 _) ?_
  unfold Builtin.«sorted»
  refine wpAny_bind (m := checkCount "sorted" 1 1 _) (wpAny_pure ?_)
  refine wpAny_bind (wpAny_collect_seq (A := X.A.in1) a (.inr rfl) ho hcls hdat (fun h' hk => ?_) (hsz := by simpa using h16))
  have I1 : Inv X pins σ H { s with heap := h' } := I.kept hk
  show wpAny _ _ (newList its >>= _) _ _ _
  refine wpAny_bind (wpAny_newList ?_ h16)
  have hoL : (h'.push (seqObj "list" its.toArray 0)).get? h'.objs.size = some (seqObj "list" its.toArray 0) := Heap.get?_push_size _ rfl
  have hvals : Vals (((ns.map Sum.inl : List Key)).map kV) its := by
    rw [List.map_map]
    exact rv
  show wpAny _ _ _ _ _ { s with heap := h'.push (seqObj "list" its.toArray 0) }
  have he := vals_each hvals
  refine wpAny_bind (wpAny_holding (PySem.W.list_sort_data (s := { s with heap := h'.push (seqObj "list" its.toArray 0) }) (enc := pyK) hoL he (he.mono fun v k rv => reads_key rv) (alike_ints ns) (sortable_keys _) (by rw [List.length_map, ← hl]; exact h16) (fun k hk => ?_) fun out h1 h2 => ?_))
  · have : (pyK k).depth ≤ 1 := by cases k <;> simp [pyK, PyData.depth]
    have : X.A.in1.units ≤ X.A.units + 2 := by simp [Around.in1]
    have : X.A.in1.in1.units ≤ X.A.units + 2 := by simp [Around.in1]
    omega
  obtain ⟨e', he'⟩ := PyProof.Rows.sortedHeap_at (vs := its) (out := out.toArray) hoL
  have hlen : ((sortK (ns.map Sum.inl)).map kV).length ≤ sizeLine := by
    rw [List.length_map, sortK, List.length_mergeSort, List.length_map, ← hl]
    exact h16
  refine wpAny_pure ⟨_, rfl, .ref h'.objs.size, upd H h'.objs.size (.lst ((sortK (ns.map Sum.inl)).map kV)), I1.laid (t' := s.toks) (fun b u e => ?_) (Nat.le_refl _)
    (show ObjOk X.prog X.w _ _ _ (.lst ((sortK (ns.map Sum.inl)).map kV)) from ⟨hlen, out, e', each_valsK h2, he'⟩), rfl, q _ (I1.hok.fresh (Nat.le_refl _))⟩
  have hb : b < h'.objs.size := Heap.lt_size e
  rw [PyProof.Rows.sortedHeap_old (Nat.ne_of_lt hb) (by rw [size_push']; exact Nat.lt_succ_of_lt hb)]
  exact Heap.get?_push_of_some _ e
noncomputable def dK : Key → D
  | .inl i => .int i
  | .inr s => .str s
noncomputable def sortUD : List D → Option (Bool × D)
  | [.lst ds] => sortD [.lst ds]
  | [.dic kvs] => if PySem.W.AllAlike ((kvs.map (·.1)).map pyK) then some (true, .lst ((sortK (kvs.map (·.1))).map dK)) else none
  | [.tup ds] => (asInts ds).map fun ns => (true, .lst ((sortK (ns.map Sum.inl)).map dK))
  | _ => none
theorem dK_rep {K : PySem.W.Frag} {U : Addr → Prop} {H : Hp} (k : Key) : Rep K U H (dK k) (kV k) := by
  cases k with
  | inl i => exact repInt
  | inr s => exact repStr
theorem dKs_rep {K : PySem.W.Frag} {U : Addr → Prop} {H : Hp} : ∀ ks : List Key, RepL K U H (ks.map dK) (ks.map kV)
  | [] => RepL.nil
  | k :: ks => RepL.cons (dK_rep k) (dKs_rep ks)
theorem RepK.keq {K : PySem.W.Frag} {U : Addr → Prop} {H : Hp} : ∀ {ds : List (Key × D)} {vs : List (Key × V)}, RepK K U H ds vs → vs.map (·.1) = ds.map (·.1)
  | [], vs, r => by rw [r.nil_inv]; rfl
  | (k, d) :: ds, vs, r => by
    obtain ⟨v, s, rfl, h, r'⟩ := r.inv
    rw [List.map_cons, List.map_cons, RepK.keq r']
theorem prim_sortU {K : PySem.W.Frag} : Prim K (fun xs H Q => rSortA K xs H Q ∨ rSortD xs H Q ∨ rSortT K xs H Q) sortUD := by
  intro U H ds vs Q b d hU ar e post
  unfold sortUD at e
  split at e
  · exact .inl (prim_sort U H _ vs Q b d hU ar e post)
  · split at e
    · rename_i hal
      cases e
      obtain ⟨v, rfl, h1⟩ := ar1 ar
      obtain ⟨p, ws, rfl, hp, r⟩ := arDic h1
      rename_i kvs
      have hk := r.keq
      refine .inr (.inl ⟨p, ws, rfl, .inl hp, by rw [hk]; exact hal, fun q hq => ?_⟩)
      rw [hk]
      exact post _ _ (ext_new hq) (fun z => by cases z) fun _ => newLst hq (dKs_rep _)
    · cases e
  · rename_i ds
    obtain ⟨v, rfl, h1⟩ := ar1 ar
    obtain ⟨p, ws, rfl, _, hp, r⟩ := arTup h1
    cases q : asInts ds with
    | none => rw [q] at e; cases e
    | some ns =>
      rw [q] at e
      cases e
      rw [asInts_of q] at r
      rw [r.ints] at hp
      exact .inr (.inr ⟨p, ns, rfl, SqT.of hp, fun q hq => post _ _ (ext_new hq) (fun z => by cases z) fun _ => newLst hq (dKs_rep _)⟩)
  · cases e
theorem cr_sortedU {X : Cx} (hc : X.calm = true) (hu : X.A.units + 64 < cLine) : CallR X (.builtin "sorted") (fun xs H Q => rSortA X.K xs H Q ∨ rSortD xs H Q ∨ rSortT X.K xs H Q) := CallR.or (cr_sortedA hu) (CallR.or (cr_sortedDK hc hu) (cr_sortedT hu))
end PyD

namespace PyD
open PySem PySem.Spec L2 PyProof.Rows
section
variable {prog : Program} {w : World} {A : Around} {E : Value → Shared → Prop} {s : Shared} {l : Addr}
end
theorem op_niV {X : Cx} (hu : X.A.units + 1 < cLine) : OpR X (compareOp .NotIn) (rInV X.K true) := by
  refine OpR.or op_niU ?_
  intro pins s σ H x y v u Q I rx ry h
  obtain ⟨a, ov, rfl, g, q⟩ := h
  obtain rfl : u = Value.ref a := ry
  exact d_notIn hu I g rx fun s3 I3 => ⟨.bl !ov.isSome, H, I3, rfl, by
    have e : (ov.isSome != true) = !ov.isSome := by cases ov <;> rfl
    rw [e] at q
    exact q⟩
end PyD

namespace PyD
open PySem PySem.Spec L2 PyProof.Rows
noncomputable def badF : En → Fl := fun _ => .bad
theorem s_bad {X : Cx} {W : WX} {st : Stmt} : PS X st (RdS X.K W badF) := ps_imp ps_never fun D σ H ⟨B, en, G, m⟩ => m
end PyD

section
set_option maxHeartbeats 4000000
namespace PyD
open PySem PySem.Spec L2 PyProof.Rows
theorem tuple_mul1 (l : Addr) (items : Array Value) (n : Nat) (dd : Option Addr) (sl : Array (Option Value)) (u : Tok) :
    Meets (Builtin.«tuple.__mul__» ⟨[.ref l, .int 1 u], []⟩) (fun _ R s => s.heap.get? l = some { cls := .type "tuple", dict := dd, data := .seq items n, slots := sl } ∧ R (.ok (.ret (Value.ref l))) s) :=
  .of_wp fun prog w A R s h => by
    obtain ⟨hp, g, d, tk, os⟩ := s
    obtain ⟨hl, h⟩ := h
    have f1 := AutoSeq1.idx_int
    have c1 : (items.isEmpty || (1 : Int) == 1) = true := by simp
    have c0 : (decide ((1 : Int) < -(2 ^ 63)) || decide ((1 : Int) ≥ 2 ^ 63)) = false := by decide
    wp_walk using wpAny_loadPart' hl
    repeat (first
      | (refine wpAny_ite_false (decide_eq_false (by rw [c0]; exact Bool.false_ne_true)) ?_; wp_walk using wpAny_loadPart' hl)
      | (refine wpAny_ite_true (decide_eq_true (by rw [c1])) ?_; wp_walk using wpAny_loadPart' hl))
    exact ⟨_, rfl, h⟩
noncomputable def rRep1 (K : PySem.W.Frag) : R2 := fun x y H Q => ∃ l xs, x = .ref l ∧ y = .int 1 ∧ SqT K H l xs ∧ Q (.ref l) H
theorem op_repT1 {X : Cx} : OpR X (binaryOp .Mult) (rRep1 X.K) := by
  intro pins s σ H x y v u Q I rx ry h
  obtain ⟨l, xs, rfl, rfl, hT, q⟩ := h
  cases rx
  obtain ⟨t, rfl⟩ := ry
  obtain ⟨its, r, ⟨⟨cls, dd, data, sl⟩, ho, hc, n, hd⟩, hs⟩ := I.tuple hT
  simp only at hc hd
  subst hc hd
  refine wpAny_binaryOp_repeat_ref (T := "tuple") (U := "int") (by decide) ⟨_, ho, rfl⟩ (fun s' => typeIs_int s' 1 t) noFill_tuple_mul F.fills_int_mul F.slot_int_rmul repeat_tuple F.slot_int_index.lookup
    (call_meets F.slot_int_rmul (typeIs_int s 1 t) F.entry_int_rmul (F.args_int_rmul_2 _ _) (int_rmul_tuple 1 t l its.toArray n dd sl)
      ⟨ho, rfl, ⟨_, ho, rfl⟩, call_meets F.slot_tuple_mul ⟨_, ho, rfl⟩ F.entry_tuple_mul (F.args_tuple_mul_2 _ _) (tuple_mul1 l its.toArray n dd sl t) ⟨ho, ?_⟩⟩)
  exact ⟨.ref l, H, I, rfl, q⟩
noncomputable def mulVD : List D → Option (Bool × D)
  | [.tup a, .int k] => if k = 1 then some (false, .tup a) else mulD [.tup a, .int k]
  | ds => mulD ds
noncomputable def rMulV (K : PySem.W.Frag) : R2 := fun x y H Q => rMulU K x y H Q ∨ rRep1 K x y H Q
theorem op_mulV {X : Cx} : OpR X (binaryOp .Mult) (rMulV X.K) := OpR.or op_mulU op_repT1
theorem prim_mulV {K : PySem.W.Frag} : Prim K (r2 (rMulV K)) mulVD := by
  intro U H ds vs Q b d hU ar e post
  unfold mulVD at e
  split at e
  · split at e
    · rename_i hk
      cases e
      obtain ⟨v, w, rfl, h1, h2⟩ := ar2 ar
      have h1' := h1
      obtain ⟨p1, xs, rfl, n1, q1, r1⟩ := arTup h1
      rw [arInt h2, hk]
      exact ⟨_, _, rfl, .inr ⟨p1, xs, rfl, rfl, SqT.of q1, post _ H (Ext.refl H) (fun _ => h1') (fun z => by cases z)⟩⟩
    · obtain ⟨x, y, e1, q⟩ := prim_mul (K := K) U H _ vs Q b d hU ar e post
      exact ⟨x, y, e1, .inl q⟩
  · obtain ⟨x, y, e1, q⟩ := prim_mul (K := K) U H _ vs Q b d hU ar e post
    exact ⟨x, y, e1, .inl q⟩
theorem mulV_int {a b : Int} : mulVD [.int a, .int b] = if mulOk a b then some (false, .int (a * b)) else none := rfl
end PyD

end

section
set_option maxHeartbeats 4000000
namespace PyD
open PySem PySem.Spec L2
section
variable {K : PySem.W.Frag} {B : Addr → Prop} {H : Hp} {σ : L2.St} {en : En} {v : V}
end
end PyD

end

section
set_option maxHeartbeats 4000000
namespace PyD
open PySem PySem.Spec L2 PyProof.Rows
noncomputable def dedI : List Int → List Int
  | [] => []
  | a :: r => if a ∈ r then dedI r else a :: dedI r
theorem dedI_mem {k : Int} : ∀ {ns : List Int}, k ∈ dedI ns ↔ k ∈ ns
  | [] => Iff.rfl
  | a :: r => by
    unfold dedI
    split
    · rename_i h
      rw [dedI_mem, List.mem_cons]
      exact ⟨.inr, fun z => z.elim (fun e => e ▸ h) id⟩
    · rw [List.mem_cons, List.mem_cons, dedI_mem]
theorem dedI_nodup : ∀ ns : List Int, (dedI ns).Nodup
  | [] => List.nodup_nil
  | a :: r => by
    unfold dedI
    split
    · exact dedI_nodup r
    · rename_i h
      exact List.nodup_cons.mpr ⟨fun z => h (dedI_mem.mp z), dedI_nodup r⟩
noncomputable def leI (a b : Int) : Bool := decide (a ≤ b)
noncomputable def ssort (ns : List Int) : List Int := (dedI ns).mergeSort leI
theorem leI_trans : ∀ a b c : Int, leI a b = true → leI b c = true → leI a c = true := fun a b c h h' => by
  unfold leI at *
  rw [decide_eq_true_eq] at *
  omega
theorem leI_total : ∀ a b : Int, (leI a b || leI b a) = true := fun a b => by
  unfold leI
  rw [Bool.or_eq_true, decide_eq_true_eq, decide_eq_true_eq]
  omega
theorem leI_key (a b : Int) : leI a b = PySem.W.dataLe false pyK (.inl a) (.inl b) := by
  show _ = !(PyProof.Rows.listOrd PyProof.Rows.itemOrd).blt [.inl b] [.inl a]
  have l2 : ∀ x y : Int, PyProof.Rows.itemOrd.blt (.inl x) (.inl y) = decide (x < y) := fun _ _ => rfl
  show _ = !PyProof.Rows.lexLt PyProof.Rows.itemOrd [.inl b] [.inl a]
  unfold PyProof.Rows.lexLt
  rw [l2, l2]
  unfold leI
  by_cases h : a ≤ b
  · rw [decide_eq_true h, decide_eq_false (show ¬ b < a by omega)]
    by_cases h2 : a < b
    · rw [decide_eq_true h2]; rfl
    · rw [decide_eq_false h2]; rfl
  · rw [decide_eq_false h, decide_eq_true (show b < a by omega)]
    rfl
theorem sortK_ints {out ns : List Int} (nd : out.Nodup) (hm : ∀ k, k ∈ out ↔ k ∈ ns) : (sortK (out.map Sum.inl)).map kV = (ssort ns).map V.int := by
  unfold sortK ssort
  rw [← List.map_mergeSort (r := leI) (s := PySem.W.dataLe false pyK) (f := Sum.inl) (fun a _ b _ => leI_key a b), List.map_map]
  have p : out.Perm (dedI ns) := (List.perm_ext_iff_of_nodup nd (dedI_nodup ns)).mpr fun k => by rw [hm, dedI_mem]
  have e : out.mergeSort leI = (dedI ns).mergeSort leI := by
    refine List.Perm.eq_of_pairwise (le := fun a b => leI a b = true) (fun a b _ _ x y => ?_) (List.pairwise_mergeSort leI_trans leI_total _) (List.pairwise_mergeSort leI_trans leI_total _) (((List.mergeSort_perm _ _).trans p).trans (List.mergeSort_perm _ _).symm)
    unfold leI at x y
    rw [decide_eq_true_eq] at x y
    omega
  rw [e]
  rfl
section
variable {P : Program} {w : World} {A : Around} {E : Value → Shared → Prop} {s : Shared}
theorem set_of_list {m : Addr} {xs : Array Value} (ks : List Int) {Q : Value → Shared → Prop} (h0 : A.handled = none) (hm : s.heap.IsList m xs) (hx : IntsAre xs.toList ks) (hk : ks.length + 1 < scanBound)
    (post : ∀ (g : Heap) (tk c : Nat), SetR w g s.heap.objs.size (fun j => decide (j ∈ ks)) c → c ≤ ks.length → (∀ b o, s.heap.get? b = some o → g.get? b = some o) → Q (.ref s.heap.objs.size) { s with heap := g, toks := tk }) :
    wpAny (model P w) A (call (.type "set") [.ref m]) Q E s := by
  have hsz : xs.size = ks.length := by rw [← hx.length, Array.length_toList]
  obtain ⟨cc, tl, hmro⟩ := F.called_set.mro
  have c1 := F.called_set.made
  have c2 := F.called_set.sub
  refine wpAny_call (codeAny_of_tree ?_)
  show wpAny _ _ (callAny (.type "set") _) _ _ _
  refine wpAny_pure ⟨Code.quiet_builtin _ (by decide +kernel), codeAny_builtin F.entry_type_call ?_⟩
  rw [Around.under_plain (weight_type_call_type "set" [.ref m] []) rfl]
  have c3 := F.called_set.notType
  have c4 := F.called_set.canCreate
  have c5 := F.typeCall_set_1 (.ref m)
  repeat (any_goals (first | assumption | wp_step))
  refine codeAny_mono (code_set_led1 (.ref m) (E := E) (Q₁ := fun ob t => ob = .ref s.heap.objs.size ∧ t = { s with heap := s.heap.push ({ cls := .type "set", dict := none, data := .set #[] 0 (.fresh 0 0 (!w.params.followText "set-order")) } : Obj) }) ⟨rfl, rfl⟩) fun r t hr => ?_
  cases r with
  | error e => exact hr
  | ok fl =>
    cases fl with
    | ret ob =>
      obtain ⟨rfl, rfl⟩ := hr
      have d1 : (s.heap.push ({ cls := .type "set", dict := none, data := .set #[] 0 (.fresh 0 0 (!w.params.followText "set-order")) } : Obj)).get? s.heap.objs.size = some ({ cls := .type "set", dict := none, data := .set #[] 0 (.fresh 0 0 (!w.params.followText "set-order")) } : Obj) := Heap.get?_push_size _ rfl
      have d2 : Shared.TypeIs { s with heap := s.heap.push ({ cls := .type "set", dict := none, data := .set #[] 0 (.fresh 0 0 (!w.params.followText "set-order")) } : Obj) } (.ref s.heap.objs.size) "set" := ⟨_, d1, rfl⟩
      have d3 := F.called_set.init.lookup
      have d4 := F.called_set.init.bind (.ref s.heap.objs.size)
      repeat (any_goals (first | assumption | wp_step))
      refine codeAny_mono (codeAny_call_builtin (R := wants (fun r t => r = .none ∧ ∃ g tk c, t = { s with heap := g, toks := tk } ∧ SetR w g s.heap.objs.size (fun j => decide (j ∈ ks)) c ∧ c ≤ ks.length ∧ ∀ b o, s.heap.get? b = some o → g.get? b = some o) E) F.called_set.init.plain F.entry_set_init (check_set_init_1 d2 ?_)) fun r2 t2 hr2 => ?_
      · obtain ⟨om, hom, e1, nm, e2⟩ := hm
        obtain ⟨mcls, mdict, mdata, mslots⟩ := om
        simp only at e1 e2
        subst e1; subst e2
        have hom2 : (s.heap.push ({ cls := .type "set", dict := none, data := .set #[] 0 (.fresh 0 0 (!w.params.followText "set-order")) } : Obj)).get? m = some { cls := .type "list", dict := mdict, data := .seq xs nm, slots := mslots } := Heap.get?_push_of_some _ hom
        have f1 := F.sub_list_set
        have f2 := F.sub_list_frozenset
        have f3 : (Value.type "list" == Value.type "dict") = false := by decide
        have f4 : (s.heap.push ({ cls := .type "set", dict := none, data := .set #[] 0 (.fresh 0 0 (!w.params.followText "set-order")) } : Obj)).IsList m xs := ⟨_, hom2, rfl, nm, rfl⟩
        unfold Builtin.«set.__init__» noKeywords Builtin.Frozenset.updateFrom
        generalize hIt : pyIter = IT
        wp_walk
        subst hIt
        refine wpAny_pyIter_list f4 ?_
        refine wpAny_bind (wpAny_runValue ?_)
        have hml : m < s.heap.objs.size := Heap.lt_size hom
        have h3 : A.in1.in1.in1.handled = none := by simp [h0]
        have hps : (s.heap.push ({ cls := .type "set", dict := none, data := .set #[] 0 (.fresh 0 0 (!w.params.followText "set-order")) } : Obj)).objs.size = s.heap.objs.size + 1 := Heap.size_push ..
        have hmI : m ≠ (s.heap.push ({ cls := .type "set", dict := none, data := .set #[] 0 (.fresh 0 0 (!w.params.followText "set-order")) } : Obj)).objs.size := Nat.ne_of_lt (by rw [hps]; exact Nat.lt_succ_of_lt hml)
        have hSI : s.heap.objs.size ∉ [(s.heap.push ({ cls := .type "set", dict := none, data := .set #[] 0 (.fresh 0 0 (!w.params.followText "set-order")) } : Obj)).objs.size, m] := fun z => by
          rcases List.mem_cons.mp z with z | z
          · exact absurd (z.trans hps) (Nat.ne_of_lt (Nat.lt_succ_self _))
          · exact absurd (List.mem_singleton.mp z) (Nat.ne_of_gt hml)
        have hv : ∀ (i : Nat) (v : Value), xs[i]? = some v → ∃ k t, ks[i]? = some k ∧ v = .int k t := fun i v q => by
          have hi : i < ks.length := by rw [← hsz]; exact (Array.getElem?_eq_some_iff.mp q).1
          obtain ⟨t, e⟩ := PyProof.Rows.IntsAre.int_at hx i v (by rw [Array.getElem?_toList]; exact q)
          exact ⟨ks[i], t, List.getElem?_eq_getElem hi, by rw [e, List.getD_eq_getElem?_getD, List.getElem?_eq_getElem hi]; rfl⟩
        refine set_update_ints ((Walks.list h3 _ m hmI xs).toS) s.heap.objs.size hSI ks hsz hk hv (xs.size - 0) 0 _ (by omega) (Nat.zero_le _) ⟨⟨_, Heap.get?_push_size _ rfl, rfl, rfl⟩, (f4.push _)⟩ ?pa ?pb
        case pa =>
          exact ⟨0, Nat.le_refl 0, setR_new_at (Heap.get?_push_of_some _ d1)⟩
        case pb =>
          intro t c hmv hc hS
          obtain ⟨g, gg, dd, tk, oo⟩ := t
          obtain rfl : gg = s.gens := hmv.gens
          obtain rfl : dd = s.drawn := hmv.drawn
          obtain rfl : oo = s.os := hmv.os
          show wpAny _ _ _ _ _ _
          refine wpAny_pure ?_
          show wpAny _ _ (ret Value.none) _ _ _
          refine wpAny_pure ⟨rfl, g, tk, c, rfl, hS, by rw [← hsz]; exact hc, fun b o q => ?_⟩
          have hb : b < s.heap.objs.size := Heap.lt_size q
          refine hmv.heap b o (fun z => ?_) (Heap.get?_push_of_some _ (Heap.get?_push_of_some _ q))
          rcases List.mem_cons.mp z with z | z
          · exact absurd z (Nat.ne_of_lt hb)
          · exact absurd ((List.mem_singleton.mp z).trans hps) (Nat.ne_of_lt (Nat.lt_succ_of_lt hb))
      · cases r2 with
        | error e => exact hr2
        | ok fl2 =>
          cases fl2 with
          | ret r =>
            obtain ⟨rfl, g, tk, c, rfl, hS, hc, hkp⟩ := hr2
            repeat (any_goals (first | assumption | wp_step))
            exact post _ _ _ hS hc hkp
          | _ => exact hr2.elim
    | _ => exact hr.elim
end
end PyD

end

section
set_option maxHeartbeats 4000000
namespace PyD
open PySem PySem.Spec L2 PyProof.Rows
theorem sorted_of_set {X : Cx} (hc : X.calm = true) (hu : X.A.units + 64 < cLine) {pins : List (Addr × Obj)} {s : Shared} {σ : L2.St} {H : Hp} {Q : VK} {g : Heap} {tk c : Nat} {a : Addr} {ks : List Int} (I : Inv X pins σ H s)
    (hk : ∀ b o, s.heap.get? b = some o → g.get? b = some o) (R : SetR X.w g a (fun j => decide (j ∈ ks)) c) (q : ∀ p, H p = none → Q (.ref p) (upd H p (.lst ((ssort ks).map V.int)))) :
    wpAny (model X.prog X.w) X.A (call (.builtin "sorted") [.ref a]) (EP X pins σ Q) X.xe { s with heap := g, toks := tk } := by
  obtain ⟨o, es, ep, t, ho, hex, hdt, gd, nd, hm, hb, hf, hn, hr, hl⟩ := R
  refine Calls.call_function_entry PyProof.Rows.kind_sorted PyProof.Rows.plain_sorted PyProof.Rows.entry_sorted (PyProof.Rows.args_sorted1 _) ?_
  unfold Builtin.«sorted»
  refine wpAny_bind (m := checkCount "sorted" 1 1 _) (wpAny_pure ?_)
  refine wpAny_bind (collect_set (A := X.A.in1) (s := { s with heap := g, toks := tk }) (I.ok.hd hc) ⟨o, ho, hex.1, hdt⟩ hf hb hr hl fun s2 out k2 z2 g2 o2 hp => ?_)
  have kall : ∀ b u, s.heap.get? b = some u → s2.heap.get? b = some u := fun b u e => k2 b u (hk b u e)
  have I2 : Inv X pins σ H s2 := I.call' (ch := []) o2 (Un.kept kall) (I.hok.kept kall) (by rw [g2]; exact I.bare) (fun _ z => nomatch z)
  have hv : ∀ v ∈ out, ∃ k t, v = Value.int k t := fun v hv => by
    obtain ⟨e, he, ev⟩ := List.mem_map.mp (hp.mem_iff.mp hv)
    obtain ⟨kk, tt, e2, _⟩ := gd e he
    exact ⟨kk, tt, ev.symm.trans e2⟩
  have hpk : (out.map L2.vInt).Perm (es.toList.map L2.keyOf) := by
    have z := hp.map L2.vInt
    rw [List.map_map] at z
    rw [show es.toList.map L2.keyOf = es.toList.map (L2.vInt ∘ fun x => x.2) from List.map_congr_left fun e _ => L2.key_vInt e]
    exact z
  have hnd : (out.map L2.vInt).Nodup := hpk.nodup_iff.mpr nd
  have hmm : ∀ k, k ∈ out.map L2.vInt ↔ k ∈ ks := fun k => by rw [hpk.mem_iff, ← hm k, decide_eq_true_eq]
  have h16 : out.length ≤ sizeLine := by
    rw [hp.length_eq, List.length_map, Array.length_toList]
    exact fits_of_scanBound hb
  have hvals : Vals (((out.map L2.vInt).map Sum.inl : List Key).map kV) out := by
    clear hp hpk hnd hmm h16
    induction out with
    | nil => exact .nil
    | cons v r ih =>
      obtain ⟨k, t, rfl⟩ := hv v (by simp)
      exact .cons ⟨t, rfl⟩ (ih fun v hv' => hv v (by simp [hv']))
  show wpAny _ _ (newList out >>= _) _ _ s2
  refine wpAny_bind (wpAny_newList ?_ h16)
  have hoL : (s2.heap.push (seqObj "list" out.toArray 0)).get? s2.heap.objs.size = some (seqObj "list" out.toArray 0) := Heap.get?_push_size _ rfl
  have he := vals_each hvals
  show wpAny _ _ _ _ _ { s2 with heap := s2.heap.push (seqObj "list" out.toArray 0) }
  refine wpAny_bind (wpAny_holding (PySem.W.list_sort_data (s := { s2 with heap := s2.heap.push (seqObj "list" out.toArray 0) }) (enc := pyK) hoL he (he.mono fun v k rv => reads_key rv) (alike_ints (out.map L2.vInt)) (sortable_keys _) (by rw [List.length_map, List.length_map]; exact h16) (fun k hk => ?_) fun out2 h1 h2 => ?_))
  · have : (pyK k).depth ≤ 1 := by cases k <;> simp [pyK, PyData.depth]
    have : X.A.in1.units ≤ X.A.units + 2 := by simp [Around.in1]
    have : X.A.in1.in1.units ≤ X.A.units + 2 := by simp [Around.in1]
    omega
  obtain ⟨e', he'⟩ := PyProof.Rows.sortedHeap_at (vs := out) (out := out2.toArray) hoL
  have hrel : Vals ((ssort ks).map V.int) out2 := by
    have := each_valsK h2
    rw [← sortK_ints hnd hmm]
    exact this
  have hlen : ((ssort ks).map V.int).length ≤ sizeLine := by
    rw [← sortK_ints hnd hmm, List.length_map, sortK, List.length_mergeSort, List.length_map, List.length_map]
    exact h16
  refine wpAny_pure ⟨_, rfl, .ref s2.heap.objs.size, upd H s2.heap.objs.size (.lst ((ssort ks).map V.int)), I2.laid (t' := s2.toks) (fun b u e => ?_) (Nat.le_refl _)
    (show ObjOk X.prog X.w _ _ _ (.lst ((ssort ks).map V.int)) from ⟨hlen, out2, e', hrel, he'⟩), rfl, q _ (I2.hok.fresh (Nat.le_refl _))⟩
  have hb : b < s2.heap.objs.size := Heap.lt_size e
  rw [PyProof.Rows.sortedHeap_old (Nat.ne_of_lt hb) (by rw [size_push']; exact Nat.lt_succ_of_lt hb)]
  exact Heap.get?_push_of_some _ e
noncomputable def rSS (K : PySem.W.Frag) : List V → Hp → VK → Prop := fun xs H Q => ∃ (p : Addr) (ks : List Int), xs = [.ref p] ∧ (SqL K H p (ks.map V.int) ∨ SqT K H p (ks.map V.int)) ∧ ks.length ≤ 4000 ∧ ∀ q, H q = none → Q (.ref q) (upd H q (.lst ((ssort ks).map V.int)))
theorem pe_sortset {X : Cx} {x y : Str} {e : Expr} {p p2 pos pos2 : Pos} {ta : TA} (hc : X.calm = true) (hu : X.A.units + 64 < cLine) (hg : Gl X "sorted") (hm : X.mg "sorted" = none) (hg2 : Gl X "set") (hm2 : X.mg "set" = none) (ha : PA X [e] ta)
    (hs : starEach [e] X.env = [(false, eval e X.env)] := by rfl)
    (hs2 : starEach [.Call (.Name "set" p2) [e] [] pos2] X.env = [(false, eval (.Call (.Name "set" p2) [e] [] pos2) X.env)] := by rfl) : PE X (.Call (.Name "sorted" p) [.Call (.Name "set" p2) [e] [] pos2] [] pos) (tCB (rSS X.K) ta) := by
  refine ⟨fun pins s σ H Q I h => ?_⟩
  refine wpAny_Call_Name_kw (ld_blt I hg hm PyProof.Rows.boot_sorted ?_)
  refine PyProof.Rows.callWith_builtin1 ?_ hs2 rfl
  rw [hs2]
  show wpAny _ _ (spliced ((false, eval (.Call (.Name "set" p2) [e] [] pos2) X.env) :: [])) _ _ s
  refine Calls.spliced_cons ?_
  refine wpAny_Call_Name_kw (ld_blt I hg2 hm2 PyProof.Rows.boot_set ?_)
  refine PyProof.Rows.callWith_type1 (thn (ha.run pos2 pins s σ H _ I h) fun us s1 ⟨vs, H1, I1, r1, q1⟩ => ?_) hs rfl
  obtain ⟨a, ks, rfl, hq, hl, q⟩ := q1
  rw [Vals.ref1 r1]
  have h0 := I1.ok.hd hc
  rcases hq with hq | hq
  · obtain ⟨its, rv, pl, hz⟩ := I1.list hq
    refine set_of_list ks h0 pl.isList (ints_of_vals rv) (by unfold scanBound; omega) fun g tk c R hcn k => ?_
    exact Calls.spliced_nil (sorted_of_set hc hu I1 k R q)
  · obtain ⟨its, rv, pt, hz⟩ := I1.tuple hq
    refine call_set_tupI ks h0 (show s1.heap.IsTuple a its.toArray from pt) (ints_of_vals rv) (by unfold scanBound; omega) fun g tk c R hcn k => ?_
    exact Calls.spliced_nil (sorted_of_set hc hu I1 k R q)
noncomputable def sortsetD : List D → Option (Bool × D)
  | [.lst ds] => (asInts ds).bind fun ks => if ks.length ≤ 4000 then some (true, .lst ((ssort ks).map D.int)) else none
  | [.tup ds] => (asInts ds).bind fun ks => if ks.length ≤ 4000 then some (true, .lst ((ssort ks).map D.int)) else none
  | _ => none
theorem ints_rep {K : PySem.W.Frag} {U : Addr → Prop} {H : Hp} : ∀ ks : List Int, RepL K U H (ks.map D.int) (ks.map V.int)
  | [] => RepL.nil
  | k :: ks => RepL.cons repInt (ints_rep ks)
theorem prim_sortset {K : PySem.W.Frag} : Prim K (rSS K) sortsetD := by
  intro U H ds vs Q b d hU ar e post
  unfold sortsetD at e
  split at e
  · rename_i ds
    obtain ⟨v, rfl, h1⟩ := ar1 ar
    obtain ⟨p, ws, rfl, hp, r⟩ := arLst h1
    cases q : asInts ds with
    | none => rw [q] at e; cases e
    | some ns =>
      rw [q, Option.bind_some] at e
      split at e
      · rename_i hn
        cases e
        rw [asInts_of q] at r
        rw [r.ints] at hp
        exact ⟨p, ns, rfl, .inl (SqL.of hp), hn, fun q hq => post _ _ (ext_new hq) (fun z => by cases z) fun _ => newLst hq (ints_rep _)⟩
      · cases e
  · rename_i ds
    obtain ⟨v, rfl, h1⟩ := ar1 ar
    obtain ⟨p, ws, rfl, _, hp, r⟩ := arTup h1
    cases q : asInts ds with
    | none => rw [q] at e; cases e
    | some ns =>
      rw [q, Option.bind_some] at e
      split at e
      · rename_i hn
        cases e
        rw [asInts_of q] at r
        rw [r.ints] at hp
        exact ⟨p, ns, rfl, .inr (SqT.of hp), hn, fun q hq => post _ _ (ext_new hq) (fun z => by cases z) fun _ => newLst hq (ints_rep _)⟩
      · cases e
  · cases e
theorem e_sortset {X : Cx} {W : WX} {e : Expr} {p p2 pos pos2 : Pos} {fs : M (List R)} (hc : X.calm = true) (hu : X.A.units + 64 < cLine) (hg : Gl X "sorted") (hm : X.mg "sorted" = none) (hg2 : Gl X "set") (hm2 : X.mg "set" = none) (ha : PA X [e] (RdA X.K W fs))
    (hs : starEach [e] X.env = [(false, eval e X.env)] := by rfl)
    (hs2 : starEach [.Call (.Name "set" p2) [e] [] pos2] X.env = [(false, eval (.Call (.Name "set" p2) [e] [] pos2) X.env)] := by rfl) :
    PE X (.Call (.Name "sorted" p) [.Call (.Name "set" p2) [e] [] pos2] [] pos) (RdE X.K W (opF sortsetD fs)) :=
  pe_imp (pe_sortset (x := "") (y := "") hc hu hg hm hg2 hm2 ha hs hs2) fun σ H Q m => opImp prim_sortset m
theorem ss_tup {ds : List D} {ks : List Int} (h : asInts ds = some ks) (hl : ks.length ≤ 4000) : sortsetD [.tup ds] = some (true, .lst ((ssort ks).map D.int)) := by
  show (asInts ds).bind _ = _
  rw [h, Option.bind_some, if_pos hl]
end PyD

end

namespace PyD
open PySem PySem.Spec L2 PyProof.Rows
end PyD

section
set_option maxHeartbeats 4000000
namespace PySem
open Sem (wp)
open AutoSeq1 (wpAny_loadPart')
end PySem
namespace PyD
open PySem PySem.Spec L2 PyProof.Rows
end PyD

end

namespace PyD
open PySem PySem.Spec L2 PyProof.Rows
end PyD

section
set_option maxHeartbeats 4000000
namespace PyD
open PySem PySem.Spec L2 PyProof.Rows
end PyD

end

namespace PyD
open PySem PySem.Spec L2 PyProof.Rows
theorem set_eqs : ∀ {σ : L2.St} {i : Nat} {v : Option V}, σ[i]? = some v → σ.set i v = σ
  | [], i, v, h => by simp at h
  | a :: r, 0, v, h => by
    rw [List.getElem?_cons_zero] at h
    rw [List.set_cons_zero, Option.some.inj h]
  | a :: r, i + 1, v, h => by
    rw [List.getElem?_cons_succ] at h
    rw [List.set_cons_succ, set_eqs h]
end PyD

section
set_option maxHeartbeats 4000000
namespace PyD
open PySem PySem.Spec L2 PyProof.Rows
noncomputable def cps (kvs : List (Str × Str)) : List (TE × TE) := kvs.map fun p => (tC (.str p.1), tC (.str p.2))
end PyD

end

section
set_option maxHeartbeats 4000000
namespace PyD
open PySem PySem.Spec L2 PyProof.Rows
section
variable {P : Program} {w : World} {A : Around} {E : Value → Shared → Prop} {s : Shared}
end
end PyD

end

section
set_option maxHeartbeats 1000000
namespace PyD
open PySem PySem.Spec L2 PyProof.Rows
section
variable {P : Program} {w : World} {A : Around} {E : Value → Shared → Prop} {s : Shared}
end
end PyD

end

section
set_option maxHeartbeats 4000000
namespace PyD
open PySem PySem.Spec L2 PyProof.Rows
mutual
noncomputable def pyOf : D → Option PyData
  | .non => some .none
  | .bl b => some (.bool b)
  | .int i => some (.int i)
  | .str s => some (.str s)
  | .tup ds => (pyOfL ds).map .tuple
  | .lst ds => (pyOfL ds).map .list
  | .dic _ => none
  | .obj _ _ => none
  | .scr _ => none
  | .exn _ _ => none
  | .adr _ _ => none
  | .ow _ => none
noncomputable def pyOfL : List D → Option (List PyData)
  | [] => some []
  | d :: r => (pyOf d).bind fun a => (pyOfL r).map fun b => a :: b
end
mutual
theorem pyOf_nd : ∀ (d : D) (p : PyData), pyOf d = some p → p.hasDict = false
  | .non, p, h => by cases h; simp only [PyData.hasDict]
  | .bl _, p, h => by cases h; simp only [PyData.hasDict]
  | .int _, p, h => by cases h; simp only [PyData.hasDict]
  | .str _, p, h => by cases h; simp only [PyData.hasDict]
  | .tup ds, p, h => by
    unfold pyOf at h
    obtain ⟨ps, e, rfl⟩ := Option.map_eq_some_iff.mp h
    simp only [PyData.hasDict]
    exact pyOfL_nd ds ps e
  | .lst ds, p, h => by
    unfold pyOf at h
    obtain ⟨ps, e, rfl⟩ := Option.map_eq_some_iff.mp h
    simp only [PyData.hasDict]
    exact pyOfL_nd ds ps e
  | .dic _, p, h => by cases h
  | .obj _ _, p, h => by cases h
  | .scr _, p, h => by cases h
  | .exn _ _, p, h => by cases h
  | .adr _ _, p, h => by cases h
  | .ow _, p, h => by cases h
theorem pyOfL_nd : ∀ (ds : List D) (ps : List PyData), pyOfL ds = some ps → PyData.hasDictAll ps = false
  | [], ps, h => by cases h; simp only [PyData.hasDictAll]
  | d :: r, ps, h => by
    unfold pyOfL at h
    obtain ⟨a, e1, h⟩ := Option.bind_eq_some_iff.mp h
    obtain ⟨b, e2, rfl⟩ := Option.map_eq_some_iff.mp h
    simp only [PyData.hasDictAll, pyOf_nd d a e1, pyOfL_nd r b e2, Bool.or_self]
end
section
variable {X : Cx} {pins : List (Addr × Obj)} {σ : L2.St} {H : Hp} {s : Shared} {U : Addr → Prop}
mutual
theorem reads_of (I : Inv X pins σ H s) : ∀ (d : D) (v : V) (p : PyData) (u : Value), pyOf d = some p → Rep X.K U H d v → RelV v u → ∃ as, Reads s.heap u p as
  | .non, v, p, u, h, r, q => by
    cases h
    unfold Rep at r
    subst r
    obtain rfl : u = .none := q
    exact ⟨_, .none⟩
  | .bl b, v, p, u, h, r, q => by
    cases h
    unfold Rep at r
    subst r
    obtain rfl : u = .bool b := q
    exact ⟨_, .bool b⟩
  | .int i, v, p, u, h, r, q => by
    cases h
    unfold Rep at r
    subst r
    obtain ⟨t, rfl⟩ := q
    exact ⟨_, .int i t⟩
  | .str x, v, p, u, h, r, q => by
    cases h
    unfold Rep at r
    subst r
    obtain ⟨t, rfl⟩ := q
    exact ⟨_, .str x t⟩
  | .tup ds, v, p, u, h, r, q => by
    unfold pyOf at h
    obtain ⟨ps, e, rfl⟩ := Option.map_eq_some_iff.mp h
    unfold Rep at r
    obtain ⟨a, vs, rfl, _, ha, rl⟩ := r
    obtain rfl : u = .ref a := q
    obtain ⟨its, rv, ⟨o, ho, hcls, n, hdat⟩, hz⟩ := I.tuple (SqT.of ha)
    obtain ⟨as, rs⟩ := reads_ofL I ds vs ps its e rl rv
    exact ⟨_, .tuple ho hcls hdat rs⟩
  | .lst ds, v, p, u, h, r, q => by
    unfold pyOf at h
    obtain ⟨ps, e, rfl⟩ := Option.map_eq_some_iff.mp h
    unfold Rep at r
    obtain ⟨a, vs, rfl, _, ha, rl⟩ := r
    obtain rfl : u = .ref a := q
    obtain ⟨its, rv, pl, hz⟩ := I.list (SqL.of ha)
    obtain ⟨o, ho, hcls, n, hdat⟩ := pl.isList
    obtain ⟨as, rs⟩ := reads_ofL I ds vs ps its e rl rv
    exact ⟨_, .list ho hcls hdat rs⟩
  | .dic _, _, _, _, h, _, _ => by cases h
  | .obj _ _, _, _, _, h, _, _ => by cases h
  | .scr _, _, _, _, h, _, _ => by cases h
  | .exn _ _, _, _, _, h, _, _ => by cases h
  | .adr _ _, _, _, _, h, _, _ => by cases h
  | .ow _, _, _, _, h, _, _ => by cases h
theorem reads_ofL (I : Inv X pins σ H s) : ∀ (ds : List D) (vs : List V) (ps : List PyData) (us : List Value), pyOfL ds = some ps → RepL X.K U H ds vs → Vals vs us → ∃ as, ReadsAll s.heap us ps as
  | [], vs, ps, us, h, r, q => by
    cases h
    rw [r.nil_inv] at q
    cases q
    exact ⟨_, .nil⟩
  | d :: ds, vs, ps, us, h, r, q => by
    unfold pyOfL at h
    obtain ⟨a, e1, h⟩ := Option.bind_eq_some_iff.mp h
    obtain ⟨b, e2, rfl⟩ := Option.map_eq_some_iff.mp h
    obtain ⟨v, vs', rfl, r1, r2⟩ := r.inv
    cases q with
    | cons q1 q2 =>
      obtain ⟨as, k1⟩ := reads_of I d v a _ e1 r1 q1
      obtain ⟨bs, k2⟩ := reads_ofL I ds vs' b _ e2 r2 q2
      exact ⟨_, .cons k1 k2⟩
end
end
end PyD

end

section
set_option maxHeartbeats 4000000
namespace PyD
open PySem PySem.Spec L2 PyProof.Rows
structure RoomG (k : Nat) (A : Around) : Prop extends Room k A where
  gd : A.guards = some []
theorem RoomG.mono {j k : Nat} {A : Around} (r : RoomG k A) (h : j ≤ k) : RoomG j A := ⟨r.toRoom.mono h, r.gd⟩
theorem RoomG.deeper {k : Nat} {A : Around} (r : RoomG (k + 1) A) (env : Env) : RoomG k (A.deeper env) := ⟨r.toRoom.deeper env, r.gd⟩
structure FnG (P : Program) (w : World) (K : PySem.W.Frag) (mg : Str → Option Value) (base : Heap) (k : Nat) (f : Addr) (fd : FuncData) (ps : List Str) (sp : Sp) : Prop where
  many : ∀ vs H Q E, sp vs H Q E → vs.length = ps.length
  goes : ∀ (A : Around) (os : List Env) (s : Shared) (H : Hp) (ar : Args) (us : List Value) (vs : List V) (Q : VK) (E : XK), RoomG k A → Env0 P w K mg base A os s H →
    BindsTo s fd ar (ps.zip us) → Vals vs us → sp vs H Q E → codeAny (model P w) A (.call (.ref f) ar) (CR (L2.CX P w) os P w H s Q E) s
section
variable {P : Program} {w : World} {K : PySem.W.Frag} {mg : Str → Option Value} {base : Heap}
theorem FnG.mono {j k : Nat} {f : Addr} {fd : FuncData} {ps : List Str} {sp : Sp} (F : FnG P w K mg base j f fd ps sp) (h : j ≤ k) : FnG P w K mg base k f fd ps sp :=
  ⟨F.many, fun A os s H ar us vs Q E hr => F.goes A os s H ar us vs Q E (hr.mono h)⟩
theorem fnG {x qual : Str} {st : Stmt} {f : Addr} {fd : FuncData} {N ps : List Str} {k : Nat} {sp : Sp} (F : Fun K x qual st f fd) (S : FnScope N ps (defScope st)) (many : ∀ vs H Q E, sp vs H Q E → vs.length = ps.length)
    (body : ∀ (cdv : Value) (A : Around) (os : List Env) (s : Shared) (H : Hp) (vs : List V) (Q : VK) (E : XK), RoomG k (A.deeper (envOfC qual (defScope st) s.heap.objs.size f cdv)) → sp vs H Q E →
      ∃ t, PSs (cxOf (L2.CX P w) P w K mg base N qual (defScope st) f cdv A os s H E) (defBody st) t ∧ t { nx := fun _ H' => Q .non H', rt := Q } (start N vs) H) : FnG P w K mg base (k + 1) f fd ps sp := by
  obtain ⟨oc, od, kV, doc, pm, an, cdv, ct, osl, rfl, lk, hcd⟩ := F.ex
  refine ⟨many, fun A os s H ar us vs Q E room e0 bs rv hq => ?_⟩
  have lenV := many _ _ _ _ hq
  have inK : K.In s.heap := e0.mod.kin.keeps fun b o e => (e0.bs b o e).1
  have noL : s.heap.NoLimit := e0.mod.nolimit.keeps fun b o e => (e0.bs b o e).1
  refine codeAny_call_function room.depth (inK _ _ lk) rfl S.co S.gen rfl (PySem.W.codeRec_of inK hcd) (bs _ _ _ _ (wpAny_newFunctionEnv_cells S.kind ?_ ?_))
  · intro ⟨n, v⟩ hy
    have q := S.par n (List.of_mem_zip hy).1
    exact q.imp id fun q => ⟨q, PySem.W.cellsFrom_some _ _ _ (.inl q)⟩
  · intro env he s1 x
    subst he
    obtain ⟨t, ht, h⟩ := body cdv A os s H vs Q E (room.deeper _) hq
    have J0 : Inv (cxOf (L2.CX P w) P w K mg base N qual (defScope st) f cdv A os s H E) [] (start N vs) H s1 := inv_start S room.hd e0 lenV rv x
    refine ⟨noL.keeps x.toInCall.keep, codeAny_func (wpAny_mono (ht.run [] s1 (start N vs) H _ J0 h) ?_ fun e s' hs => hs)⟩
    intro fl s' hs
    cases fl with
    | brk => obtain ⟨_, _, _, no⟩ := hs; exact no.elim
    | cont => obtain ⟨_, _, _, no⟩ := hs; exact no.elim
    | next => obtain ⟨σ', H', J, q⟩ := hs; exact ⟨V.non, H', J.os, J.bare, J.base, J.hok, rfl, q⟩
    | ret u => obtain ⟨v, σ', H', J, r, q⟩ := hs; exact ⟨v, H', J.os, J.bare, J.base, J.hok, r, q⟩
theorem ok_defG {x qual : Str} {st : Stmt} {f : Addr} {fd : FuncData} {N ps : List Str} {lev k : Nat} {io : List Bool} {b : En → Fl} (F : Fun K x qual st f fd) (S : FnScope N ps (defScope st)) (hps : io.length = ps.length) (hN : N.length = ps.length + k)
    (hb : ∀ (cdv : Value) (A : Around) (outer : List Env) (s : Shared) (H : Hp) (E : XK), RoomG lev (A.deeper (PyProof.Rows.envOfC qual (defScope st) s.heap.objs.size f cdv)) → PSs (cxOf (L2.CX P w) P w K mg base N qual (defScope st) f cdv A outer s H E) (defBody st) (RdS K (fun cls d _ H => E cls d H) b)) :
    FnG P w K mg base (lev + 1) f fd ps (spD K io (runF io k b)) := by
  refine fnG F S (fun vs H Q E ⟨B, ds, h1, h2, _⟩ => h2.trans hps) fun cdv A outer s H vs Q E hr h => ⟨_, hb cdv A outer s H E hr, ?_⟩
  obtain ⟨B, ds, h1, h2, G, m⟩ := h
  have hst : L2.start N vs = vs.map some ++ List.replicate k none := by
    unfold L2.start
    rw [hN, h2, hps, Nat.add_sub_cancel_left]
  rw [hst]
  refine ⟨B, _, G.app k, ?_⟩
  unfold runF at m
  cases e : b (mkE io ds ++ List.replicate k .e) with
  | nx en' =>
    rw [e] at m
    intro σ' H' g s
    obtain ⟨b1, g1, s1, un⟩ := back_to h1 h2 G g (Bx.refl B _ _ H) s
    exact m .non H' ⟨B, b1, g1, fun _ => (by unfold Rep; rfl), fun z => (by cases z)⟩ s1
  | bk en' => rw [e] at m; exact m.elim
  | ct en' => rw [e] at m; exact m.elim
  | rt r en' =>
    rw [e] at m
    intro v σ' H' ⟨B', bx, g, ra, n⟩ s
    obtain ⟨b1, g1, s1, un⟩ := back_to h1 h2 G g bx s
    cases r with
    | sh d => exact m v H' ⟨B', b1, g1, fun _ => Rep.to (fun a o x n => ⟨x, fun z => n (un a z)⟩) _ _ ra, fun z => (by cases z)⟩ s1
    | fr d =>
      obtain ⟨p, e1, bp, c⟩ := ra
      refine m v H' ⟨B', b1, g1, fun z => (by cases z), fun _ => ⟨p, e1, fun a r => ⟨?_, bp a r⟩, Cont.to (fun a o x n => ⟨x, fun z => n (un a z)⟩) (fun _ _ _ x => x) c⟩⟩ s1
      rcases n p a e1 r with q | q
      · exact q
      · obtain ⟨i, d', p2, e2, s2, _⟩ := q
        rcases app_get e2 with e2 | e2
        · obtain ⟨b2, d2, _, _, h4⟩ := mkE_get e2
          obtain ⟨_, z2, _⟩ := slIn_o h4.symm
          cases z2
        · cases e2
    | sl i => exact m.elim
  | exc x en' =>
    rw [e] at m
    intro c od σ' H' ex g s
    obtain ⟨b1, g1, s1, un⟩ := back_to h1 h2 G g (Bx.refl B _ _ H) s
    exact m c od H' (ex.mono un) g1 s1
  | bad => rw [e] at m; exact m.elim
end
section
variable {X : Cx} {k : Nat} {f : Addr} {fd : FuncData} {ps : List Str} {sp : Sp} {E : L2.St → XK} {x : Str} {p pos : Pos} {e : Expr} {es : List Expr} {t : TA}
end
section
variable {X : Cx} {W : WX} {io : List Bool} {φ : List D → Out} {fs : M (List R)}
noncomputable def DefAtG (P : Program) (w : World) (K : PySem.W.Frag) (mg : Str → Option Value) (base : Heap) (x : Str) (lev : Nat) (ps : List Str) (io : List Bool) (φ : List D → Out) : Prop :=
  ∃ (f : Addr) (fd : FuncData), FnG P w K mg base lev f fd ps (spD K io φ) ∧ mg x = some (.ref f) ∧ PySem.W.keepIn K (.ref f) = true ∧ Binds K fd ps []
end
section
variable {P : Program} {w : World} {K : PySem.W.Frag} {mg : Str → Option Value} {base : Heap}
theorem DefAtG.mk {x : Str} {st : Stmt} {f : Addr} {fd : FuncData} {N ps : List Str} {lev k : Nat} {io : List Bool} {b : En → Fl} {φ : List D → Out} (F : Fun K x x st f fd) (hm : mg x = some (.ref f)) (bd : Binds K fd ps []) (S : FnScope N ps (defScope st)) (hps : io.length = ps.length) (hN : N.length = ps.length + k)
    (hb : ∀ (cdv : Value) (A : Around) (outer : List Env) (s : Shared) (H : Hp) (E : XK), RoomG lev (A.deeper (PyProof.Rows.envOfC x (defScope st) s.heap.objs.size f cdv)) → PSs (cxOf (L2.CX P w) P w K mg base N x (defScope st) f cdv A outer s H E) (defBody st) (RdS K (fun cls d _ H => E cls d H) b)) (e : φ = runF io k b) :
    DefAtG P w K mg base x (lev + 1) ps io φ := by
  subst e
  exact ⟨f, fd, ok_defG F S hps hN hb, hm, F.kp, bd⟩
theorem DefAtG.bad {x : Str} {st : Stmt} {f : Addr} {fd : FuncData} {ps : List Str} {io : List Bool} {k : Nat} (F : Fun K x x st f fd) (hm : mg x = some (.ref f)) (bd : Binds K fd ps []) : DefAtG P w K mg base x k ps io fun _ => .bad := by
  have no : ∀ vs H Q E, spD K io (fun _ => Out.bad) vs H Q E → False := fun vs H Q E h => by
    obtain ⟨_, _, _, _, _, h⟩ := h
    exact h
  exact ⟨f, fd, ⟨fun vs H Q E h => (no vs H Q E h).elim, fun A outer s H args us vs Q E hr he hb hv h => (no vs H Q E h).elim⟩, hm, F.kp, bd⟩
end
section
variable {P : Program} {w : World} {K : PySem.W.Frag} {mg mb : Str → Option Value} {k : Nat} {fa a : Addr} {fd : FuncData} {x : Str} {sp : Sp} {s₁ : Shared} {xs : List Value} {ns : List Int}
end
end PyD

end

section
set_option maxHeartbeats 4000000
namespace PyD
open PySem PySem.Spec L2 PyProof.Rows
end PyD

end

section
set_option maxHeartbeats 4000000
namespace PyD
open PySem PySem.Spec L2 PyProof.Rows
end PyD

end

section
set_option maxHeartbeats 2000000
namespace PyD
open PySem PySem.Spec L2 PyProof.Rows
section
variable {prog : Program} {w : World} {A : Around} {E : Value → Shared → Prop} {s : Shared}
end
end PyD

end

section
set_option maxHeartbeats 2000000
namespace PyD
open PySem PySem.Spec L2 PyProof.Rows
section
variable {prog : Program} {w : World} {A : Around} {R : Result → Shared → Prop} {I : Addr} {fp wr : List Addr} {P : Nat → Value → Prop} {St : Nat → Heap → Prop}
end
section
variable {prog : Program} {w : World} {A : Around} {E : Value → Shared → Prop} {s : Shared}
end
end PyD

end

namespace PyD
open PySem PySem.Spec L2 PyProof.Rows
section
variable {K : PySem.W.Frag} {W : WX} {B B' B1 : Addr → Prop} {U U' : Addr → Prop} {H H' H1 : Hp} {σ σ' σ1 : L2.St} {en en' en1 : En} {d : D} {v : V} {i : Nat} {p : Addr} {ds : List D} {fs : M (List R)} {Q : VK} {D0 : Ends}
end
section
variable {en : En} {k : Fl → Prop}
end
end PyD

section
set_option maxHeartbeats 4000000
namespace PyD
open PySem PySem.Spec L2 PyProof.Rows
noncomputable def subX (n c : XN) : Bool := decide (n = c) || decide (c = .pin)
noncomputable def xclB (K : PySem.W.Frag) (n : XN) (C : Addr) : Bool :=
  decide (PySem.W.nsIn K mainGlobals n.nm = some (some (.ref C))) && (PySem.W.keepIn K (.ref C) && (decide (PySem.W.subIn K (.ref C) (.type "BaseException") = some true) && (decide (PySem.W.typeIn K (.ref C) = some (.type "type")) && ((PySem.W.clsIn K C).isSome &&
  (decide (PySem.W.findIn K (.ref C) "__getattribute__" = some (some (.builtin "BaseException.__getattribute__"))) && (decide (PySem.W.findIn K (.ref C) "__getattr__" = some none) && (decide (PySem.W.findIn K (.ref C) "__class__" = some (some (.builtin "object.__class__"))) &&
  (decide (PySem.W.specialIn K (.builtin "object.__class__") "__get__" = some (some (.builtin "getset_descriptor.__get__"))) && (decide (PySem.W.takesIn K (.builtin "object.__class__") = some true) && (decide (PySem.W.mroIn K C (.type "object") = some true) && PySem.W.hasDictIn K C))))))))))
structure XCl (K : PySem.W.Frag) (n : XN) (C : Addr) : Prop where
  ns : PySem.W.nsIn K mainGlobals n.nm = some (some (.ref C))
  kp : PySem.W.keepIn K (.ref C) = true
  be : PySem.W.subIn K (.ref C) (.type "BaseException") = some true
  ty : PySem.W.typeIn K (.ref C) = some (.type "type")
  cl : (PySem.W.clsIn K C).isSome = true
  ga : PySem.W.findIn K (.ref C) "__getattribute__" = some (some (.builtin "BaseException.__getattribute__"))
  gg : PySem.W.findIn K (.ref C) "__getattr__" = some none
  fc : PySem.W.findIn K (.ref C) "__class__" = some (some (.builtin "object.__class__"))
  sp : PySem.W.specialIn K (.builtin "object.__class__") "__get__" = some (some (.builtin "getset_descriptor.__get__"))
  tk : PySem.W.takesIn K (.builtin "object.__class__") = some true
  ob : PySem.W.mroIn K C (.type "object") = some true
  hd : PySem.W.hasDictIn K C = true
theorem XCl.of {K : PySem.W.Frag} {n : XN} {C : Addr} (h : xclB K n C = true) : XCl K n C := by
  unfold xclB at h
  simp only [Bool.and_eq_true, decide_eq_true_eq] at h
  obtain ⟨a, b, c, d, e, f, g, i, j, k, l, m⟩ := h
  exact ⟨a, b, c, d, e, f, g, i, j, k, l, m⟩
noncomputable def xtB (K : PySem.W.Frag) (l : List (XN × Addr)) : Bool := l.all fun p => xclB K p.1 p.2 && (decide (PySem.W.kitOne K (.ref p.2) (.type "ValueError") = some true) && (decide (PySem.W.kitOne K (.type "NoneType") (.ref p.2) = some false) &&
  l.all fun q => decide (PySem.W.kitOne K (.ref p.2) (.ref q.2) = some (subX p.1 q.1)) && decide (PySem.W.exmOne K (.ref p.2) (.ref q.2) = some (subX p.1 q.1))))
structure XT (K : PySem.W.Frag) (l : List (XN × Addr)) : Prop where
  cl : ∀ n C, (n, C) ∈ l → XCl K n C
  ve : ∀ n C, (n, C) ∈ l → PySem.W.kitOne K (.ref C) (.type "ValueError") = some true
  no : ∀ n C, (n, C) ∈ l → PySem.W.kitOne K (.type "NoneType") (.ref C) = some false
  is : ∀ n C m D, (n, C) ∈ l → (m, D) ∈ l → PySem.W.kitOne K (.ref C) (.ref D) = some (subX n m)
  ex : ∀ n C m D, (n, C) ∈ l → (m, D) ∈ l → PySem.W.exmOne K (.ref C) (.ref D) = some (subX n m)
theorem XT.of {K : PySem.W.Frag} {l : List (XN × Addr)} (h : xtB K l = true) : XT K l := by
  unfold xtB at h
  simp only [List.all_eq_true, Bool.and_eq_true, decide_eq_true_eq] at h
  exact ⟨fun n C q => XCl.of (h _ q).1, fun n C q => (h _ q).2.1, fun n C q => (h _ q).2.2.1, fun n C m D q r => ((h _ q).2.2.2 _ r).1, fun n C m D q r => ((h _ q).2.2.2 _ r).2⟩
noncomputable def rsF (n : XN) : En → Fl := fun en => .exc ⟨n, none⟩ en
noncomputable def rsO (n : XN) (f : Str) (fs : M (List R)) : En → Fl := fun en => match fs en with
  | .ok [.sh d] en1 => .exc ⟨n, some (f, d)⟩ en1
  | .ok _ _ => .bad
  | .exc x en1 => .exc x en1
  | .bad => .bad
structure Sup (K : PySem.W.Frag) (P : Addr) : Prop where
  ga : PySem.W.specialIn K (.ref P) "__getattribute__" = some (some (.builtin "type.__getattribute__"))
  rd : PySem.W.readsIn K P (.type "type") = true
  fd : PySem.W.findCls K (.ref P) (.type "type") "__init__" = some (.val (.builtin "ValueError.__init__"))
section
variable {X : Cx} {pins : List (Addr × Obj)} {σ : L2.St} {H : Hp} {s : Shared}
theorem exT_ok {P : Program} {w : World} {h : Heap} {a : Addr} {c : Value} {od : Option Addr} {o : Obj} {vs : Array Value} (e : h.get? a = some o) (z : Zc c od o) (d : o.data = .fields vs) : ObjOk P w H h a (exT a c od) :=
  ⟨⟨o, vs, e, z, d⟩, ⟨o, e⟩, fun _ _ ⟨u, us, q, r⟩ k => ⟨u, us, k u q, r⟩⟩
end
section
variable {X : Cx} {x n : Str} {c : Value} {i : Nat} {body suite : List Stmt} {b0 : Stmt} {np pos pos' : Pos} {tb : WX → TS} {ts : TS} {Wo : WX}
end
noncomputable def exD (x : Ex) : D := .exn x.cls (match x.fld with | none => [] | some p => [p])
noncomputable def goneF (i : Nat) : Fl → Fl
  | .nx en => (match freeAt en i with | true => .nx (en.set i .e) | false => .bad)
  | .bk en => (match freeAt en i with | true => .bk (en.set i .e) | false => .bad)
  | .ct en => (match freeAt en i with | true => .ct (en.set i .e) | false => .bad)
  | .rt (.sh d) en => (match freeAt en i with | true => .rt (.sh d) (en.set i .e) | false => .bad)
  | _ => .bad
noncomputable def tryF (ns : List XN) (c : XN) (i : Nat) (fb fs : En → Fl) : En → Fl := fun en => match fb en with
  | .exc x en1 => (match ns.elem x.cls with
    | true => (match subX x.cls c with
      | true => (match freeAt en1 i with
        | true => goneF i (fs (en1.set i (.v (exD x))))
        | false => .bad)
      | false => .exc x en1)
    | false => .bad)
  | f => f
section
variable {K : PySem.W.Frag} {W : WX} {B B' B1 : Addr → Prop} {U : Addr → Prop} {H H' H1 : Hp} {σ σ' σ1 : L2.St} {en en' en1 : En} {d : D} {v : V} {i : Nat} {p : Addr} {D0 : Ends}
end
section
variable {X : Cx} {pins : List (Addr × Obj)} {σ : L2.St} {H : Hp} {s : Shared}
end
noncomputable def isxD (ns : List XN) (c : XN) : List D → Option (Bool × D)
  | [.exn m _] => (match ns.elem m with | true => some (false, .bl (subX m c)) | false => none)
  | [.non] => some (false, .bl false)
  | _ => none
noncomputable def isxTD (ns : List XN) (cs : List XN) : List D → Option (Bool × D)
  | [.exn m _] => (match ns.elem m with | true => some (false, .bl (cs.any (subX m))) | false => none)
  | [.non] => some (false, .bl false)
  | _ => none
noncomputable def isvD (ns : List XN) : List D → Option (Bool × D)
  | [.exn m _] => (match ns.elem m with | true => some (false, .bl true) | false => none)
  | [.non] => some (false, .bl false)
  | _ => none
section
variable {K : PySem.W.Frag} {U : Addr → Prop} {H : Hp} {v : V}
inductive InTab (l : List (XN × Addr)) : List XN → List Addr → Prop where
  | nil : InTab l [] []
  | cons {c : XN} {C : Addr} {cs : List XN} {Cs : List Addr} (h : (c, C) ∈ l) (r : InTab l cs Cs) : InTab l (c :: cs) (C :: Cs)
theorem InTab.any {l : List (XN × Addr)} (T : XT K l) {m : XN} {C1 : Addr} (h1 : (m, C1) ∈ l) : ∀ {cs : List XN} {Cs : List Addr}, InTab l cs Cs → PySem.W.kitAny K (.ref C1) (Cs.map Value.ref) = some (cs.any (subX m))
  | _, _, .nil => rfl
  | _, _, .cons h r => by
    rw [List.map_cons, List.any_cons]
    refine kitAny_cons (T.is _ _ _ _ h1 h) (fun e => ?_) fun e => ?_
    · rw [e, Bool.false_or]; exact InTab.any T h1 r
    · rw [e]; rfl
theorem InTab.non {l : List (XN × Addr)} (T : XT K l) : ∀ {cs : List XN} {Cs : List Addr}, InTab l cs Cs → PySem.W.kitAny K (.type "NoneType") (Cs.map Value.ref) = some false
  | _, _, .nil => rfl
  | _, _, .cons h r => by
    rw [List.map_cons]
    exact kitAny_cons (T.no _ _ h) (fun _ => InTab.non T r) fun e => by cases e
theorem InTab.cls {l : List (XN × Addr)} : ∀ {cs : List XN} {Cs : List Addr}, InTab l cs Cs → Paired ClsV (Cs.map V.ref) (Cs.map Value.ref)
  | _, _, .nil => .nil
  | _, _, .cons h r => .cons (.own _) (InTab.cls r)
end
section
variable {X : Cx} {W : WX} {l : List (XN × Addr)} {p p2 pos : Pos} {a : Expr} {fa : M R} {x : Str}
noncomputable def fldD (ns : List XN) (f : Str) : List D → Option (Bool × D)
  | [.exn m fs] => (match ns.elem m with | true => (fs.lookup f).map fun d => (false, d) | false => none)
  | _ => none
end
end PyD

end

namespace PyD
open PySem PySem.Spec L2
section
variable {α β : Type} {en en' : En} {x : Ex → En → Prop} {k : Fl → Prop}
theorem os_rs {n : XN} : okS (rsF n) en k = k (.exc ⟨n, none⟩ en) := rfl
noncomputable def rsOK (n : XN) (f : Str) (en1 : En) (k : Fl → Prop) (rs : List R) (_ : Tg k := ⟨⟩) : Prop := match rs with
  | [.sh d] => k (.exc ⟨n, some (f, d)⟩ en1)
  | _ => False
theorem rsOK_sh {n : XN} {f : Str} {d : D} : rsOK n f en k [.sh d] = k (.exc ⟨n, some (f, d)⟩ en) := rfl
theorem os_rsO {n : XN} {f : Str} {fs : M (List R)} : okS (rsO n f fs) en k = okE fs en (fun rs en1 => rsOK n f en1 k rs) fun e en => k (.exc e en) := by
  unfold okS okE rsO
  cases fs en with
  | bad => rfl
  | exc e en1 => rfl
  | ok rs en1 =>
    match rs with
    | [] => rfl
    | [.sh d] => rfl
    | [.fr d] => rfl
    | [.sl d] => rfl
    | .sh _ :: _ :: _ => rfl
    | .fr _ :: _ :: _ => rfl
    | .sl _ :: _ :: _ => rfl
noncomputable def goneK (i : Nat) (k : Fl → Prop) (o : Fl) (_ : Tg k := ⟨⟩) : Prop := match o with
  | .nx en => freeAt en i = true ∧ k (.nx (en.set i .e))
  | .bk en => freeAt en i = true ∧ k (.bk (en.set i .e))
  | .ct en => freeAt en i = true ∧ k (.ct (en.set i .e))
  | .rt (.sh d) en => freeAt en i = true ∧ k (.rt (.sh d) (en.set i .e))
  | _ => False
theorem goneK_nx {i : Nat} : goneK i k (.nx en) = (freeAt en i = true ∧ k (.nx (en.set i .e))) := rfl
theorem goneK_rt {i : Nat} {d : D} : goneK i k (.rt (.sh d) en) = (freeAt en i = true ∧ k (.rt (.sh d) (en.set i .e))) := rfl
noncomputable def tryK (ns : List XN) (c : XN) (i : Nat) (fs : En → Fl) (k : Fl → Prop) (o : Fl) (_ : Tg k := ⟨⟩) : Prop := match o with
  | .exc e en1 => ns.elem e.cls = true ∧ bi (subX e.cls c) (freeAt en1 i = true ∧ okS fs (en1.set i (.v (exD e))) fun o => goneK i k o) (k (.exc e en1))
  | .bad => False
  | o => k o
theorem tryK_nx {ns : List XN} {c : XN} {i : Nat} {fs : En → Fl} : tryK ns c i fs k (.nx en) = k (.nx en) := rfl
theorem tryK_rt {ns : List XN} {c : XN} {i : Nat} {fs : En → Fl} {r : R} : tryK ns c i fs k (.rt r en) = k (.rt r en) := rfl
theorem tryK_exc {ns : List XN} {c : XN} {i : Nat} {fs : En → Fl} {n : XN} {fl : Option (Str × D)} : tryK ns c i fs k (.exc ⟨n, fl⟩ en) = (ns.elem n = true ∧ bi (subX n c) (freeAt en i = true ∧ okS fs (en.set i (.v (exD ⟨n, fl⟩))) fun o => goneK i k o) (k (.exc ⟨n, fl⟩ en))) := rfl
theorem os_try {ns : List XN} {c : XN} {i : Nat} {fb fs : En → Fl} : okS (tryF ns c i fb fs) en k = okS fb en fun o => tryK ns c i fs k o := by
  unfold okS tryF
  cases fb en with
  | exc e en1 =>
    dsimp only [tryK]
    cases h1 : ns.elem e.cls with
    | false => simp
    | true =>
      cases h2 : subX e.cls c with
      | false => simp [bi]
      | true =>
        cases h3 : freeAt en1 i with
        | false => simp [bi]
        | true =>
          simp only [bi_true, true_and, okS]
          cases fs (en1.set i (.v (exD e))) with
          | nx en2 => dsimp only [goneF, goneK]; cases freeAt en2 i <;> simp
          | bk en2 => dsimp only [goneF, goneK]; cases freeAt en2 i <;> simp
          | ct en2 => dsimp only [goneF, goneK]; cases freeAt en2 i <;> simp
          | rt r en2 =>
            cases r with
            | sh d => dsimp only [goneF, goneK]; cases freeAt en2 i <;> simp
            | fr d => rfl
            | sl d => rfl
          | exc e2 en2 => rfl
          | bad => rfl
  | _ => rfl
theorem os_endTr {ms : List Bool} {ns : List XN} {c : XN} {i : Nat} {fb fs : En → Fl} : okS (endF ms (tryF ns c i fb fs)) en k = okS (tryF ns c i fb fs) en fun o => endK ms k o := os_end
theorem exD_none {n : XN} : exD ⟨n, none⟩ = .exn n [] := rfl
theorem exD_some {n : XN} {f : Str} {d : D} : exD ⟨n, some (f, d)⟩ = .exn n [(f, d)] := rfl
theorem exF_none {n : XN} : excFlat ⟨n, none⟩ = true := rfl
theorem exF_some {n : XN} {f : Str} {d : D} : excFlat ⟨n, some (f, d)⟩ = flatD d := rfl
theorem isx_non {ns : List XN} {c : XN} : isxD ns c [.non] = some (false, .bl false) := rfl
theorem isxT_non {ns : List XN} {cs : List XN} : isxTD ns cs [.non] = some (false, .bl false) := rfl
theorem isv_non {ns : List XN} : isvD ns [.non] = some (false, .bl false) := rfl
variable {k2 : Bool × D → Prop}
theorem okL_isx {ns : List XN} {c m : XN} {fs : List (Str × D)} : okL (isxD ns c [.exn m fs]) k2 = (ns.elem m = true ∧ k2 (false, .bl (subX m c))) := by
  unfold isxD
  dsimp only
  generalize ns.elem m = b
  cases b <;> simp [okL]
theorem okL_isxT {ns : List XN} {cs : List XN} {m : XN} {fs : List (Str × D)} : okL (isxTD ns cs [.exn m fs]) k2 = (ns.elem m = true ∧ k2 (false, .bl (cs.any (subX m)))) := by
  unfold isxTD
  dsimp only
  generalize ns.elem m = b
  cases b <;> simp [okL]
theorem okL_isv {ns : List XN} {m : XN} {fs : List (Str × D)} : okL (isvD ns [.exn m fs]) k2 = (ns.elem m = true ∧ k2 (false, .bl true)) := by
  unfold isvD
  dsimp only
  generalize ns.elem m = b
  cases b <;> simp [okL]
theorem okL_fld {ns : List XN} {m : XN} {f : Str} {d : D} : okL (fldD ns f [.exn m [(f, d)]]) k2 = (ns.elem m = true ∧ k2 (false, d)) := by
  unfold fldD
  dsimp only
  generalize ns.elem m = b
  cases b <;> simp [okL]
theorem is_xn {n : Bool} {m : XN} {fs : List (Str × D)} : isOp n [.exn m fs, .non] = some (false, .bl (false != n)) := rfl
end
end PyD

section
set_option maxHeartbeats 4000000
namespace PyD
open PySem PySem.Spec L2 PyProof.Rows PySem.Froz
section
variable {P : Program} {w : World} {A : Around} {E : Value → Shared → Prop} {s : Shared}
end
end PyD

end

namespace PyD
open PySem PySem.Spec L2
noncomputable def strUD : List D → Option (Bool × D)
  | [.int i] => if i.natAbs.log2 < 1920 then some (false, .str (toString i)) else none
  | [.str s] => some (false, .str s)
  | _ => none
theorem str_int {i : Int} : strUD [.int i] = if i.natAbs.log2 < 1920 then some (false, .str (toString i)) else none := rfl
theorem str_str {s : Str} : strUD [.str s] = some (false, .str s) := rfl
noncomputable def chkF (c : D → Bool) (f : M R) : M R := fun en => match f en with
  | .ok r en1 => (match rsl en1 r with
    | some d => (match c d with
      | true => .ok r en1
      | false => .bad)
    | none => .bad)
  | .exc x en1 => .exc x en1
  | .bad => .bad
section
variable {K : PySem.W.Frag} {W : WX} {σ : L2.St} {H : Hp} {Q : VK}
end
noncomputable def isI : D → Bool
  | .int i => decide (i.natAbs.log2 < 1920) && decide ((toString i : Str).length ≤ 1000000)
  | _ => false
theorem ok_chk {c : D → Bool} {f : M R} {en : En} {k : R → En → Prop} {x : Ex → En → Prop} : okE (chkF c f) en k x = okE f en (fun r en1 => okL (rsl en1 r) fun d => c d = true ∧ k r en1) x := by
  unfold okE chkF
  cases f en with
  | ok r en1 =>
    dsimp only
    unfold okL
    cases rsl en1 r with
    | none => rfl
    | some d =>
      dsimp only
      cases c d <;> simp
  | exc x en1 => rfl
  | bad => rfl
theorem isI_int {i : Int} : isI (.int i) = (decide (i.natAbs.log2 < 1920) && decide ((toString i : Str).length ≤ 1000000)) := rfl
end PyD

namespace PyD
open PySem PySem.Spec L2
structure OCl (K : PySem.W.Frag) (n : ON) (C : Addr) : Prop where
  nm : ClsO K n C
  cl : Cls K C
theorem OCl.uniq {K : PySem.W.Frag} {n : ON} {C C' : Addr} (T : OCl K n C) (h : ClsO K n C') : C' = C := by
  have e := T.nm
  unfold ClsO at e h
  rw [h] at e
  cases e
  rfl
noncomputable def isObj (n : ON) (m : Str) : D → Bool
  | .obj k fs => decide (k = n) && (fs.lookup m).isNone
  | .ow (.obj k fs) => decide (k = n) && (fs.lookup m).isNone
  | _ => false
noncomputable def methF (n : ON) (m : Str) (io : List Bool) (φ : List D → Out) (fo : M R) (fs : M (List R)) : M R := callF io φ (consF (chkF (isObj n m) fo) fs)
section
variable {X : Cx} {pins : List (Addr × Obj)} {σ : L2.St} {H : Hp} {s : Shared} {CX : CXT} {k : Nat} {f C : Addr} {fd : FuncData} {ps : List Str} {sp : Sp} {E : L2.St → XK} {m : Str} {pos apos : Pos} {e o : Expr} {es : List Expr} {ta : TE} {t : TA}
end
theorem RepF.none {K : PySem.W.Frag} {U : Addr → Prop} {H : Hp} {f : Str} : ∀ {fs : List (Str × D)} {ws : List (Str × V)}, RepF K U H fs ws → fs.lookup f = Option.none → ws.lookup f = Option.none
  | [], _, r, _ => by
    unfold RepF at r
    rw [r]
    rfl
  | (g, d1) :: fs, ws, r, e => by
    unfold RepF at r
    obtain ⟨v, s, rfl, h1, h2⟩ := r
    rw [List.lookup_cons] at e ⊢
    cases q : f == g with
    | true => rw [q] at e; cases e
    | false =>
      rw [q] at e
      exact RepF.none h2 e
noncomputable def fldoD (n : ON) (f : Str) : List D → Option (Bool × D)
  | [.obj k fs] => if k = n then (fs.lookup f).map fun d => (false, d) else none
  | _ => none
noncomputable def putFD (f : Str) (d : D) : List (Str × D) → List (Str × D)
  | [] => [(f, d)]
  | (g, x) :: r => if g = f then (g, d) :: r else (g, x) :: putFD f d r
theorem RepF.put {K : PySem.W.Frag} {U : Addr → Prop} {H : Hp} {f : Str} {d : D} {v : V} (hv : Rep K U H d v) : ∀ {fs : List (Str × D)} {ws : List (Str × V)}, RepF K U H fs ws → RepF K U H (putFD f d fs) (putF f v ws)
  | [], ws, r => by
    unfold RepF at r
    subst r
    show RepF K U H [(f, d)] [(f, v)]
    unfold RepF
    exact ⟨v, [], rfl, hv, by unfold RepF; rfl⟩
  | (g, x) :: fs, ws, r => by
    unfold RepF at r
    obtain ⟨u, s, rfl, h1, h2⟩ := r
    unfold putFD putF
    by_cases q : g = f
    · rw [if_pos q, if_pos q]
      unfold RepF
      exact ⟨v, s, rfl, hv, h2⟩
    · rw [if_neg q, if_neg q]
      unfold RepF
      exact ⟨u, _, rfl, h1, RepF.put hv h2⟩
theorem RepF.len {K : PySem.W.Frag} {U : Addr → Prop} {H : Hp} : ∀ {fs : List (Str × D)} {ws : List (Str × V)}, RepF K U H fs ws → ws.length = fs.length
  | [], ws, r => by
    unfold RepF at r
    rw [r]
    rfl
  | (g, x) :: fs, ws, r => by
    unfold RepF at r
    obtain ⟨u, s, rfl, h1, h2⟩ := r
    rw [List.length_cons, List.length_cons, RepF.len h2]
noncomputable def fldS (i : Nat) (n : ON) (f : Str) (fv : M R) : En → Fl := fun en => match fv en with
  | .ok r en1 => (match stoD r with
    | some d => (match en1[i]? with
      | some (.o b (.obj k fs)) => if k = n ∧ fs.length < 1000 then .nx (en1.set i (.o b (.obj k (putFD f d fs)))) else .bad
      | _ => .bad)
    | none => .bad)
  | .exc x en1 => .exc x en1
  | .bad => .bad
section
variable {K : PySem.W.Frag} {W : WX} {σ : L2.St} {H : Hp} {Q : VK} {D0 : Ends} {i : Nat}
end
noncomputable def mkF (n : ON) (φ : List D → Out) : M R := fun en => match φ [.obj n []] with
  | .ret _ .non [.obj k fs] => .ok (.fr (.obj k fs)) en
  | _ => .bad
end PyD

namespace PyD
open PySem PySem.Spec L2
section
variable {en : En} {k : R → En → Prop} {x : Ex → En → Prop} {ks : Fl → Prop}
theorem ok_meth {n : ON} {m : Str} {io : List Bool} {φ : List D → Out} {fo : M R} {fs : M (List R)} : okE (methF n m io φ fo fs) en k x = okE (callF io φ (consF (chkF (isObj n m) fo) fs)) en k x := rfl
noncomputable def mkK (en : En) (k : R → En → Prop) (o : Out) (_ : Tg k := ⟨⟩) : Prop := match o with
  | .ret _ .non [.obj k1 fs] => k (.fr (.obj k1 fs)) en
  | _ => False
theorem mkK_obj {b : Bool} {n : ON} {fs : List (Str × D)} : mkK en k (.ret b .non [.obj n fs]) = k (.fr (.obj n fs)) en := rfl
theorem ok_mk {n : ON} {φ : List D → Out} : okE (mkF n φ) en k x = okO (φ [.obj n []]) fun o => mkK en k o := by
  unfold okE mkF okO mkK
  cases φ [.obj n []] with
  | bad => rfl
  | exc y outs => rfl
  | ret b d outs =>
    cases d with
    | non =>
      cases outs with
      | nil => rfl
      | cons o r =>
        cases r with
        | nil => cases o <;> rfl
        | cons _ _ => cases o <;> rfl
    | _ => rfl
noncomputable def fldK (i : Nat) (n : ON) (f : Str) (en1 : En) (d : D) (k : Fl → Prop) (o : Option Sl) (_ : Tg k := ⟨⟩) : Prop := match o with
  | some (.o b (.obj k1 fs)) => (k1 = n ∧ fs.length < 1000) ∧ k (.nx (en1.set i (.o b (.obj k1 (putFD f d fs)))))
  | _ => False
theorem fldK_o {i : Nat} {n k1 : ON} {f : Str} {d : D} {b : Bool} {fs : List (Str × D)} : fldK i n f en d ks (some (.o b (.obj k1 fs))) = ((k1 = n ∧ fs.length < 1000) ∧ ks (.nx (en.set i (.o b (.obj k1 (putFD f d fs)))))) := rfl
theorem os_fld {i : Nat} {n : ON} {f : Str} {fv : M R} : okS (fldS i n f fv) en ks = okE fv en (fun r en1 => okL (stoD r) fun d => fldK i n f en1 d ks en1[i]?) fun e en => ks (.exc e en) := by
  unfold okE okS fldS
  cases fv en with
  | bad => rfl
  | exc e en1 => rfl
  | ok r en1 =>
    dsimp only
    unfold okL
    cases stoD r with
    | none => rfl
    | some d =>
      dsimp only
      unfold fldK
      cases en1[i]? with
      | none => rfl
      | some s =>
        cases s with
        | e => rfl
        | v _ => rfl
        | o b d0 =>
          cases d0 with
          | obj k1 fs =>
            dsimp only
            by_cases h : k1 = n ∧ fs.length < 1000
            · rw [if_pos h]; simp [h]
            · rw [if_neg h]; simp [h]
          | _ => rfl
theorem os_endFl {ms : List Bool} {i : Nat} {n : ON} {f : Str} {fv : M R} : okS (endF ms (fldS i n f fv)) en ks = okS (fldS i n f fv) en fun o => endK ms ks o := os_end
theorem is_on {n : Bool} {m : ON} {fs : List (Str × D)} : isOp n [.obj m fs, .non] = some (false, .bl (false != n)) := rfl
end
theorem gro0 {s : D} : putFD "signs" s [] = [(("signs" : Str), s)] := rfl
theorem gro1 {s n : D} : putFD "number" n [(("signs" : Str), s)] = [(("signs" : Str), s), (("number" : Str), n)] := rfl
theorem gro2 {s n t : D} : putFD "signs" t [(("signs" : Str), s), (("number" : Str), n)] = [(("signs" : Str), t), (("number" : Str), n)] := rfl
theorem gro3 {s n t : D} : putFD "number" t [(("signs" : Str), s), (("number" : Str), n)] = [(("signs" : Str), s), (("number" : Str), t)] := rfl
theorem gro_s {s n : D} : fldoD .growing "signs" [.obj .growing [(("signs" : Str), s), (("number" : Str), n)]] = some (false, s) := rfl
theorem gro_n {s n : D} : fldoD .growing "number" [.obj .growing [(("signs" : Str), s), (("number" : Str), n)]] = some (false, n) := rfl
theorem isg_put {s n : D} : isObj .growing "put" (.obj .growing [(("signs" : Str), s), (("number" : Str), n)]) = true := rfl
theorem isg_text {s n : D} : isObj .growing "text" (.obj .growing [(("signs" : Str), s), (("number" : Str), n)]) = true := rfl
theorem isg_many {s n : D} : isObj .growing "many" (.obj .growing [(("signs" : Str), s), (("number" : Str), n)]) = true := rfl
theorem isg_parts {s n : D} : isObj .growing "parts" (.obj .growing [(("signs" : Str), s), (("number" : Str), n)]) = true := rfl
theorem isg_pins {s n : D} : isObj .growing "pins" (.obj .growing [(("signs" : Str), s), (("number" : Str), n)]) = true := rfl
theorem isg_bound {s n : D} : isObj .growing "bound" (.obj .growing [(("signs" : Str), s), (("number" : Str), n)]) = true := rfl
end PyD

namespace PyD
open PySem PySem.Spec L2
end PyD

section
set_option maxHeartbeats 4000000
namespace PyD
open PySem PySem.Spec L2 PyProof.Rows
end PyD

end

namespace PyD
open PySem PySem.Spec L2
section
variable {K : PySem.W.Frag} {W : WX} {B B' B1 B2 S T : Addr → Prop} {U U' : Addr → Prop} {H H' H1 H2 : Hp} {σ σ' σ1 σx : L2.St} {en en' en1 enx eA eB : En} {d d0 d1 c : D} {v : V} {i : Nat} {p q : Addr} {b : Bool}
theorem own_append (hl : σ.length = en.length) {a : Addr} : Own H (σ ++ σx) (en ++ enx) a ↔ Own H σ en a ∨ Own H σx enx a := by
  constructor
  · rintro ⟨i, b, d, p, e, s, r⟩
    by_cases hi : i < en.length
    · rw [List.getElem?_append_left hi] at e
      rw [List.getElem?_append_left (by omega)] at s
      exact .inl ⟨i, b, d, p, e, s, r⟩
    · rw [List.getElem?_append_right (by omega)] at e
      rw [List.getElem?_append_right (by omega), hl] at s
      exact .inr ⟨i - en.length, b, d, p, e, s, r⟩
  · rintro (⟨i, b, d, p, e, s, r⟩ | ⟨i, b, d, p, e, s, r⟩)
    · exact ⟨i, b, d, p, get_app e, get_app s, r⟩
    · refine ⟨en.length + i, b, d, p, ?_, ?_, r⟩
      · rw [List.getElem?_append_right (by omega), Nat.add_sub_cancel_left]; exact e
      · rw [List.getElem?_append_right (by omega), hl, Nat.add_sub_cancel_left]; exact s
theorem Good.push (G : Good K B' H σ en) (up : ∀ a, B a → B' a) (hp : ∀ a, Rch H c q a → B' a) (nb : ∀ a, Rch H c q a → ¬ B a) (hc : Cont K (Un B' H σ en) H c q) : Good K B H (σ ++ [some (.ref q)]) (en ++ [.o b c]) := by
  have G1 := G.app 1
  have un : ∀ a, Un B' H (σ ++ List.replicate 1 none) (en ++ List.replicate 1 .e) a → Un B' H σ en a := fun a h => h.imp id (own_app G.len)
  have G2 := Good.set_o (i := en.length) (fb := b) G1 up (by simp) hp nb (Cont.to (fun a o x n => ⟨x, fun z => n (un a z)⟩) (fun _ _ _ x => x) hc)
  have e1 : (σ ++ List.replicate 1 none).set en.length (some (.ref q)) = σ ++ [some (.ref q)] := by
    rw [← G.len, List.set_append_right _ _ (Nat.le_refl _)]
    simp
  have e2 : (en ++ List.replicate 1 Sl.e).set en.length (.o b c) = en ++ [.o b c] := by
    rw [List.set_append_right _ _ (Nat.le_refl _)]
    simp
  rw [e1, e2] at G2
  exact G2
structure Hid (K : PySem.W.Frag) (B : Addr → Prop) (H : Hp) (σ : L2.St) (en : En) (i : Nat) (b : Bool) (d0 : D) (p : Addr) (S : Addr → Prop) (σx : L2.St) (enx : En) : Prop where
  G : Good K B H σ en
  e : en[i]? = some (.o b d0)
  s : σ[i]? = some (some (.ref p))
  lx : σx.length = enx.length
  bb : ∀ (j : Nat) (bj : Bool) (dj : D), enx[j]? = some (.o bj dj) → bj = b
  rc : ∀ a, Rch H d0 p a ↔ S a ∨ Own H σx enx a
  gh : Good K (fun a => B a ∨ S a) H (σ ++ σx) (en.set i .e ++ enx)
variable (h : Hid K B H σ en i b d0 p S σx enx)
theorem Hid.len0 (h : Hid K B H σ en i b d0 p S σx enx) : σ.length = (en.set i .e).length := by rw [List.length_set]; exact h.G.len
theorem Hid.nb (h : Hid K B H σ en i b d0 p S σx enx) {a : Addr} (hs : S a) : ¬ B a := fun z => h.G.ownNB ⟨i, b, d0, p, h.e, h.s, (h.rc a).mpr (.inl hs)⟩ z
theorem Hid.own (h : Hid K B H σ en i b d0 p S σx enx) {a : Addr} (z : Own H (σ ++ σx) (en.set i .e ++ enx) a) : Own H σ en a := by
  rcases (own_append h.len0).mp z with z | z
  · exact own_set_e z
  · exact ⟨i, b, d0, p, h.e, h.s, (h.rc a).mpr (.inr z)⟩
theorem Hid.un (h : Hid K B H σ en i b d0 p S σx enx) {a : Addr} (z : Un (fun a => B a ∨ S a) H (σ ++ σx) (en.set i .e ++ enx) a) : Un B H σ en a := by
  rcases z with (z | z) | z
  · exact .inl z
  · exact .inr ⟨i, b, d0, p, h.e, h.s, (h.rc a).mpr (.inl z)⟩
  · exact .inr (h.own z)
theorem Hid.to (h : Hid K B H σ en i b d0 p S σx enx) : ∀ a o, H a = some o → ¬ Un B H σ en a → H a = some o ∧ ¬ Un (fun a => B a ∨ S a) H (σ ++ σx) (en.set i .e ++ enx) a := fun a o x n => ⟨x, fun z => n (h.un z)⟩
structure Unh (K : PySem.W.Frag) (H : Hp) (σ : L2.St) (en : En) (i : Nat) (b : Bool) (p : Addr) (S : Addr → Prop) (σx : L2.St) (enx : En) (B2 : Addr → Prop) (H2 : Hp) (eA eB : En) (d1 : D) : Prop where
  bx : ∀ a, S a → B2 a
  g2 : Good K B2 H2 (σ ++ σx) (eA ++ eB)
  st : Stp (σ ++ σx) (en.set i .e ++ enx) H (σ ++ σx) (eA ++ eB) H2
  la : eA.length = en.length
  lb : eB.length = enx.length
  bb : ∀ (j : Nat) (bj : Bool) (dj : D), eB[j]? = some (.o bj dj) → bj = b
  rc : ∀ a, Rch H2 d1 p a ↔ S a ∨ Own H2 σx eB a
  ct : Cont K (Un (fun a => B2 a ∨ Own H2 σx eB a) H2 σ eA) H2 d1 p
theorem Unh.l0 (h : Hid K B H σ en i b d0 p S σx enx) (u : Unh K H σ en i b p S σx enx B2 H2 eA eB d1) : σ.length = eA.length := by rw [u.la]; exact h.G.len
theorem Unh.own (h : Hid K B H σ en i b d0 p S σx enx) (u : Unh K H σ en i b p S σx enx B2 H2 eA eB d1) {a : Addr} (z : Own H2 σ (eA.set i (.o b d1)) a) : S a ∨ Own H2 (σ ++ σx) (eA ++ eB) a := by
  obtain ⟨j, b', d', p', e, s, r⟩ := z
  rcases set_get e with ⟨ej, q, _⟩ | ⟨_, q⟩
  · subst ej
    cases q
    rw [h.s] at s
    cases s
    rcases (u.rc a).mp r with z | z
    · exact .inl z
    · exact .inr ((own_append (u.l0 h)).mpr (.inr z))
  · exact .inr ((own_append (u.l0 h)).mpr (.inl ⟨j, b', d', p', q, s, r⟩))
theorem Unh.un (h : Hid K B H σ en i b d0 p S σx enx) (u : Unh K H σ en i b p S σx enx B2 H2 eA eB d1) {a : Addr} (z : Un (fun a => B2 a ∧ ¬ S a) H2 σ (eA.set i (.o b d1)) a) : Un B2 H2 (σ ++ σx) (eA ++ eB) a := by
  rcases z with z | z
  · exact .inl z.1
  · rcases u.own h z with z | z
    · exact .inl (u.bx a z)
    · exact .inr z
end
end PyD

namespace PyD
open PySem PySem.Spec L2
inductive Sel where
  | ix (k : Nat) | fd (f : Str)
noncomputable def chD : D → Sel → Option D
  | .lst ds, .ix k => match ds[k]? with
    | some (.ow c) => some c
    | _ => none
  | .obj _ fs, .fd f => match fs.lookup f with
    | some (.ow c) => some c
    | _ => none
  | _, _ => none
noncomputable def putC : D → Sel → D → D
  | .lst ds, .ix k, c => .lst (ds.set k c)
  | .obj n fs, .fd f, c => .obj n (putFD f c fs)
  | d, _, _ => d
noncomputable def chV (H : Hp) (p : Addr) : Sel → V → Prop
  | .ix k, v => ∃ vs, H p = some (.lst vs) ∧ vs[k]? = some v
  | .fd f, v => ∃ C dx ws, H p = some (.ins C dx ws) ∧ ws.lookup f = some v
section
variable {K : PySem.W.Frag} {U U' U2 : Addr → Prop} {H H' H2 : Hp} {p q : Addr} {c c' d : D} {v : V}
theorem ConL.split : ∀ {ds : List D} {vs : List V} {k : Nat}, ConL K U H p ds vs → ds[k]? = some (.ow c) → ∃ q, vs[k]? = some (.ref q) ∧ Con K U H c q ∧ ∀ a, Rch H c q a → RcL H ds vs a ∧ a ≠ p
  | [], vs, k, _, e => by cases e
  | d :: ds, vs, 0, h, e => by
    cases e
    unfold ConL at h
    obtain ⟨v, us, rfl, h1, h2, h3⟩ := h
    unfold ConV at h1
    obtain ⟨q, rfl, h1⟩ := h1
    refine ⟨q, rfl, h1, fun a r => ?_⟩
    have rv : RcV H (.ow c) (.ref q) a := by unfold RcV; exact ⟨q, rfl, r⟩
    exact ⟨by unfold RcL; exact ⟨_, _, rfl, .inl rv⟩, (h3 a rv).1⟩
  | d :: ds, vs, k + 1, h, e => by
    unfold ConL at h
    obtain ⟨v, us, rfl, h1, h2, h3⟩ := h
    obtain ⟨q, e1, c1, r1⟩ := ConL.split (k := k) h2 e
    exact ⟨q, e1, c1, fun a r => ⟨by unfold RcL; exact ⟨_, _, rfl, .inr (r1 a r).1⟩, (r1 a r).2⟩⟩
theorem ConF.split {f : Str} : ∀ {ds : List (Str × D)} {vs : List (Str × V)}, ConF K U H p ds vs → ds.lookup f = some (.ow c) → ∃ q, vs.lookup f = some (.ref q) ∧ Con K U H c q ∧ ∀ a, Rch H c q a → RcF H ds vs a ∧ a ≠ p
  | [], vs, _, e => by cases e
  | (g, d) :: ds, vs, h, e => by
    unfold ConF at h
    obtain ⟨v, us, rfl, h1, h2, h3⟩ := h
    rw [List.lookup_cons] at e ⊢
    cases z : f == g with
    | true =>
      rw [z] at e
      cases e
      unfold ConV at h1
      obtain ⟨q, rfl, h1⟩ := h1
      refine ⟨q, rfl, h1, fun a r => ?_⟩
      have rv : RcV H (.ow c) (.ref q) a := by unfold RcV; exact ⟨q, rfl, r⟩
      exact ⟨by unfold RcF; exact ⟨_, _, _, rfl, .inl rv⟩, (h3 a rv).1⟩
    | false =>
      rw [z] at e
      obtain ⟨q, e1, c1, r1⟩ := ConF.split h2 e
      exact ⟨q, e1, c1, fun a r => ⟨by unfold RcF; exact ⟨_, _, _, rfl, .inr (r1 a r).1⟩, (r1 a r).2⟩⟩
theorem ConL.join {x' : D} (t : ∀ a o, H a = some o → ¬ U a → H2 a = some o ∧ ¬ U2 a) : ∀ {ds : List D} {vs : List V} {k : Nat}, ConL K U H p ds vs → ds[k]? = some (.ow c) → vs[k]? = some (.ref q) → (∀ a o, RcL H ds vs a → ¬ Rch H c q a → H a = some o → H2 a = some o) → ConV K U2 H2 x' (.ref q) → (∀ a, RcV H2 x' (.ref q) a → a ≠ p ∧ ¬ (RcL H ds vs a ∧ ¬ Rch H c q a)) →
    ConL K U2 H2 p (ds.set k x') vs ∧ ∀ a, RcL H2 (ds.set k x') vs a ↔ (RcL H ds vs a ∧ ¬ Rch H c q a) ∨ RcV H2 x' (.ref q) a
  | [], vs, k, _, e, _, _, _, _ => by cases e
  | d :: ds, vs, 0, h, e, ev, kp, c2, dj => by
    cases e
    unfold ConL at h
    obtain ⟨v, us, rfl, h1, h2, h3⟩ := h
    cases ev
    have rv : ∀ a, RcV H (.ow c) (.ref q) a ↔ Rch H c q a := fun a => by
      unfold RcV
      exact ⟨fun ⟨q', e, r⟩ => by cases e; exact r, fun r => ⟨q, rfl, r⟩⟩
    have rest : ∀ a, RcL H ds us a → ¬ Rch H c q a := fun a r z => (h3 a ((rv a).mpr z)).2 r
    have inl : ∀ {a}, RcL H ds us a → RcL H (.ow c :: ds) (.ref q :: us) a := fun {a} r => by unfold RcL; exact ⟨_, _, rfl, .inr r⟩
    have k2 : ∀ a o, RcL H ds us a → H a = some o → H2 a = some o := fun a o r => kp a o (inl r) (rest a r)
    have cl := ConL.to t h2 k2
    have rl := ConL.rcl h2 k2
    rw [List.set_cons_zero]
    refine ⟨?_, fun a => ?_⟩
    · unfold ConL
      exact ⟨_, _, rfl, c2, cl, fun a r => ⟨(dj a r).1, fun z => (dj a r).2 ⟨inl ((rl a).mp z), rest a ((rl a).mp z)⟩⟩⟩
    · constructor
      · intro r
        unfold RcL at r
        obtain ⟨v', us', e', r⟩ := r
        cases e'
        rcases r with r | r
        · exact .inr r
        · exact .inl ⟨inl ((rl a).mp r), rest a ((rl a).mp r)⟩
      · rintro (⟨r, n⟩ | r)
        · unfold RcL at r ⊢
          obtain ⟨v', us', e', r⟩ := r
          cases e'
          refine ⟨_, _, rfl, ?_⟩
          rcases r with r | r
          · exact absurd ((rv a).mp r) n
          · exact .inr ((rl a).mpr r)
        · unfold RcL
          exact ⟨_, _, rfl, .inl r⟩
  | d :: ds, vs, k + 1, h, e, ev, kp, c2, dj => by
    unfold ConL at h
    obtain ⟨v, us, rfl, h1, h2, h3⟩ := h
    have ev' : us[k]? = some (.ref q) := ev
    have e' : ds[k]? = some (.ow c) := e
    obtain ⟨q', eq', _, sp⟩ := ConL.split h2 e'
    rw [ev'] at eq'
    cases eq'
    have inl : ∀ {a}, RcL H ds us a → RcL H (d :: ds) (v :: us) a := fun {a} r => by unfold RcL; exact ⟨_, _, rfl, .inr r⟩
    have inv : ∀ {a}, RcV H d v a → RcL H (d :: ds) (v :: us) a := fun {a} r => by unfold RcL; exact ⟨_, _, rfl, .inl r⟩
    have hd : ∀ a, RcV H d v a → ¬ Rch H c q a := fun a r z => (h3 a r).2 (sp a z).1
    obtain ⟨j1, j2⟩ := ConL.join (x' := x') t h2 e' ev' (fun a o r => kp a o (inl r)) c2 (fun a r => ⟨(dj a r).1, fun z => (dj a r).2 ⟨inl z.1, z.2⟩⟩)
    have kv : ∀ a o, RcV H d v a → H a = some o → H2 a = some o := fun a o r => kp a o (inv r) (hd a r)
    have cv := ConV.to t h1 kv
    have rv := ConV.rcv h1 kv
    rw [List.set_cons_succ]
    refine ⟨?_, fun a => ?_⟩
    · unfold ConL
      refine ⟨_, _, rfl, cv, j1, fun a r => ?_⟩
      have r' := (rv a).mp r
      refine ⟨(h3 a r').1, fun z => ?_⟩
      rcases (j2 a).mp z with z | z
      · exact (h3 a r').2 z.1
      · exact (dj a z).2 ⟨inv r', hd a r'⟩
    · constructor
      · intro r
        unfold RcL at r
        obtain ⟨v', us', e', r⟩ := r
        cases e'
        rcases r with r | r
        · exact .inl ⟨inv ((rv a).mp r), hd a ((rv a).mp r)⟩
        · rcases (j2 a).mp r with z | z
          · exact .inl ⟨inl z.1, z.2⟩
          · exact .inr z
      · rintro (⟨r, n⟩ | r)
        · unfold RcL at r ⊢
          obtain ⟨v', us', e', r⟩ := r
          cases e'
          refine ⟨_, _, rfl, ?_⟩
          rcases r with r | r
          · exact .inl ((rv a).mpr r)
          · exact .inr ((j2 a).mpr (.inl ⟨r, n⟩))
        · unfold RcL
          exact ⟨_, _, rfl, .inr ((j2 a).mpr (.inr r))⟩
theorem ConF.join {x' : D} {f : Str} (t : ∀ a o, H a = some o → ¬ U a → H2 a = some o ∧ ¬ U2 a) : ∀ {ds : List (Str × D)} {vs : List (Str × V)}, ConF K U H p ds vs → ds.lookup f = some (.ow c) → vs.lookup f = some (.ref q) → (∀ a o, RcF H ds vs a → ¬ Rch H c q a → H a = some o → H2 a = some o) → ConV K U2 H2 x' (.ref q) → (∀ a, RcV H2 x' (.ref q) a → a ≠ p ∧ ¬ (RcF H ds vs a ∧ ¬ Rch H c q a)) →
    ConF K U2 H2 p (putFD f x' ds) vs ∧ ∀ a, RcF H2 (putFD f x' ds) vs a ↔ (RcF H ds vs a ∧ ¬ Rch H c q a) ∨ RcV H2 x' (.ref q) a
  | [], vs, _, e, _, _, _, _ => by cases e
  | (g, d) :: ds, vs, h, e, ev, kp, c2, dj => by
    unfold ConF at h
    obtain ⟨v, us, rfl, h1, h2, h3⟩ := h
    rw [List.lookup_cons] at e ev
    unfold putFD
    by_cases hg : g = f
    · subst hg
      rw [beq_self_eq_true] at e ev
      cases e
      cases ev
      rw [if_pos rfl]
      have rv : ∀ a, RcV H (.ow c) (.ref q) a ↔ Rch H c q a := fun a => by
        unfold RcV
        exact ⟨fun ⟨q', e, r⟩ => by cases e; exact r, fun r => ⟨q, rfl, r⟩⟩
      have rest : ∀ a, RcF H ds us a → ¬ Rch H c q a := fun a r z => (h3 a ((rv a).mpr z)).2 r
      have inl : ∀ {a}, RcF H ds us a → RcF H ((g, .ow c) :: ds) ((g, .ref q) :: us) a := fun {a} r => by unfold RcF; exact ⟨_, _, _, rfl, .inr r⟩
      have k2 : ∀ a o, RcF H ds us a → H a = some o → H2 a = some o := fun a o r => kp a o (inl r) (rest a r)
      have cl := ConF.to t h2 k2
      have rl := ConF.rcf h2 k2
      refine ⟨?_, fun a => ?_⟩
      · unfold ConF
        exact ⟨_, _, rfl, c2, cl, fun a r => ⟨(dj a r).1, fun z => (dj a r).2 ⟨inl ((rl a).mp z), rest a ((rl a).mp z)⟩⟩⟩
      · constructor
        · intro r
          unfold RcF at r
          obtain ⟨k', v', us', e', r⟩ := r
          cases e'
          rcases r with r | r
          · exact .inr r
          · exact .inl ⟨inl ((rl a).mp r), rest a ((rl a).mp r)⟩
        · rintro (⟨r, n⟩ | r)
          · unfold RcF at r ⊢
            obtain ⟨k', v', us', e', r⟩ := r
            cases e'
            refine ⟨_, _, _, rfl, ?_⟩
            rcases r with r | r
            · exact absurd ((rv a).mp r) n
            · exact .inr ((rl a).mpr r)
          · unfold RcF
            exact ⟨_, _, _, rfl, .inl r⟩
    · rw [if_neg hg]
      have hb : (f == g) = false := by
        cases z : f == g with
        | true => exact absurd (eq_of_beq z).symm hg
        | false => rfl
      rw [hb] at e ev
      dsimp only at e ev
      obtain ⟨q', eq', _, sp⟩ := ConF.split h2 e
      rw [ev] at eq'
      cases eq'
      have inl : ∀ {a}, RcF H ds us a → RcF H ((g, d) :: ds) ((g, v) :: us) a := fun {a} r => by unfold RcF; exact ⟨_, _, _, rfl, .inr r⟩
      have inv : ∀ {a}, RcV H d v a → RcF H ((g, d) :: ds) ((g, v) :: us) a := fun {a} r => by unfold RcF; exact ⟨_, _, _, rfl, .inl r⟩
      have hd : ∀ a, RcV H d v a → ¬ Rch H c q a := fun a r z => (h3 a r).2 (sp a z).1
      obtain ⟨j1, j2⟩ := ConF.join (x' := x') t h2 e ev (fun a o r => kp a o (inl r)) c2 (fun a r => ⟨(dj a r).1, fun z => (dj a r).2 ⟨inl z.1, z.2⟩⟩)
      have kv : ∀ a o, RcV H d v a → H a = some o → H2 a = some o := fun a o r => kp a o (inv r) (hd a r)
      have cv := ConV.to t h1 kv
      have rv := ConV.rcv h1 kv
      refine ⟨?_, fun a => ?_⟩
      · unfold ConF
        refine ⟨_, _, rfl, cv, j1, fun a r => ?_⟩
        have r' := (rv a).mp r
        refine ⟨(h3 a r').1, fun z => ?_⟩
        rcases (j2 a).mp z with z | z
        · exact (h3 a r').2 z.1
        · exact (dj a z).2 ⟨inv r', hd a r'⟩
      · constructor
        · intro r
          unfold RcF at r
          obtain ⟨k', v', us', e', r⟩ := r
          cases e'
          rcases r with r | r
          · exact .inl ⟨inv ((rv a).mp r), hd a ((rv a).mp r)⟩
          · rcases (j2 a).mp r with z | z
            · exact .inl ⟨inl z.1, z.2⟩
            · exact .inr z
        · rintro (⟨r, n⟩ | r)
          · unfold RcF at r ⊢
            obtain ⟨k', v', us', e', r⟩ := r
            cases e'
            refine ⟨_, _, _, rfl, ?_⟩
            rcases r with r | r
            · exact .inl ((rv a).mpr r)
            · exact .inr ((j2 a).mpr (.inl ⟨r, n⟩))
          · unfold RcF
            exact ⟨_, _, _, rfl, .inr ((j2 a).mpr (.inr r))⟩
theorem chD_cases {s : Sel} (e : chD d s = some c) : (∃ ds k, d = .lst ds ∧ s = .ix k ∧ ds[k]? = some (.ow c)) ∨ ∃ n fs f, d = .obj n fs ∧ s = .fd f ∧ fs.lookup f = some (.ow c) := by
  unfold chD at e
  split at e
  · rename_i ds k
    split at e
    · rename_i c' e'
      cases e
      exact .inl ⟨ds, k, rfl, rfl, e'⟩
    · cases e
  · rename_i n fs f
    split at e
    · rename_i c' e'
      cases e
      exact .inr ⟨n, fs, f, rfl, rfl, e'⟩
    · cases e
  · cases e
theorem ConN.split {s : Sel} (h : ConN K U H d p) (e : chD d s = some c) : ∃ q, chV H p s (.ref q) ∧ Cont K U H c q ∧ ∀ a, Rch H c q a → RcN H d p a ∧ a ≠ p := by
  rcases chD_cases e with ⟨ds, k, rfl, rfl, e9⟩ | ⟨n, fs, f, rfl, rfl, e9⟩
  · unfold ConN at h
    obtain ⟨vs, hp, h⟩ := h
    obtain ⟨q, e1, c1, r1⟩ := ConL.split h e9
    exact ⟨q, ⟨vs, hp, e1⟩, con_iff.mp c1, fun a r => ⟨by unfold RcN; exact ⟨vs, hp, (r1 a r).1⟩, (r1 a r).2⟩⟩
  · unfold ConN at h
    obtain ⟨C, dx, ws, hp, hc, h⟩ := h
    obtain ⟨q, e1, c1, r1⟩ := ConF.split h e9
    exact ⟨q, ⟨C, dx, ws, hp, e1⟩, con_iff.mp c1, fun a r => ⟨by unfold RcN; exact ⟨C, dx, ws, hp, (r1 a r).1⟩, (r1 a r).2⟩⟩
theorem chV_uniq {s : Sel} {v w : V} (h : chV H p s v) (h' : chV H p s w) : v = w := by
  cases s with
  | ix k =>
    obtain ⟨vs, e1, e2⟩ := h
    obtain ⟨us, e3, e4⟩ := h'
    rw [e1] at e3
    cases e3
    rw [e2] at e4
    cases e4
    rfl
  | fd f =>
    obtain ⟨C, dx, ws, e1, e2⟩ := h
    obtain ⟨C', dx', us, e3, e4⟩ := h'
    rw [e1] at e3
    cases e3
    rw [e2] at e4
    cases e4
    rfl
theorem ConN.join {s : Sel} {x' : D} (t : ∀ a o, H a = some o → ¬ U a → H2 a = some o ∧ ¬ U2 a) (h : ConN K U H d p) (e : chD d s = some c) (hq : chV H p s (.ref q)) (kp : ∀ a o, (a = p ∨ RcN H d p a) → ¬ Rch H c q a → H a = some o → H2 a = some o) (c2 : ConV K U2 H2 x' (.ref q)) (dj : ∀ a, RcV H2 x' (.ref q) a → a ≠ p ∧ ¬ (RcN H d p a ∧ ¬ Rch H c q a)) :
    ConN K U2 H2 (putC d s x') p ∧ ∀ a, (a = p ∨ RcN H2 (putC d s x') p a) ↔ ((a = p ∨ RcN H d p a) ∧ ¬ Rch H c q a) ∨ RcV H2 x' (.ref q) a := by
  obtain ⟨q', hq', _, sp⟩ := h.split e
  have eq := chV_uniq hq' hq
  cases eq
  have np : ¬ Rch H c q p := fun z => (sp p z).2 rfl
  rcases chD_cases e with ⟨ds, k, rfl, rfl, e9⟩ | ⟨n, fs, f, rfl, rfl, e9⟩
  · unfold ConN at h
    obtain ⟨vs, hp, h⟩ := h
    obtain ⟨vs', hp', ev⟩ := hq
    rw [hp] at hp'
    cases hp'
    have rn : ∀ a, RcN H (.lst ds) p a ↔ RcL H ds vs a := fun a => by
      unfold RcN
      exact ⟨fun ⟨us, e1, r⟩ => by rw [hp] at e1; cases e1; exact r, fun r => ⟨vs, hp, r⟩⟩
    have hp2 := kp p _ (.inl rfl) np hp
    obtain ⟨j1, j2⟩ := ConL.join t h e9 ev (fun a o r => kp a o (.inr ((rn a).mpr r))) c2 (fun a r => ⟨(dj a r).1, fun z => (dj a r).2 ⟨(rn a).mpr z.1, z.2⟩⟩)
    refine ⟨?_, fun a => ?_⟩
    · show ConN K U2 H2 (.lst (ds.set k x')) p
      unfold ConN
      exact ⟨vs, hp2, j1⟩
    · show (a = p ∨ RcN H2 (.lst (ds.set k x')) p a) ↔ _
      have rn2 : RcN H2 (.lst (ds.set k x')) p a ↔ RcL H2 (ds.set k x') vs a := by
        unfold RcN
        exact ⟨fun ⟨us, e1, r⟩ => by rw [hp2] at e1; cases e1; exact r, fun r => ⟨vs, hp2, r⟩⟩
      rw [rn2, j2 a, rn a]
      constructor
      · rintro (rfl | ⟨r, n⟩ | r)
        · exact .inl ⟨.inl rfl, np⟩
        · exact .inl ⟨.inr r, n⟩
        · exact .inr r
      · rintro (⟨rfl | r, n⟩ | r)
        · exact .inl rfl
        · exact .inr (.inl ⟨r, n⟩)
        · exact .inr (.inr r)
  · unfold ConN at h
    obtain ⟨C, dx, ws, hp, hc, h⟩ := h
    obtain ⟨C', dx', ws', hp', ev⟩ := hq
    rw [hp] at hp'
    cases hp'
    have rn : ∀ a, RcN H (.obj n fs) p a ↔ RcF H fs ws a := fun a => by
      unfold RcN
      exact ⟨fun ⟨_, _, us, e1, r⟩ => by rw [hp] at e1; cases e1; exact r, fun r => ⟨C, dx, ws, hp, r⟩⟩
    have hp2 := kp p _ (.inl rfl) np hp
    obtain ⟨j1, j2⟩ := ConF.join t h e9 ev (fun a o r => kp a o (.inr ((rn a).mpr r))) c2 (fun a r => ⟨(dj a r).1, fun z => (dj a r).2 ⟨(rn a).mpr z.1, z.2⟩⟩)
    refine ⟨?_, fun a => ?_⟩
    · show ConN K U2 H2 (.obj n (putFD f x' fs)) p
      unfold ConN
      exact ⟨C, dx, ws, hp2, hc, j1⟩
    · show (a = p ∨ RcN H2 (.obj n (putFD f x' fs)) p a) ↔ _
      have rn2 : RcN H2 (.obj n (putFD f x' fs)) p a ↔ RcF H2 (putFD f x' fs) ws a := by
        unfold RcN
        exact ⟨fun ⟨_, _, us, e1, r⟩ => by rw [hp2] at e1; cases e1; exact r, fun r => ⟨C, dx, ws, hp2, r⟩⟩
      rw [rn2, j2 a, rn a]
      constructor
      · rintro (rfl | ⟨r, n⟩ | r)
        · exact .inl ⟨.inl rfl, np⟩
        · exact .inl ⟨.inr r, n⟩
        · exact .inr r
      · rintro (⟨rfl | r, n⟩ | r)
        · exact .inl rfl
        · exact .inr (.inl ⟨r, n⟩)
        · exact .inr (.inr r)
end
end PyD

namespace PyD
open PySem PySem.Spec L2
section
variable {K : PySem.W.Frag} {W : WX} {B B' B1 B2 S T : Addr → Prop} {U U' : Addr → Prop} {H H' H1 H2 : Hp} {σ σ' σ1 σx : L2.St} {en en' en1 en2 enx eA eB : En} {d d0 d1 c c' : D} {v : V} {i : Nat} {p q : Addr} {b : Bool} {s : Sel} {Q : VK} {io : List Bool} {φ : List D → Out}
theorem rch_ow {a : Addr} : Rch H (.ow d) p a ↔ (a = p ∨ RcN H d p a) := by unfold Rch; exact Iff.rfl
end
end PyD

namespace PyD
open PySem PySem.Spec L2
noncomputable def callR (io : List Bool) (φ : List D → Out) (rs : List R) (en1 : En) : Res R := match rsls en1 rs with
  | some ds => (match lentOk io rs && nodupB (slotsOf rs) with
    | true => (match φ ds with
      | .ret b d outs => (match !(borrows io rs) || (!(io.elem true) && resFlat b d) with
        | true => .ok (mkR b d) (putBack io rs outs en1)
        | false => .bad)
      | .exc x outs => (match !(borrows io rs) || (!(io.elem true) && excFlat x) with
        | true => .exc x (putBack io rs outs en1)
        | false => .bad)
      | .bad => .bad)
    | false => .bad)
  | none => .bad
noncomputable def unC (n i : Nat) (b : Bool) (d : D) (s : Sel) (en : En) : Option En := match en[n]? with
  | some (.o b' c') => if b' = b then some ((en.take n).set i (.o b (.ow (putC d s (.ow c'))))) else none
  | _ => none
noncomputable def callCR (io : List Bool) (φ : List D → Out) (chk : D → Bool) (js : List Nat) (i : Nat) (s : Sel) (fs : M (List R)) (en1 : En) : Res R := match en1[i]? with
  | some (.o b (.ow d)) => (match chD d s with
    | some c => (match chk c with
      | true => (match fs (en1.set i .e) with
        | .ok rs en2 => (match callR io φ (js.map .sl ++ .sl en1.length :: rs) (en2.set i .e ++ [.o b c]) with
          | .ok r en3 => (match unC en1.length i b d s en3 with
            | some en4 => .ok r en4
            | none => .bad)
          | .exc x en3 => (match unC en1.length i b d s en3 with
            | some en4 => .exc x en4
            | none => .bad)
          | .bad => .bad)
        | .exc x en2 => .exc x (en2.set i (.o b (.ow d)))
        | .bad => .bad)
      | false => .bad)
    | none => .bad)
  | _ => .bad
noncomputable def callCS (io : List Bool) (φ : List D → Out) (chk : D → Bool) (js : List Nat) (i : Nat) (sm : M Sel) (fs : M (List R)) : M R := fun en => match sm en with
  | .ok s en1 => callCR io φ chk js i s fs en1
  | .exc x en1 => .exc x en1
  | .bad => .bad
section
variable {K : PySem.W.Frag} {W : WX} {B B' B1 B2 S T : Addr → Prop} {U U' : Addr → Prop} {H H' H1 H2 : Hp} {σ σ' σ1 σx : L2.St} {en en' en1 en2 enx eA eB : En} {d d0 d1 c c' : D} {v : V} {i : Nat} {p q : Addr} {b : Bool} {s : Sel} {Q : VK} {io : List Bool} {φ : List D → Out} {fs : M (List R)}
noncomputable def RdP (K : PySem.W.Frag) (W : WX) (i : Nat) (sm : M Sel) : TE := fun σ H Q => ∃ B en, Good K B H σ en ∧ match sm en with
  | .ok s en' => ∀ v H', (∃ B', Bx B B' σ en H ∧ Good K B' H' σ en' ∧ ∃ b d p c, en'[i]? = some (.o b (.ow d)) ∧ σ[i]? = some (some (.ref p)) ∧ chD d s = some c ∧ chV H' p s v) → Stp σ en H σ en' H' → Q v H'
  | .exc x en' => ∀ c od H', ExR K (Un B H' σ en') H' x c od → Good K B H' σ en' → Stp σ en H σ en' H' → W c od σ H'
  | .bad => False
theorem ExR.un {x : Ex} {cl : Value} {od : Option Addr} (h : ∀ a, U' a → U a) (e : ExR K U H x cl od) : ExR K U' H x cl od := e.mono h
end
end PyD

namespace PyD
open PySem PySem.Spec L2
noncomputable def selI (i : Nat) (f : M R) : M Sel := fun en => match en[i]? with
  | some (.o _ (.ow _)) => (match f en with
    | .ok r en1 => (match rsl en1 r with
      | some (.int j) => (match en1[i]? with
        | some (.o _ (.ow (.lst ds))) => (match ixN ds.length j with
          | some k => (match chD (.lst ds) (.ix k) with
            | some _ => .ok (.ix k) en1
            | none => .bad)
          | none => .bad)
        | _ => .bad)
      | _ => .bad)
    | .exc x en1 => .exc x en1
    | .bad => .bad)
  | _ => .bad
noncomputable def selF (i : Nat) (n : ON) (f : Str) : M Sel := fun en => match en[i]? with
  | some (.o _ (.ow (.obj k fs))) => if k = n then (match chD (.obj k fs) (.fd f) with
    | some _ => .ok (.fd f) en
    | none => .bad) else .bad
  | _ => .bad
noncomputable def callC1 (io : List Bool) (φ : List D → Out) (j i : Nat) (sm : M Sel) (fs : M (List R)) : M R := fun en => match en[j]? with
  | some (.o _ _) => callCS io φ (fun _ => true) [j] i sm fs en
  | _ => .bad
section
variable {K : PySem.W.Frag} {W : WX} {B B' B1 B2 : Addr → Prop} {H H' H1 H2 : Hp} {σ σ' σ1 : L2.St} {en en' en1 en2 : En} {d d0 d1 c c' : D} {v : V} {i j : Nat} {p q : Addr} {b : Bool} {s : Sel} {Q : VK} {io : List Bool} {φ : List D → Out} {fs : M (List R)} {sm : M Sel}
theorem RdP.mono {Q Q' : VK} (h : ∀ v H, Q v H → Q' v H) (m : RdP K W i sm σ H Q) : RdP K W i sm σ H Q' := by
  obtain ⟨B, en, G, m⟩ := m
  refine ⟨B, en, G, ?_⟩
  revert m
  cases sm en with
  | ok s en' => exact fun m v H' a b => h v H' (m v H' a b)
  | exc x en' => exact fun m => m
  | bad => exact fun m => m
end
section
variable {X : Cx} {W : WX} {i j : Nat} {io : List Bool} {φ : List D → Out} {fs : M (List R)} {sm : M Sel} {pos p p2 apos : Pos} {e o ix : Expr} {es : List Expr} {x : Str}
end
end PyD

namespace PyD
open PySem PySem.Spec L2
section
variable {K : PySem.W.Frag} {W : WX} {B B' B1 B2 : Addr → Prop} {U U' : Addr → Prop} {H H' H1 H2 H3 : Hp} {σ σ' σ1 : L2.St} {en en' en1 en2 : En} {d d0 d1 c c' : D} {v : V} {i j : Nat} {p q : Addr} {b : Bool} {s : Sel} {Q : VK} {fs : M (List R)} {sm : M Sel} {D0 : Ends}
noncomputable def mutC (i : Nat) (sm : M Sel) (isT : D → Bool) (g : D → List D → Option (D × D)) (fs : M (List R)) : M R := fun en => match sm en with
  | .ok s en1 => (match en1[i]? with
    | some (.o b (.ow d)) => (match chD d s with
      | some c => (match isT c with
        | true => (match fs (en1.set i .e) with
          | .ok rs en2 => (match stos rs with
            | some ds => (match g c ds with
              | some (c', r) => .ok (.sh r) (en2.set i (.o b (.ow (putC d s (.ow c')))))
              | none => .bad)
            | none => .bad)
          | .exc x en2 => .exc x (en2.set i (.o b (.ow d)))
          | .bad => .bad)
        | false => .bad)
      | none => .bad)
    | _ => .bad)
  | .exc x en1 => .exc x en1
  | .bad => .bad
noncomputable def stC (i : Nat) (sm : M Sel) (fi fv : M R) (u : D → D → D → Option D) : En → Fl := fun en => match fv en with
  | .ok r en0 => (match stoD r with
    | some x => (match sm en0 with
      | .ok s en1 => (match en1[i]? with
        | some (.o b (.ow d)) => (match chD d s with
          | some c => (match fi (en1.set i .e) with
            | .ok ri en2 => (match rsl en2 ri with
              | some di => (match u c di x with
                | some c' => .nx (en2.set i (.o b (.ow (putC d s (.ow c')))))
                | none => .bad)
              | none => .bad)
            | .exc x en2 => .exc x (en2.set i (.o b (.ow d)))
            | .bad => .bad)
          | none => .bad)
        | _ => .bad)
      | .exc x en1 => .exc x en1
      | .bad => .bad)
    | none => .bad)
  | .exc x en1 => .exc x en1
  | .bad => .bad
end
section
variable {X : Cx} {W : WX} {pos p2 : Pos} {e o : Expr} {es : List Expr} {fi fv : M R} {fs : M (List R)} {i : Nat} {name : Str} {apos cpos : Pos} {T id : String} {sm : M Sel}
end
end PyD

namespace PyD
open PySem PySem.Spec L2
noncomputable def dmC (i : Nat) (sm : M Sel) : M R := fun en => match sm en with
  | .ok s en1 => (match en1[i]? with
    | some (.o b (.ow d)) => (match chD d s with
      | some c => (match c.flatO with
        | true => .ok (.sh c) (en1.set i (.o b (.ow (putC d s c))))
        | false => .bad)
      | none => .bad)
    | _ => .bad)
  | .exc x en1 => .exc x en1
  | .bad => .bad
noncomputable def unow : D → D
  | .ow c => c
  | d => d
noncomputable def er1 : D → D
  | .ow (.lst ds) => .lst (ds.map unow)
  | d => d
noncomputable def dmE (i : Nat) : M R := fun en => match en[i]? with
  | some (.v d) => .ok (.sh d) en
  | some (.o false d) => .ok (.sh (er1 d)) (en.set i (.v (er1 d)))
  | _ => .bad
noncomputable def fldR (n : ON) (f : Str) (i : Nat) : M R := fun en => match en[i]? with
  | some (.o _ (.ow (.obj k fs))) => if k = n then (match fs.lookup f with
    | some d => (match d.flatO with
      | true => .ok (.sh d) en
      | false => .bad)
    | none => .bad) else .bad
  | _ => .bad
noncomputable def fldN (i : Nat) (n : ON) (f : Str) (fv : M R) : En → Fl := fun en => match fv en with
  | .ok r en1 => (match en1[i]? with
    | some (.o b (.ow (.obj k fs))) => if k = n ∧ fs.length < 1000 then (match r with
      | .sh d => (match d.flatO with
        | true => .nx (en1.set i (.o b (.ow (.obj k (putFD f d fs)))))
        | false => .bad)
      | .fr d => .nx (en1.set i (.o b (.ow (.obj k (putFD f (.ow d) fs)))))
      | .sl _ => .bad) else .bad
    | _ => .bad)
  | .exc x en1 => .exc x en1
  | .bad => .bad
noncomputable def isnC (neg : Bool) (n : ON) (f : Str) (i : Nat) : M R := fun en => match en[i]? with
  | some (.o _ (.ow (.obj k fs))) => if k = n then (match fs.lookup f with
    | some (.ow _) => .ok (.sh (.bl neg)) en
    | some .non => .ok (.sh (.bl (!neg))) en
    | _ => .bad) else .bad
  | _ => .bad
noncomputable def mkN (n : ON) (φ : List D → Out) : M R := fun en => match φ [.obj n []] with
  | .ret _ .non [.obj k fs] => (match fs.all (fun p => p.2.flatO) with
    | true => .ok (.fr (.ow (.obj k fs))) en
    | false => .bad)
  | _ => .bad
noncomputable def owns : List R → Option (List D)
  | [] => some []
  | .fr d :: rs => (owns rs).map fun ds => .ow d :: ds
  | .sh d :: rs => match d.flatO with
    | true => (owns rs).map fun ds => d :: ds
    | false => none
  | .sl _ :: _ => none
noncomputable def lstN (fs : M (List R)) : M R := fun en => match fs en with
  | .ok rs en1 => (match owns rs with
    | some ds => (match decide (ds.length ≤ 1000) with
      | true => .ok (.fr (.ow (.lst ds))) en1
      | false => .bad)
    | none => .bad)
  | .exc x en1 => .exc x en1
  | .bad => .bad
section
variable {K : PySem.W.Frag} {W : WX} {B B' B1 B2 : Addr → Prop} {U U' : Addr → Prop} {H H' H1 H2 H3 : Hp} {σ σ' σ1 : L2.St} {en en' en1 en2 : En} {d d0 d1 c c' : D} {v : V} {i j : Nat} {p q : Addr} {b : Bool} {s : Sel} {Q : VK} {fs : M (List R)} {sm : M Sel} {D0 : Ends}
theorem flat_ow (h : d.flatO = true) : ∀ c, d ≠ .ow c := fun c z => by rw [z] at h; cases h
theorem rcV_flat (h : d.flatO = true) {a : Addr} : ¬ RcV H d v a := fun z => by
  obtain ⟨c, q, e, _⟩ := rcV_ow z
  exact flat_ow h c e
theorem Rep.unow : Rep K U H d v → Rep K U H (unow d) v := fun r => by
  cases d with
  | ow c => unfold Rep at r; exact r.2
  | _ => exact r
theorem RepL.unow : ∀ {ds : List D} {vs : List V}, RepL K U H ds vs → RepL K U H (ds.map PyD.unow) vs
  | [], _, r => by unfold RepL at r; subst r; show RepL K U H [] []; unfold RepL; rfl
  | d :: ds, vs, r => by
    unfold RepL at r
    obtain ⟨v, us, rfl, h1, h2⟩ := r
    rw [List.map_cons]
    unfold RepL
    exact ⟨v, us, rfl, h1.unow, h2.unow⟩
theorem Rep.er1 : Rep K U H d v → Rep K U H (er1 d) v := fun r => by
  unfold PyD.er1
  split
  · rename_i ds
    unfold Rep at r
    have r2 := r.2
    unfold Rep at r2 ⊢
    obtain ⟨a, vs, e, nu, ha, rl⟩ := r2
    exact ⟨a, vs, e, nu, ha, rl.unow⟩
  · exact r
theorem ConF.put {f : Str} {x' : D} {w : V} (t : ∀ a o, H a = some o → ¬ U a → H2 a = some o ∧ ¬ U' a) (hx : ConV K U' H2 x' w) : ∀ {fs : List (Str × D)} {ws : List (Str × V)}, ConF K U H p fs ws → (∀ a o, RcF H fs ws a → H a = some o → H2 a = some o) → (∀ a, RcV H2 x' w a → a ≠ p ∧ ¬ RcF H fs ws a) →
    ConF K U' H2 p (putFD f x' fs) (putF f w ws) ∧ ∀ a, RcF H2 (putFD f x' fs) (putF f w ws) a → RcF H fs ws a ∨ RcV H2 x' w a
  | [], ws, h, kp, dj => by
    unfold ConF at h
    subst h
    have e1 : putFD f x' [] = [(f, x')] := rfl
    have e2 : putF f w [] = [(f, w)] := rfl
    rw [e1, e2]
    refine ⟨?_, fun a r => ?_⟩
    · unfold ConF
      exact ⟨w, [], rfl, hx, by unfold ConF; rfl, fun a r => ⟨(dj a r).1, fun z => by unfold RcF at z; exact z⟩⟩
    · unfold RcF at r
      obtain ⟨k, v, us, e, r⟩ := r
      cases e
      rcases r with r | r
      · exact .inr r
      · unfold RcF at r; exact r.elim
  | (g, d) :: fs, ws, h, kp, dj => by
    unfold ConF at h
    obtain ⟨v, us, rfl, h1, h2, h3⟩ := h
    have inl : ∀ {a}, RcF H fs us a → RcF H ((g, d) :: fs) ((g, v) :: us) a := fun {a} r => by unfold RcF; exact ⟨_, _, _, rfl, .inr r⟩
    have inv : ∀ {a}, RcV H d v a → RcF H ((g, d) :: fs) ((g, v) :: us) a := fun {a} r => by unfold RcF; exact ⟨_, _, _, rfl, .inl r⟩
    have k1 : ∀ a o, RcV H d v a → H a = some o → H2 a = some o := fun a o r => kp a o (inv r)
    have k2 : ∀ a o, RcF H fs us a → H a = some o → H2 a = some o := fun a o r => kp a o (inl r)
    by_cases hg : g = f
    · have e1 : putFD f x' ((g, d) :: fs) = (g, x') :: fs := by unfold putFD; rw [if_pos hg]
      have e2 : putF f w ((g, v) :: us) = (g, w) :: us := by unfold putF; rw [if_pos hg]
      rw [e1, e2]
      have rl := ConF.rcf h2 k2
      refine ⟨?_, fun a r => ?_⟩
      · unfold ConF
        exact ⟨w, us, rfl, hx, ConF.to t h2 k2, fun a r => ⟨(dj a r).1, fun z => (dj a r).2 (inl ((rl a).mp z))⟩⟩
      · unfold RcF at r
        obtain ⟨k, v', us', e, r⟩ := r
        cases e
        rcases r with r | r
        · exact .inr r
        · exact .inl (inl ((rl a).mp r))
    · have e1 : putFD f x' ((g, d) :: fs) = (g, d) :: putFD f x' fs := by
        show (if g = f then _ else _) = _
        rw [if_neg hg]
      have e2 : putF f w ((g, v) :: us) = (g, v) :: putF f w us := by
        show (if g = f then _ else _) = _
        rw [if_neg hg]
      rw [e1, e2]
      obtain ⟨q1, q2⟩ := ConF.put (f := f) t hx h2 k2 (fun a r => ⟨(dj a r).1, fun z => (dj a r).2 (inl z)⟩)
      have rv := ConV.rcv h1 k1
      refine ⟨?_, fun a r => ?_⟩
      · unfold ConF
        refine ⟨v, _, rfl, ConV.to t h1 k1, q1, fun a r => ?_⟩
        have r' := (rv a).mp r
        refine ⟨(h3 a r').1, fun z => ?_⟩
        rcases q2 a z with z | z
        · exact (h3 a r').2 z
        · exact (dj a z).2 (inv r')
      · unfold RcF at r
        obtain ⟨k, v', us', e, r⟩ := r
        cases e
        rcases r with r | r
        · exact .inl (inv ((rv a).mp r))
        · rcases q2 a r with z | z
          · exact .inl (inl z)
          · exact .inr z
theorem owns_con : ∀ {rs : List R} {vs : List V} {ds : List D}, Good K B1 H1 σ en1 → H1 p = none → (∀ a, U a → Un B1 H1 σ en1 a ∨ a = p) → (∀ a o, a ≠ p → H1 a = some o → H2 a = some o) → ArgRs K B1 σ en1 H1 rs vs → owns rs = some ds →
    ConL K U H2 p ds vs ∧ ∀ a, RcL H2 ds vs a ↔ RcRs H1 rs vs a
  | [], vs, ds, _, _, _, _, h, e => by
    cases e
    have h' : vs = [] := h
    subst h'
    exact ⟨by unfold ConL; rfl, fun a => by unfold RcL RcRs; exact Iff.rfl⟩
  | .sl _ :: rs, vs, ds, _, _, _, _, _, e => by cases e
  | .sh d :: rs, vs, ds, G1, hp, hU, k, ⟨v, us, e1, h1, h2, h3⟩, e => by
    subst e1
    unfold owns at e
    cases ef : d.flatO with
    | false => rw [ef] at e; cases e
    | true =>
      rw [ef] at e
      obtain ⟨ds', e2, rfl⟩ := Option.map_eq_some_iff.mp e
      obtain ⟨q1, q2⟩ := owns_con G1 hp hU k h2 e2
      have t : ∀ a o, H1 a = some o → ¬ Un B1 H1 σ en1 a → H2 a = some o ∧ ¬ U a := fun a o x n => by
        have na : a ≠ p := fun z => by rw [z, hp] at x; cases x
        exact ⟨k a o na x, fun z => (hU a z).elim n na⟩
      refine ⟨?_, fun a => ?_⟩
      · unfold ConL
        exact ⟨v, us, rfl, (conV_rep (flat_ow ef)).mpr (Rep.to t _ _ h1), q1, fun a r => (rcV_flat ef r).elim⟩
      · constructor
        · intro z
          unfold RcL at z
          obtain ⟨v', us', e', z⟩ := z
          cases e'
          rcases z with z | z
          · exact (rcV_flat ef z).elim
          · exact .inr ((q2 a).mp z)
        · rintro (z | z)
          · exact z.elim
          · unfold RcL
            exact ⟨v, us, rfl, .inr ((q2 a).mpr z)⟩
  | .fr d :: rs, vs, ds, G1, hp, hU, k, ⟨v, us, e1, ⟨q, ev, bq, cq⟩, h2, h3⟩, e => by
    subst e1
    subst ev
    unfold owns at e
    obtain ⟨ds', e2, rfl⟩ := Option.map_eq_some_iff.mp e
    obtain ⟨q1, q2⟩ := owns_con G1 hp hU k h2 e2
    have t : ∀ a o, H1 a = some o → ¬ Un B1 H1 σ en1 a → H2 a = some o ∧ ¬ U a := fun a o x n => by
      have na : a ≠ p := fun z => by rw [z, hp] at x; cases x
      exact ⟨k a o na x, fun z => (hU a z).elim n na⟩
    have nr : ∀ a, Rch H1 d q a → a ≠ p := fun a r z => by
      obtain ⟨o, ho⟩ := cq.atR r
      rw [z, hp] at ho
      cases ho
    have kr : ∀ a o, Rch H1 d q a → H1 a = some o → H2 a = some o := fun a o r => k a o (nr a r)
    have rr := cq.rch kr
    have rv : ∀ a, RcV H2 (.ow d) (.ref q) a ↔ Rch H1 d q a := fun a => by
      unfold RcV
      exact ⟨fun ⟨q', e, r⟩ => by cases e; exact (rr a).mp r, fun r => ⟨q, rfl, (rr a).mpr r⟩⟩
    refine ⟨?_, fun a => ?_⟩
    · unfold ConL
      refine ⟨.ref q, us, rfl, by unfold ConV; exact ⟨q, rfl, con_iff.mpr (Cont.to t kr cq)⟩, q1, fun a r => ?_⟩
      have r' := (rv a).mp r
      exact ⟨nr a r', fun z => h3 a ⟨q, rfl, r'⟩ ((q2 a).mp z)⟩
    · constructor
      · intro z
        unfold RcL at z
        obtain ⟨v', us', e', z⟩ := z
        cases e'
        rcases z with z | z
        · exact .inl ⟨q, rfl, (rv a).mp z⟩
        · exact .inr ((q2 a).mp z)
      · rintro (z | z)
        · obtain ⟨q', e', r⟩ := z
          cases e'
          unfold RcL
          exact ⟨_, us, rfl, .inl ((rv a).mpr r)⟩
        · unfold RcL
          exact ⟨_, us, rfl, .inr ((q2 a).mpr z)⟩
theorem rcRs_B : ∀ {rs : List R} {vs : List V} {a : Addr}, ArgRs K B1 σ en1 H1 rs vs → RcRs H1 rs vs a → B1 a
  | [], vs, a, _, z => by unfold RcRs at z; exact z.elim
  | r :: rs, vs, a, ⟨v, us, e, h1, h2, _⟩, z => by
    subst e
    rcases z with z | z
    · cases r with
      | sh d => exact z.elim
      | sl i => exact z.elim
      | fr d =>
        obtain ⟨p, e, r⟩ := z
        obtain ⟨p', e', bp, _⟩ := h1
        rw [e] at e'
        cases e'
        exact bp a r
    · exact rcRs_B h2 z
end
section
variable {X : Cx} {W : WX} {pos pos' p p2 : Pos} {e o : Expr} {es : List Expr} {fs : M (List R)} {fv : M R} {i : Nat} {sm : M Sel} {n : ON} {C : Addr} {f : Str}
end
end PyD

namespace PyD
open PySem PySem.Spec L2
noncomputable def ownD : R → Option D
  | .fr d => some (.ow d)
  | .sh d => match d.flatO with
    | true => some d
    | false => none
  | .sl _ => none
noncomputable def lcNL (g : D → M Unit) (tt : M Bool) (te : M R) (vs : List Nat) : List D → List D → En → Res (List D)
  | [], acc, en => .ok acc en
  | d :: ds, acc, en => match g d en with
    | .ok _ en1 => (match tt en1 with
      | .ok true en2 => (match te en2 with
        | .ok r en3 => (match ownD r with
          | some y => (match decide (acc.length < 1000000) with
            | true => lcNL g tt te vs ds (acc ++ [y]) (wipeE vs en3)
            | false => .bad)
          | none => .bad)
        | _ => .bad)
      | .ok false en2 => lcNL g tt te vs ds acc (wipeE vs en2)
      | _ => .bad)
    | _ => .bad
noncomputable def lcNF (it : M (List D)) (g : D → M Unit) (tt : M Bool) (te : M R) (vs : List Nat) : M R := fun en => match it en with
  | .ok ds en1 => (match vs.all (freeAt en1) with
    | true => (match lcNL g tt te vs ds [] (wipeE vs en1) with
      | .ok acc en2 => .ok (.fr (.ow (.lst acc))) (resE vs en1 en2)
      | _ => .bad)
    | false => .bad)
  | .exc x en1 => .exc x en1
  | .bad => .bad
section
variable {K : PySem.W.Frag} {W : WX} {B B' B1 : Addr → Prop} {U U' : Addr → Prop} {H H' H1 H2 : Hp} {σ σ' σ1 : L2.St} {en en' en1 : En} {d : D} {v : V} {i : Nat} {p : Addr} {ds : List D} {Q : VK}
theorem ConL.snoc {y : D} {w : V} : ∀ {ds : List D} {vs : List V}, ConL K U H p ds vs → ConV K U H y w → (∀ a, RcV H y w a → a ≠ p ∧ ¬ RcL H ds vs a) → ConL K U H p (ds ++ [y]) (vs ++ [w]) ∧ ∀ a, RcL H (ds ++ [y]) (vs ++ [w]) a ↔ RcL H ds vs a ∨ RcV H y w a
  | [], vs, h, hy, dj => by
    unfold ConL at h
    subst h
    show ConL K U H p [y] [w] ∧ ∀ a, RcL H [y] [w] a ↔ _
    refine ⟨?_, fun a => ?_⟩
    · unfold ConL
      exact ⟨w, [], rfl, hy, by unfold ConL; rfl, fun a r => ⟨(dj a r).1, fun z => by unfold RcL at z; exact z⟩⟩
    · constructor
      · intro z
        unfold RcL at z
        obtain ⟨v, us, e, z⟩ := z
        cases e
        rcases z with z | z
        · exact .inr z
        · unfold RcL at z; exact z.elim
      · rintro (z | z)
        · unfold RcL at z; exact z.elim
        · unfold RcL
          exact ⟨w, [], rfl, .inl z⟩
  | d :: ds, vs, h, hy, dj => by
    unfold ConL at h
    obtain ⟨v, us, rfl, h1, h2, h3⟩ := h
    obtain ⟨q1, q2⟩ := ConL.snoc h2 hy fun a r => ⟨(dj a r).1, fun z => (dj a r).2 (by unfold RcL; exact ⟨_, _, rfl, .inr z⟩)⟩
    show ConL K U H p (d :: (ds ++ [y])) (v :: (us ++ [w])) ∧ ∀ a, RcL H (d :: (ds ++ [y])) (v :: (us ++ [w])) a ↔ _
    refine ⟨?_, fun a => ?_⟩
    · unfold ConL
      refine ⟨v, _, rfl, h1, q1, fun a r => ⟨(h3 a r).1, fun z => ?_⟩⟩
      rcases (q2 a).mp z with z | z
      · exact (h3 a r).2 z
      · exact (dj a z).2 (by unfold RcL; exact ⟨_, _, rfl, .inl r⟩)
    · constructor
      · intro z
        unfold RcL at z
        obtain ⟨v', us', e, z⟩ := z
        cases e
        rcases z with z | z
        · exact .inl (by unfold RcL; exact ⟨_, _, rfl, .inl z⟩)
        · rcases (q2 a).mp z with z | z
          · exact .inl (by unfold RcL; exact ⟨_, _, rfl, .inr z⟩)
          · exact .inr z
      · rintro (z | z)
        · unfold RcL at z
          obtain ⟨v', us', e, z⟩ := z
          cases e
          unfold RcL
          exact ⟨v, _, rfl, z.imp id fun z => (q2 a).mpr (.inl z)⟩
        · unfold RcL
          exact ⟨v, _, rfl, .inr ((q2 a).mpr (.inr z))⟩
noncomputable def LcB (B1 : Addr → Prop) (Dl : Addr) (H : Hp) (acc : List D) (us : List V) : Addr → Prop := fun a => (B1 a ∨ a = Dl) ∨ RcL H acc us a
theorem lcNImp {it : M (List D)} {g : D → M Unit} {tg : TG} {is : List Nat} {tt : M Bool} {te : M R} {vs : List Nat} (hg : TgW K g tg is) (his : ∀ i ∈ is, i ∈ vs) (m : RdE K W (lcNF it g tt te vs) σ H Q) :
    tLc (RdI K W it) tg (RdT K W0 tt) (RdE K W0 te) vs σ H Q := by
  obtain ⟨B, en, G, m⟩ := m
  refine ⟨B, en, G, ?_⟩
  unfold lcNF at m
  cases e1 : it en with
  | bad => rw [e1] at m; exact m
  | exc x en1 => rw [e1] at m; exact m
  | ok ds en1 =>
    rw [e1] at m
    dsimp only at m ⊢
    intro J H1 B1 b1 G1 st1 wk Dl hD
    cases e2 : vs.all (freeAt en1) with
    | false => rw [e2] at m; exact m.elim
    | true =>
      rw [e2] at m
      dsimp only at m
      have hpin : ∀ v ∈ vs, ∀ d, en1[v]? ≠ some (.o true d) := fun v h => (freeAt_lt (List.all_eq_true.mp e2 v h)).2
      cases e3 : lcNL g tt te vs ds [] (wipeE vs en1) with
      | bad => rw [e3] at m; exact m.elim
      | exc x en2 => rw [e3] at m; exact m.elim
      | ok acc0 en9 =>
        rw [e3] at m
        dsimp only at m
        have G1w := G1.wipe (vs := vs)
        refine ⟨fun i k H2 => k + i = ds.length ∧ ∃ en2 accD accV, Good K (LcB B1 Dl H2 accD accV) H2 (L2.wipe σ vs) en2 ∧ Stp (L2.wipe σ vs) (wipeE vs en1) H1 (L2.wipe σ vs) en2 H2 ∧ H2 Dl = some (.lst accV) ∧ ConL K (Un (LcB B1 Dl H2 accD accV) H2 (L2.wipe σ vs) en2) H2 Dl accD accV ∧
            (∀ a, RcL H2 accD accV a → H1 a = none ∨ OwnF H1 (L2.wipe σ vs) (wipeE vs en1) a) ∧ lcNL g tt te vs (ds.drop i) accD en2 = .ok acc0 en9, ⟨ds.length, by omega, wipeE vs en1, [], [], ?_, (Stp.refl _ _ H1).updNew hD G1w (fun z => by obtain ⟨o, ho⟩ := G1w.ownAt z; rw [hD] at ho; cases ho), upd_same, by unfold ConL; rfl, fun a z => by unfold RcL at z; exact z.elim, e3⟩, ?_⟩
        · exact (newOwn hD G1w).mono fun a z => z.elim id fun z => by unfold RcL at z; exact z.elim
        intro i k H2 ⟨ek, en2, accD, accV, G2, st2, hD2, ra, nw, el⟩
        have sw : Stp σ en1 H1 (L2.wipe σ vs) en2 H2 := (Stp.wipe hpin).trans st2
        have kp : Kp (Un B1 H1 σ en1) H1 H2 := sw.kp
        have bxA : ∀ {H : Hp} {accD : List D} {accV : List V}, (∀ a, RcL H accD accV a → H1 a = none ∨ OwnF H1 (L2.wipe σ vs) (wipeE vs en1) a) → Bx B1 (LcB B1 Dl H accD accV) σ en1 H1 := fun {H accD accV} nw => ⟨fun a z => .inl (.inl z), fun a z => by
          rcases z with (z | z) | z
          · exact .inl z
          · rw [z]; exact .inr (.inl hD)
          · rcases nw a z with y | y
            · exact .inr (.inl y)
            · exact .inr (.inr (own_wipe y.own))⟩
        have bD := bxA nw
        by_cases hi : i < ds.length
        · refine .inr ⟨wk.go i H2 kp hi, fun H' => ∃ m', m' < k ∧ m' + (i + 1) = ds.length ∧ ∃ en2 accD accV, Good K (LcB B1 Dl H' accD accV) H' (L2.wipe σ vs) en2 ∧ Stp (L2.wipe σ vs) (wipeE vs en1) H1 (L2.wipe σ vs) en2 H' ∧ H' Dl = some (.lst accV) ∧ ConL K (Un (LcB B1 Dl H' accD accV) H' (L2.wipe σ vs) en2) H' Dl accD accV ∧
            (∀ a, RcL H' accD accV a → H1 a = none ∨ OwnF H1 (L2.wipe σ vs) (wipeE vs en1) a) ∧ lcNL g tt te vs (ds.drop (i + 1)) accD en2 = .ok acc0 en9, fun H' z => z, ?_⟩
          intro x H3 hy
          have ed : ds[i]? = some ds[i] := List.getElem?_eq_getElem hi
          obtain ⟨x3, r3⟩ := wk.yld i H2 x H3 ds[i] kp ed hy
          have G3 := G2.ext0 x3
          have st3 : Stp (L2.wipe σ vs) en2 H2 (L2.wipe σ vs) en2 H3 := Stp.ext G2 x3
          have rr : Rep K (Un (LcB B1 Dl H2 accD accV) H3 (L2.wipe σ vs) en2) H3 ds[i] x := Rep.to (fun a o x n => ⟨x, fun z => n (z.imp id (G2.ownIff (H' := H3) (fun a o _ => x3 a o) a).mp)⟩) _ _ (r3 (Un (LcB B1 Dl H2 accD accV) H2 (L2.wipe σ vs) en2) (fun a o e1 n z => (stepTo sw bD a o e1 n).2 z) (fun a => G2.unAt))
          rw [List.drop_eq_getElem_cons hi] at el
          unfold lcNL at el
          cases e4 : g ds[i] en2 with
          | exc y en3 => rw [e4] at el; cases el
          | bad => rw [e4] at el; cases el
          | ok u en3 =>
            rw [e4] at el
            dsimp only at el
            refine hg his G3 rr e4 fun σ4 G4 st4 w4 => ⟨w4.trans rfl |>.trans (wipe_idem σ vs), ?_⟩
            have wst : L2.wipe σ4 vs = L2.wipe σ vs := w4.trans (wipe_idem σ vs)
            have stA : Stp (L2.wipe σ vs) en2 H2 σ4 en3 H3 := st3.trans st4
            have nOwn2 : ∀ a, LcB B1 Dl H2 accD accV a → ¬ Own H2 (L2.wipe σ vs) en2 a := fun a z y => G2.ownNB y z
            -- the next turn, from a state within the block
            have next : ∀ {en6 : En} {H6 : Hp} {accV' : List V} {accD' : List D}, H6 Dl = some (.lst accV) → Good K (LcB B1 Dl H6 accD' accV') H6 σ4 en6 → Stp (L2.wipe σ vs) en2 H2 σ4 en6 H6 → ConL K (Un (LcB B1 Dl H6 accD' accV') H6 σ4 en6) H6 Dl accD' accV' → (∀ a, RcL H6 accD' accV' a → a ≠ Dl) →
                (∀ a, RcL H6 accD' accV' a → H1 a = none ∨ OwnF H1 (L2.wipe σ vs) (wipeE vs en1) a) → lcNL g tt te vs (ds.drop (i + 1)) accD' (wipeE vs en6) = .ok acc0 en9 →
                ∃ m', m' < k ∧ m' + (i + 1) = ds.length ∧ ∃ en2 accD accV, Good K (LcB B1 Dl (upd H6 Dl (.lst accV')) accD accV) (upd H6 Dl (.lst accV')) (L2.wipe σ vs) en2 ∧ Stp (L2.wipe σ vs) (wipeE vs en1) H1 (L2.wipe σ vs) en2 (upd H6 Dl (.lst accV')) ∧ (upd H6 Dl (.lst accV')) Dl = some (.lst accV) ∧
                  ConL K (Un (LcB B1 Dl (upd H6 Dl (.lst accV')) accD accV) (upd H6 Dl (.lst accV')) (L2.wipe σ vs) en2) (upd H6 Dl (.lst accV')) Dl accD accV ∧ (∀ a, RcL (upd H6 Dl (.lst accV')) accD accV a → H1 a = none ∨ OwnF H1 (L2.wipe σ vs) (wipeE vs en1) a) ∧ lcNL g tt te vs (ds.drop (i + 1)) accD en2 = .ok acc0 en9 := by
              intro en6 H6 accV' accD' hD6 G6 st6 ra6 nDl nw6 el6
              have hp6 : ∀ v ∈ vs, ∀ d, en6[v]? ≠ some (.o true d) := fun v hv d z => by
                obtain ⟨d', z'⟩ := (st2.trans st6).pb v d z
                rcases wipeE_get z' with q | ⟨n, _⟩
                · cases q
                · exact n hv
              have kr : ∀ a o, RcL H6 accD' accV' a → H6 a = some o → upd H6 Dl (.lst accV') a = some o := fun a o r x => by rw [upd_ne (nDl a r)]; exact x
              have rl := ConL.rcl ra6 kr
              have eB : LcB B1 Dl (upd H6 Dl (.lst accV')) accD' accV' = LcB B1 Dl H6 accD' accV' := by
                funext a
                unfold LcB
                rw [rl a]
              have gw := ((G6.side (p := Dl) (o := .lst accV') (.inl (.inr rfl))).wipe (vs := vs))
              rw [wst] at gw
              have gw0 := G6.wipe (vs := vs)
              rw [wst] at gw0
              have sw6 : Stp σ4 en6 H6 (L2.wipe σ4 vs) (wipeE vs en6) H6 := Stp.wipe hp6
              rw [wst] at sw6
              refine ⟨k - 1, by omega, by omega, wipeE vs en6, accD', accV', by rw [eB]; exact gw, (((st2.trans st6).trans sw6)).updNew hD gw0 (fun z => gw0.ownNB z (.inl (.inr rfl))), upd_same, ?_, fun a z => nw6 a ((rl a).mp z), el6⟩
              rw [eB]
              refine ConL.to (fun a o x n => ⟨?_, fun z => n ?_⟩) ra6 kr
              · rw [upd_ne (fun z => n (by rw [z]; exact .inl (.inl (.inr rfl))))]
                exact x
              · rcases z with z | z
                · exact .inl z
                · rw [← wst] at z
                  exact .inr ((G6.ownIff (fun a o r x => by rw [upd_ne (fun z => G6.ownNB r (by rw [z]; exact .inl (.inr rfl)))]; exact x) a).mp (own_wipe z))
            -- what was there is there
            have carry : ∀ {en6 : En} {H6 : Hp}, Good K (LcB B1 Dl H2 accD accV) H6 σ4 en6 → Stp (L2.wipe σ vs) en2 H2 σ4 en6 H6 → H6 Dl = some (.lst accV) ∧ (∀ a, RcL H6 accD accV a ↔ RcL H2 accD accV a) ∧ ConL K (Un (LcB B1 Dl H2 accD accV) H6 σ4 en6) H6 Dl accD accV := by
              intro en6 H6 G6 st6
              have kk : ∀ a o, RcL H2 accD accV a → H2 a = some o → H6 a = some o := fun a o r x => st6.fr a o x (nOwn2 a (.inr r))
              exact ⟨st6.fr Dl _ hD2 (nOwn2 Dl (.inl (.inr rfl))), ConL.rcl ra kk, ConL.to (stepTo st6 (Bx.refl _ _ en2 H2)) ra kk⟩
            have accNe : ∀ a, RcL H2 accD accV a → a ≠ Dl := by
              have go : ∀ {fs : List D} {ws : List V} {U : Addr → Prop}, ConL K U H2 Dl fs ws → ∀ a, RcL H2 fs ws a → a ≠ Dl := fun {fs} => by
                induction fs with
                | nil => intro ws U _ a r; unfold RcL at r; exact r.elim
                | cons x fs ih =>
                  intro ws U h a r
                  unfold ConL at h
                  obtain ⟨v, us, rfl, h1, h2, h3⟩ := h
                  unfold RcL at r
                  obtain ⟨v', us', e, r⟩ := r
                  cases e
                  rcases r with r | r
                  · exact (h3 a r).1
                  · exact ih h2 a r
              exact go ra
            refine RdT.bind (B := LcB B1 Dl H2 accD accV) G4 ?_
            cases e5 : tt en3 with
            | exc y en5 => rw [e5] at el; cases el
            | bad => rw [e5] at el; cases el
            | ok b en5 =>
              rw [e5] at el
              intro H5 B5 b5 G5 st5
              have G5' := G5.mono b5.up
              cases b with
              | false =>
                rw [if_neg Bool.false_ne_true]
                obtain ⟨hD5, rl5, ra5⟩ := carry G5' (stA.trans st5)
                have eB : LcB B1 Dl H5 accD accV = LcB B1 Dl H2 accD accV := by
                  funext a
                  unfold LcB
                  rw [rl5 a]
                obtain ⟨m', q1, q2, en', aD, aV, q3⟩ := next hD5 (by rw [eB]; exact G5') (stA.trans st5) (by rw [eB]; exact ra5) (fun a z => accNe a ((rl5 a).mp z)) (fun a z => nw a ((rl5 a).mp z)) el
                have eH : upd H5 Dl (.lst accV) = H5 := by
                  funext a
                  unfold upd
                  split
                  · rename_i z; rw [z, hD5]
                  · rfl
                rw [eH] at q3
                exact ⟨m', q1, q2, en', aD, aV, q3⟩
              | true =>
                rw [if_pos rfl]
                dsimp only at el
                refine ⟨LcB B1 Dl H2 accD accV, en5, G5', ?_⟩
                cases e6 : te en5 with
                | exc y en6 => rw [e6] at el; cases el
                | bad => rw [e6] at el; cases el
                | ok r en6 =>
                  rw [e6] at el
                  dsimp only at el ⊢
                  intro v H6 ⟨B6, b6, G6, r6, n6⟩ st6
                  cases e7 : ownD r with
                  | none => rw [e7] at el; cases el
                  | some y =>
                    rw [e7] at el
                    dsimp only at el
                    cases e8 : decide (accD.length < 1000000) with
                    | false => rw [e8] at el; cases el
                    | true =>
                      rw [e8] at el
                      dsimp only at el
                      have stT := (stA.trans st5).trans st6
                      obtain ⟨hD6, rl6, ra6⟩ := carry (G6.mono b6.up) stT
                      refine ⟨accV, hD6, by
                        rw [conL_len ra]
                        exact Nat.lt_of_lt_of_le (of_decide_eq_true e8) (by decide), ?_⟩
                      -- the new one
                      have hy : ConV K (Un B6 H6 σ4 en6) H6 y v ∧ (∀ a, RcV H6 y v a → B6 a) ∧ (∀ a, RcV H6 y v a → H5 a = none ∨ OwnF H5 σ4 en5 a) := by
                        cases r with
                        | sl _ => cases e7
                        | sh d =>
                          unfold ownD at e7
                          dsimp only at e7
                          cases ef : d.flatO with
                          | false => rw [ef] at e7; cases e7
                          | true =>
                            rw [ef] at e7
                            cases e7
                            exact ⟨(conV_rep (flat_ow ef)).mpr r6, fun a z => (rcV_flat ef z).elim, fun a z => (rcV_flat ef z).elim⟩
                        | fr d =>
                          cases e7
                          obtain ⟨q, rfl, bq, cq⟩ := r6
                          have rv : ∀ a, RcV H6 (.ow d) (.ref q) a → Rch H6 d q a := fun a r => by
                            unfold RcV at r
                            obtain ⟨q', e, r⟩ := r
                            cases e
                            exact r
                          exact ⟨by unfold ConV; exact ⟨q, rfl, con_iff.mpr cq⟩, fun a z => bq a (rv a z), fun a z => n6 q a rfl (rv a z)⟩
                      obtain ⟨hy1, hy2, hy3⟩ := hy
                      have yNB : ∀ a, RcV H6 y v a → ¬ LcB B1 Dl H2 accD accV a := fun a z w => by
                        rcases hy3 a z with u | u
                        · exact G5'.all a w u
                        · exact G5'.ownNB u.own w
                      obtain ⟨cs, rs⟩ := ConL.snoc (U := Un B6 H6 σ4 en6) (p := Dl) (ConL.to (fun a o x n => ⟨x, fun z => n z⟩) (ConL.to (U := Un (LcB B1 Dl H2 accD accV) H2 (L2.wipe σ vs) en2) (U' := Un B6 H6 σ4 en6) (stepTo stT (by
                        refine ⟨b6.up, fun a z => ?_⟩
                        rcases b6.new a z with w | w | w
                        · exact .inl w
                        · exact .inr (.inl (Classical.byContradiction fun q => (stA.trans st5).al a q w))
                        · rcases (stA.trans st5).ow a w with w | w
                          · exact .inr (.inr w)
                          · exact .inr (.inl w))) ra (fun a o r x => stT.fr a o x (nOwn2 a (.inr r)))) (fun _ _ _ x => x)) hy1 (fun a z => ⟨fun w => yNB a z (.inl (.inr w)), fun w => yNB a z (.inr ((rl6 a).mp w))⟩)
                      have subB : ∀ a, LcB B1 Dl H6 (accD ++ [y]) (accV ++ [v]) a → B6 a := fun a z => by
                        rcases z with z | z
                        · exact b6.up a (.inl z)
                        · rcases (rs a).mp z with z | z
                          · exact b6.up a (.inr ((rl6 a).mp z))
                          · exact hy2 a z
                      refine next hD6 (G6.mono subB) stT (ConL.to (fun a o x n => ⟨x, fun z => n (Un.mono subB z)⟩) cs (fun _ _ _ x => x)) (fun a z => ?_) (fun a z => ?_) el
                      · rcases (rs a).mp z with z | z
                        · exact accNe a ((rl6 a).mp z)
                        · exact fun w => yNB a z (.inl (.inr w))
                      · rcases (rs a).mp z with z | z
                        · exact nw a ((rl6 a).mp z)
                        · rcases hy3 a z with u | u
                          · exact .inl (Classical.byContradiction fun q => ((st2.trans stA).trans st5).al a q u)
                          · exact (((st2.trans stA).trans st5).of a u).symm
        · have e0 : i = ds.length := by omega
          refine .inl ⟨by rw [e0]; exact wk.stop H2 kp, ?_⟩
          rw [List.drop_eq_nil_of_le (by omega)] at el
          unfold lcNL at el
          cases el
          obtain ⟨g9, s9⟩ := Good.behind G1 hpin G2 bD st2
          have hD0 : H Dl = none := Classical.byContradiction fun z => st1.al Dl z hD
          have rc : ∀ a, Rch H2 (.ow (.lst acc0)) Dl a → a = Dl ∨ RcL H2 acc0 accV a := fun a r => by
            rw [rch_ow] at r
            refine r.imp id fun r => ?_
            unfold RcN at r
            obtain ⟨us, e, r⟩ := r
            rw [hD2] at e
            cases e
            exact r
          refine m (.ref Dl) H2 ⟨_, b1.trans st1 bD, g9, ⟨Dl, rfl, fun a r => ?_, ?_⟩, fun p' a eq r => ?_⟩ (st1.trans s9)
          · rcases rc a r with z | z
            · exact .inl (.inr z)
            · exact .inr z
          · show ConN K _ _ (.lst acc0) Dl
            unfold ConN
            exact ⟨accV, hD2, ConL.to (fun a o x n => ⟨x, fun z => n (z.imp id own_res)⟩) ra (fun _ _ _ x => x)⟩
          · cases eq
            rcases rc a r with z | z
            · rw [z]; exact .inl hD0
            · rcases nw a z with y | y
              · exact .inl (Classical.byContradiction fun q => st1.al a q y)
              · rcases y with ⟨j, d, p, e, s, r⟩
                rcases wipeE_get e with q | ⟨n, q⟩
                · cases q
                · rw [wipe_out n] at s
                  exact (st1.of a ⟨j, d, p, q, s, r⟩).symm
end
section
variable {X : Cx} {W : WX} {elt tg iter c : Expr} {ifs : List Expr} {scope : Scope} {own : List (Str × Nat)} {pos spos : Pos} {it : M (List D)} {g : D → M Unit} {gt : TG} {is : List Nat} {tt : M Bool} {te : M R}
theorem e_lcN (hg : TgW X.K g gt is) (hc : X.calm = true) (hN : X.N.Nodup) (hi : PI X tg iter (RdI X.K W it)) (ok : BlkOk X.N X.env.scope scope own)
    (hgt : ∀ (s : Shared) (H : Hp) (C : Addr) (cl : List (Str × Addr)) (fp : List Addr), PG (X.blk s H scope (compEnvC scope cl C X.env) fp) tg gt) (ht : ∀ (s : Shared) (H : Hp) (C : Addr) (cl : List (Str × Addr)) (fp : List Addr), PTs (X.blk s H scope (compEnvC scope cl C X.env) fp) ifs (RdT X.K W0 tt))
    (he : ∀ (s : Shared) (H : Hp) (C : Addr) (cl : List (Str × Addr)) (fp : List Addr), PE (X.blk s H scope (compEnvC scope cl C X.env) fp) elt (RdE X.K W0 te)) (his : ∀ i ∈ is, i ∈ own.map (·.2) := by decide) (hs : ∀ x, foldedSetIterable iter X.env x = pure x := by intro _; rfl) :
    PE X (.ListComp elt [⟨tg, iter, ifs, 0⟩] scope pos) (RdE X.K W (lcNF it g tt te (own.map (·.2)))) := pe_imp (pe_lc hc hN hi ok hgt ht he hs) fun σ H Q m => lcNImp hg his m
variable {i : Nat} {y : Str} {py : Pos}
end
end PyD

namespace PyD
open PySem PySem.Spec L2 PyProof.Rows
noncomputable def rdC (i : Nat) (sm : M Sel) (fi : M R) : M R := fun en => match sm en with
  | .ok s en1 => (match en1[i]? with
    | some (.o b (.ow d)) => (match chD d s with
      | some c => (match fi (en1.set i .e) with
        | .ok ri en2 => (match rsl en2 ri with
          | some di => (match ixUD [c, di] with
            | some (false, x) => .ok (.sh x) (en2.set i (.o b (.ow d)))
            | _ => .bad)
          | none => .bad)
        | .exc x en2 => .exc x (en2.set i (.o b (.ow d)))
        | .bad => .bad)
      | none => .bad)
    | _ => .bad)
  | .exc x en1 => .exc x en1
  | .bad => .bad
section
variable {K : PySem.W.Frag} {W : WX} {B B' B1 B2 : Addr → Prop} {U U' : Addr → Prop} {H H' H1 H2 H3 : Hp} {σ σ' σ1 : L2.St} {en en' en1 en2 : En} {d d0 d1 c c' : D} {v : V} {i j : Nat} {p q : Addr} {b : Bool} {s : Sel} {Q : VK} {fs : M (List R)} {sm : M Sel} {D0 : Ends}
end
noncomputable def orW (f g : M R) : M R := fun en => match f en with
  | .ok r en1 => (match rsl en1 r with
    | some d => (match truD d with
      | some true => .ok r en1
      | some false => g en1
      | none => .bad)
    | none => .bad)
  | .exc x en1 => .exc x en1
  | .bad => .bad
section
variable {K : PySem.W.Frag} {W : WX} {H : Hp} {σ : L2.St} {Q : VK}
end
section
variable {X : Cx} {K : PySem.W.Frag} {U : Addr → Prop} {H : Hp}
end
end PyD

namespace PyD
open PySem PySem.Spec L2
noncomputable def owK (k : Bool → D → Prop) (o : Option Sl) (_ : Tg k := ⟨⟩) : Prop := match o with
  | some (.o b (.ow d)) => k b d
  | _ => False
theorem owK_o {k : Bool → D → Prop} {b : Bool} {d : D} : owK k (some (.o b (.ow d))) = k b d := rfl
noncomputable def olK (k : List D → Prop) (o : Option Sl) (_ : Tg k := ⟨⟩) : Prop := match o with
  | some (.o _ (.ow (.lst ds))) => k ds
  | _ => False
theorem olK_o {k : List D → Prop} {b : Bool} {ds : List D} : olK k (some (.o b (.ow (.lst ds)))) = k ds := rfl
noncomputable def ooK (n : ON) (k : Bool → List (Str × D) → Prop) (o : Option Sl) (_ : Tg k := ⟨⟩) : Prop := match o with
  | some (.o b (.ow (.obj m fs))) => m = n ∧ k b fs
  | _ => False
theorem ooK_o {n : ON} {k : Bool → List (Str × D) → Prop} {b : Bool} {fs : List (Str × D)} : ooK n k (some (.o b (.ow (.obj n fs)))) = k b fs := by
  show (n = n ∧ k b fs) = _
  simp
noncomputable def inK (k : Int → Prop) (d : D) (_ : Tg k := ⟨⟩) : Prop := match d with
  | .int i => k i
  | _ => False
theorem inK_i {k : Int → Prop} {i : Int} : inK k (.int i) = k i := rfl
noncomputable def unK (i : Nat) (b : Bool) (d : D) (s : Sel) (pre : En) (k : En → Prop) (o : Option Sl) (_ : Tg k := ⟨⟩) : Prop := match o with
  | some (.o b' c') => b' = b ∧ k (pre.set i (.o b (.ow (putC d s (.ow c')))))
  | _ => False
theorem unK_o {i : Nat} {b : Bool} {d : D} {s : Sel} {pre : En} {k : En → Prop} {c : D} : unK i b d s pre k (some (.o b c)) = k (pre.set i (.o b (.ow (putC d s (.ow c))))) := by
  show (b = b ∧ _) = _
  simp
theorem unC_K {n i : Nat} {b : Bool} {d : D} {s : Sel} {en : En} {k : En → Prop} : (match unC n i b d s en with | some en4 => k en4 | none => False) = unK i b d s (en.take n) k en[n]? := by
  unfold unC unK
  cases en[n]? with
  | none => rfl
  | some sl =>
    cases sl with
    | e => rfl
    | v _ => rfl
    | o b' c' =>
      dsimp only
      by_cases h : b' = b
      · rw [if_pos h]; simp [h]
      · rw [if_neg h]; simp [h]
section
variable {en : En} {k : R → En → Prop} {x : Ex → En → Prop} {ks : Fl → Prop} {i j : Nat} {sm : M Sel} {io : List Bool} {φ : List D → Out} {fs : M (List R)}
noncomputable def rcK (io : List Bool) (φ : List D → Out) (rs : List R) (en : En) (k : R → En → Prop) (x : Ex → En → Prop) (_ : Tg (k, x) := ⟨⟩) : Prop :=
  okL (rsls en rs) fun ds => (lentOk io rs && nodupB (slotsOf rs)) = true ∧ okO (φ ds) fun o => callK io rs en k x o
theorem rcK_eq {rs : List R} : rcK io φ rs en k x = okL (rsls en rs) fun ds => (lentOk io rs && nodupB (slotsOf rs)) = true ∧ okO (φ ds) fun o => callK io rs en k x o := rfl
theorem callR_K {rs : List R} : (match callR io φ rs en with | .ok r en3 => k r en3 | .exc e en3 => x e en3 | .bad => False) = rcK io φ rs en k x := by
  unfold callR rcK
  cases rsls en rs with
  | none => rfl
  | some ds =>
    dsimp only [okL]
    cases h : (lentOk io rs && nodupB (slotsOf rs)) with
    | false => simp
    | true =>
      simp only [true_and, okO]
      cases φ ds with
      | bad => rfl
      | ret b d outs =>
        dsimp only [callK]
        cases h2 : (!(borrows io rs) || (!(io.elem true) && resFlat b d)) with
        | false => simp
        | true => simp
      | exc e outs =>
        dsimp only [callK]
        cases h2 : (!(borrows io rs) || (!(io.elem true) && excFlat e)) with
        | false => simp
        | true => simp
theorem ok_callCS {chk : D → Bool} {js : List Nat} : okE (callCS io φ chk js i sm fs) en k x = okE sm en (fun s en1 => owK (fun b d => okL (chD d s) fun c => chk c = true ∧
    okE fs (en1.set i .e) (fun rs en2 => rcK io φ (js.map .sl ++ .sl en1.length :: rs) (en2.set i .e ++ [.o b c]) (fun r en3 => unK i b d s (en3.take en1.length) (fun en4 => k r en4) en3[en1.length]?) (fun e en3 => unK i b d s (en3.take en1.length) (fun en4 => x e en4) en3[en1.length]?))
      (fun e en2 => x e (en2.set i (.o b (.ow d))))) en1[i]?) x := by
  unfold okE callCS
  cases sm en with
  | bad => rfl
  | exc e en1 => rfl
  | ok s en1 =>
    dsimp only
    unfold callCR owK
    cases en1[i]? with
    | none => rfl
    | some sl =>
      cases sl with
      | e => rfl
      | v _ => rfl
      | o b d0 =>
        cases d0 with
        | ow d =>
          dsimp only
          unfold okL
          cases chD d s with
          | none => rfl
          | some c =>
            dsimp only
            cases hc : chk c with
            | false => simp
            | true =>
              simp only [true_and]
              cases fs (en1.set i .e) with
              | bad => rfl
              | exc e en2 => rfl
              | ok rs en2 =>
                dsimp only
                rw [← callR_K]
                cases callR io φ (js.map .sl ++ .sl en1.length :: rs) (en2.set i .e ++ [.o b c]) with
                | bad => rfl
                | ok r en3 =>
                  dsimp only
                  rw [← unC_K]
                  cases unC en1.length i b d s en3 <;> rfl
                | exc e en3 =>
                  dsimp only
                  rw [← unC_K]
                  cases unC en1.length i b d s en3 <;> rfl
        | _ => rfl
theorem ok_callC1 : okE (callC1 io φ j i sm fs) en k x = ownK (fun _ _ => okE (callCS io φ (fun _ => true) [j] i sm fs) en k x) en[j]? := by
  unfold ownK
  unfold okE callC1
  cases en[j]? with
  | none => rfl
  | some s => cases s <;> rfl
theorem ok_selI {f : M R} {k : Sel → En → Prop} : okE (selI i f) en k x = owK (fun _ _ => okE f en (fun r en1 => okL (rsl en1 r) fun di => inK (fun j => olK (fun ds => okL (ixN ds.length j) fun n => okL (chD (.lst ds) (.ix n)) fun _ => k (.ix n) en1) en1[i]?) di) x) en[i]? := by
  unfold owK
  unfold okE selI
  cases en[i]? with
  | none => rfl
  | some s =>
    cases s with
    | e => rfl
    | v _ => rfl
    | o b d0 =>
      cases d0 with
      | ow d =>
        dsimp only
        cases f en with
        | bad => rfl
        | exc e en1 => rfl
        | ok r en1 =>
          dsimp only
          unfold okL
          cases rsl en1 r with
          | none => rfl
          | some di =>
            dsimp only
            unfold inK
            cases di with
            | int j =>
              dsimp only
              unfold olK
              cases en1[i]? with
              | none => rfl
              | some s =>
                cases s with
                | e => rfl
                | v _ => rfl
                | o b d0 =>
                  cases d0 with
                  | ow d =>
                    cases d with
                    | lst ds =>
                      dsimp only
                      cases ixN ds.length j with
                      | none => rfl
                      | some n =>
                        dsimp only
                        cases chD (.lst ds) (.ix n) <;> rfl
                    | _ => rfl
                  | _ => rfl
            | _ => rfl
      | _ => rfl
theorem ok_selF {n : ON} {f : Str} {k : Sel → En → Prop} : okE (selF i n f) en k x = ooK n (fun _ fs => okL (chD (.obj n fs) (.fd f)) fun _ => k (.fd f) en) en[i]? := by
  unfold ooK
  unfold okE selF
  cases en[i]? with
  | none => rfl
  | some s =>
    cases s with
    | e => rfl
    | v _ => rfl
    | o b d0 =>
      cases d0 with
      | ow d =>
        cases d with
        | obj m fs =>
          dsimp only
          by_cases h : m = n
          · subst h
            rw [if_pos rfl]
            unfold okL
            cases chD (.obj m fs) (.fd f) <;> simp
          · rw [if_neg h]; simp [h]
        | _ => rfl
      | _ => rfl
theorem ok_mutC {isT : D → Bool} {g : D → List D → Option (D × D)} : okE (mutC i sm isT g fs) en k x = okE sm en (fun s en1 => owK (fun b d => okL (chD d s) fun c => isT c = true ∧
    okE fs (en1.set i .e) (fun rs en2 => okL (stos rs) fun ds => okL (g c ds) fun cr => k (.sh cr.2) (en2.set i (.o b (.ow (putC d s (.ow cr.1)))))) (fun e en2 => x e (en2.set i (.o b (.ow d))))) en1[i]?) x := by
  unfold okE mutC
  cases sm en with
  | bad => rfl
  | exc e en1 => rfl
  | ok s en1 =>
    dsimp only
    unfold owK
    cases en1[i]? with
    | none => rfl
    | some sl =>
      cases sl with
      | e => rfl
      | v _ => rfl
      | o b d0 =>
        cases d0 with
        | ow d =>
          dsimp only
          unfold okL
          cases chD d s with
          | none => rfl
          | some c =>
            dsimp only
            cases hc : isT c with
            | false => simp
            | true =>
              simp only [true_and]
              cases fs (en1.set i .e) with
              | bad => rfl
              | exc e en2 => rfl
              | ok rs en2 =>
                dsimp only
                cases stos rs with
                | none => rfl
                | some ds =>
                  dsimp only
                  cases g c ds <;> rfl
        | _ => rfl
theorem os_stC {fi fv : M R} {u : D → D → D → Option D} : okS (stC i sm fi fv u) en ks = okE fv en (fun r en0 => okL (stoD r) fun y => okE sm en0 (fun s en1 => owK (fun b d => okL (chD d s) fun c =>
    okE fi (en1.set i .e) (fun ri en2 => okL (rsl en2 ri) fun di => okL (u c di y) fun c' => ks (.nx (en2.set i (.o b (.ow (putC d s (.ow c'))))))) (fun e en2 => ks (.exc e (en2.set i (.o b (.ow d)))))) en1[i]?) fun e en => ks (.exc e en)) fun e en => ks (.exc e en) := by
  unfold okE okS stC
  cases fv en with
  | bad => rfl
  | exc e en1 => rfl
  | ok r en0 =>
    dsimp only
    unfold okL
    cases stoD r with
    | none => rfl
    | some y =>
      dsimp only
      cases sm en0 with
      | bad => rfl
      | exc e en1 => rfl
      | ok s en1 =>
        dsimp only
        unfold owK
        cases en1[i]? with
        | none => rfl
        | some sl =>
          cases sl with
          | e => rfl
          | v _ => rfl
          | o b d0 =>
            cases d0 with
            | ow d =>
              dsimp only
              cases chD d s with
              | none => rfl
              | some c =>
                dsimp only
                cases fi (en1.set i .e) with
                | bad => rfl
                | exc e en2 => rfl
                | ok ri en2 =>
                  dsimp only
                  cases rsl en2 ri with
                  | none => rfl
                  | some di =>
                    dsimp only
                    cases u c di y <;> rfl
            | _ => rfl
theorem ok_dmC : okE (dmC i sm) en k x = okE sm en (fun s en1 => owK (fun b d => okL (chD d s) fun c => c.flatO = true ∧ k (.sh c) (en1.set i (.o b (.ow (putC d s c))))) en1[i]?) x := by
  unfold okE dmC
  cases sm en with
  | bad => rfl
  | exc e en1 => rfl
  | ok s en1 =>
    dsimp only
    unfold owK
    cases en1[i]? with
    | none => rfl
    | some sl =>
      cases sl with
      | e => rfl
      | v _ => rfl
      | o b d0 =>
        cases d0 with
        | ow d =>
          dsimp only
          unfold okL
          cases chD d s with
          | none => rfl
          | some c =>
            dsimp only
            cases hc : c.flatO <;> simp
        | _ => rfl
noncomputable def deK (i : Nat) (en : En) (k : R → En → Prop) (o : Option Sl) (_ : Tg k := ⟨⟩) : Prop := match o with
  | some (.v d) => k (.sh d) en
  | some (.o false d) => k (.sh (er1 d)) (en.set i (.v (er1 d)))
  | _ => False
theorem deK_v {d : D} : deK i en k (some (.v d)) = k (.sh d) en := rfl
theorem deK_o {d : D} : deK i en k (some (.o false d)) = k (.sh (er1 d)) (en.set i (.v (er1 d))) := rfl
theorem ok_dmE : okE (dmE i) en k x = deK i en k en[i]? := by
  unfold okE dmE deK
  cases en[i]? with
  | none => rfl
  | some s =>
    cases s with
    | e => rfl
    | v _ => rfl
    | o b d => cases b <;> rfl
theorem ok_rdC {fi : M R} : okE (rdC i sm fi) en k x = okE sm en (fun s en1 => owK (fun b d => okL (chD d s) fun c => okE fi (en1.set i .e) (fun ri en2 => okL (rsl en2 ri) fun di => okL (ixUD [c, di]) fun bx => bx.1 = false ∧ k (.sh bx.2) (en2.set i (.o b (.ow d)))) (fun e en2 => x e (en2.set i (.o b (.ow d))))) en1[i]?) x := by
  unfold okE rdC
  cases sm en with
  | bad => rfl
  | exc e en1 => rfl
  | ok s en1 =>
    dsimp only
    unfold owK
    cases en1[i]? with
    | none => rfl
    | some sl =>
      cases sl with
      | e => rfl
      | v _ => rfl
      | o b d0 =>
        cases d0 with
        | ow d =>
          dsimp only
          unfold okL
          cases chD d s with
          | none => rfl
          | some c =>
            dsimp only
            cases fi (en1.set i .e) with
            | bad => rfl
            | exc e en2 => rfl
            | ok ri en2 =>
              dsimp only
              cases rsl en2 ri with
              | none => rfl
              | some di =>
                dsimp only
                cases ixUD [c, di] with
                | none => rfl
                | some bx =>
                  obtain ⟨fb, y⟩ := bx
                  cases fb <;> simp
        | _ => rfl
theorem ok_fldR {n : ON} {f : Str} : okE (fldR n f i) en k x = ooK n (fun _ fs => okL (fs.lookup f) fun d => d.flatO = true ∧ k (.sh d) en) en[i]? := by
  unfold ooK
  unfold okE fldR
  cases en[i]? with
  | none => rfl
  | some s =>
    cases s with
    | e => rfl
    | v _ => rfl
    | o b d0 =>
      cases d0 with
      | ow d =>
        cases d with
        | obj m fs =>
          dsimp only
          by_cases h : m = n
          · rw [if_pos h]
            unfold okL
            cases fs.lookup f with
            | none => simp
            | some d => cases hd : d.flatO <;> simp [h, hd]
          · rw [if_neg h]; simp [h]
        | _ => rfl
      | _ => rfl
noncomputable def fnK (i : Nat) (n : ON) (f : Str) (b : Bool) (fs : List (Str × D)) (en : En) (k : Fl → Prop) (r : R) (_ : Tg k := ⟨⟩) : Prop := match r with
  | .sh d => d.flatO = true ∧ k (.nx (en.set i (.o b (.ow (.obj n (putFD f d fs))))))
  | .fr d => k (.nx (en.set i (.o b (.ow (.obj n (putFD f (.ow d) fs))))))
  | .sl _ => False
theorem fnK_sh {n : ON} {f : Str} {b : Bool} {fs : List (Str × D)} {d : D} : fnK i n f b fs en ks (.sh d) = (d.flatO = true ∧ ks (.nx (en.set i (.o b (.ow (.obj n (putFD f d fs))))))) := rfl
theorem fnK_fr {n : ON} {f : Str} {b : Bool} {fs : List (Str × D)} {d : D} : fnK i n f b fs en ks (.fr d) = ks (.nx (en.set i (.o b (.ow (.obj n (putFD f (.ow d) fs)))))) := rfl
theorem os_fldN {n : ON} {f : Str} {fv : M R} : okS (fldN i n f fv) en ks = okE fv en (fun r en1 => ooK n (fun b fs => fs.length < 1000 ∧ fnK i n f b fs en1 ks r) en1[i]?) fun e en => ks (.exc e en) := by
  unfold okE okS fldN
  cases fv en with
  | bad => rfl
  | exc e en1 => rfl
  | ok r en1 =>
    dsimp only
    unfold ooK
    cases en1[i]? with
    | none => rfl
    | some s =>
      cases s with
      | e => rfl
      | v _ => rfl
      | o b d0 =>
        cases d0 with
        | ow d =>
          cases d with
          | obj m fs =>
            dsimp only
            by_cases h : m = n ∧ fs.length < 1000
            · rw [if_pos h]
              obtain ⟨h1, h2⟩ := h
              subst h1
              unfold fnK
              cases r with
              | sl _ => simp
              | sh d => cases hd : d.flatO <;> simp [h2, hd]
              | fr d => simp [h2]
            · rw [if_neg h]
              by_cases h1 : m = n
              · have : ¬ fs.length < 1000 := fun z => h ⟨h1, z⟩
                simp [this]
              · simp [h1]
          | _ => rfl
        | _ => rfl
noncomputable def isK (neg : Bool) (k : D → Prop) (d : D) (_ : Tg k := ⟨⟩) : Prop := match d with
  | .ow _ => k (.bl neg)
  | .non => k (.bl (!neg))
  | _ => False
theorem isK_ow {neg : Bool} {k : D → Prop} {d : D} : isK neg k (.ow d) = k (.bl neg) := rfl
theorem isK_non {neg : Bool} {k : D → Prop} : isK neg k .non = k (.bl (!neg)) := rfl
theorem ok_isnC {neg : Bool} {n : ON} {f : Str} : okE (isnC neg n f i) en k x = ooK n (fun _ fs => okL (fs.lookup f) fun d => isK neg (fun y => k (.sh y) en) d) en[i]? := by
  unfold ooK
  unfold okE isnC
  cases en[i]? with
  | none => rfl
  | some s =>
    cases s with
    | e => rfl
    | v _ => rfl
    | o b d0 =>
      cases d0 with
      | ow d =>
        cases d with
        | obj m fs =>
          dsimp only
          by_cases h : m = n
          · rw [if_pos h]
            unfold okL
            cases fs.lookup f with
            | none => simp
            | some d => cases d <;> simp [h, isK]
          · rw [if_neg h]; simp [h]
        | _ => rfl
      | _ => rfl
noncomputable def mkNK (en : En) (k : R → En → Prop) (o : Out) (_ : Tg k := ⟨⟩) : Prop := match o with
  | .ret _ .non [.obj k1 fs] => fs.all (fun p => p.2.flatO) = true ∧ k (.fr (.ow (.obj k1 fs))) en
  | _ => False
theorem mkNK_obj {b : Bool} {n : ON} {fs : List (Str × D)} : mkNK en k (.ret b .non [.obj n fs]) = (fs.all (fun p => p.2.flatO) = true ∧ k (.fr (.ow (.obj n fs))) en) := rfl
theorem ok_mkN {n : ON} : okE (mkN n φ) en k x = okO (φ [.obj n []]) fun o => mkNK en k o := by
  unfold okE mkN okO mkNK
  cases φ [.obj n []] with
  | bad => rfl
  | exc y outs => rfl
  | ret b d outs =>
    cases d with
    | non =>
      cases outs with
      | nil => rfl
      | cons o r =>
        cases r with
        | nil =>
          cases o with
          | obj m fs =>
            dsimp only
            cases h : fs.all (fun p => p.2.flatO) <;> simp
          | _ => rfl
        | cons _ _ => cases o <;> rfl
    | _ => rfl
theorem ok_lstN : okE (lstN fs) en k x = okE fs en (fun rs en1 => okL (owns rs) fun ds => ds.length ≤ 1000 ∧ k (.fr (.ow (.lst ds))) en1) x := by
  unfold okE lstN
  cases fs en with
  | bad => rfl
  | exc e en1 => rfl
  | ok rs en1 =>
    dsimp only
    unfold okL
    cases owns rs with
    | none => rfl
    | some ds =>
      dsimp only
      by_cases h : ds.length ≤ 1000
      · simp [h]
      · simp [h]
theorem owns_nil : owns [] = some [] := rfl
theorem owns_fr {d : D} {rs : List R} : owns (.fr d :: rs) = (owns rs).map fun ds => .ow d :: ds := rfl
theorem ok_orW {f g : M R} : okE (orW f g) en k x = okE f en (fun r en1 => okL (rsl en1 r) fun d => okL (truD d) fun b => bi b (k r en1) (okE g en1 k x)) x := by
  unfold okE orW
  cases f en with
  | bad => rfl
  | exc e en1 => rfl
  | ok r en1 =>
    dsimp only
    unfold okL
    cases rsl en1 r with
    | none => rfl
    | some d =>
      dsimp only
      cases truD d with
      | none => rfl
      | some b => cases b <;> simp [bi]
theorem ok_lcN {it : M (List D)} {g : D → M Unit} {tt : M Bool} {te : M R} {vs : List Nat} : okE (lcNF it g tt te vs) en k x = okE it en (fun ds en1 => vs.all (freeAt en1) = true ∧
    okE (lcNL g tt te vs ds []) (wipeE vs en1) (fun acc en2 => k (.fr (.ow (.lst acc))) (resE vs en1 en2)) (fun _ _ => False)) x := by
  unfold okE lcNF
  cases it en with
  | bad => rfl
  | exc e en1 => rfl
  | ok ds en1 =>
    dsimp only
    cases h : vs.all (freeAt en1) with
    | false => simp
    | true =>
      simp only [true_and]
      cases lcNL g tt te vs ds [] (wipeE vs en1) <;> rfl
end
theorem ok_lcNY (P : List D → En → Prop) {g : D → M Unit} {te : M R} {vs : List Nat} {x : Ex → En → Prop} {k : List D → En → Prop} {ds : List D} {en : En} (h0 : P [] en) (hn : ds.length ≤ 1000000)
    (hs : ∀ i d, ds[i]? = some d → ∀ acc en, acc.length = i → P acc en → okE (g d) en (fun _ en1 => okE te en1 (fun r en3 => okL (ownD r) fun y => P (acc ++ [y]) (wipeE vs en3)) fun _ _ => False) fun _ _ => False)
    (hd : ∀ acc en, acc.length = ds.length → P acc en → k acc en) : okE (lcNL g yesT te vs ds []) en k x := by
  have go : ∀ (r pre acc : List D) (en : En), P acc en → pre ++ r = ds → acc.length = pre.length → okE (lcNL g yesT te vs r acc) en k x := fun r => by
    induction r with
    | nil =>
      intro pre acc en h e hl
      rw [List.append_nil] at e
      subst e
      exact hd acc en hl h
    | cons d r ih =>
      intro pre acc en h e hl
      have hlen : acc.length < ds.length := by rw [← e, hl]; simp
      have hg : ds[acc.length]? = some d := by rw [← e, hl]; simp
      have h1 := hs _ d hg acc en rfl h
      unfold okE lcNL
      unfold okE at h1
      cases e1 : g d en with
      | bad => rw [e1] at h1; exact h1.elim
      | exc y en1 => rw [e1] at h1; exact h1.elim
      | ok u en1 =>
        rw [e1] at h1
        dsimp only at h1 ⊢
        unfold yesT
        dsimp only
        cases e3 : te en1 with
        | bad => rw [e3] at h1; exact h1.elim
        | exc y en2 => rw [e3] at h1; exact h1.elim
        | ok rr en3 =>
          rw [e3] at h1
          dsimp only at h1 ⊢
          unfold okL at h1
          cases e4 : ownD rr with
          | none => rw [e4] at h1; exact h1.elim
          | some y =>
            rw [e4] at h1
            dsimp only at h1 ⊢
            have hc : decide (acc.length < 1000000) = true := decide_eq_true (by omega)
            rw [hc]
            dsimp only
            have := ih (pre ++ [d]) (acc ++ [y]) (wipeE vs en3) h1 (by rw [← e]; simp) (by simp [hl])
            unfold okE at this
            exact this
  exact go ds [] [] en h0 rfl rfl
theorem ownD_fr {d : D} : ownD (.fr d) = some (.ow d) := rfl
theorem os_endC {en : En} {ks : Fl → Prop} {ms : List Bool} {i : Nat} {sm : M Sel} {fi fv : M R} {u : D → D → D → Option D} : okS (endF ms (stC i sm fi fv u)) en ks = okS (stC i sm fi fv u) en fun o => endK ms ks o := os_end
theorem os_endFN {en : En} {ks : Fl → Prop} {ms : List Bool} {i : Nat} {n : ON} {f : Str} {fv : M R} : okS (endF ms (fldN i n f fv)) en ks = okS (fldN i n f fv) en fun o => endK ms ks o := os_end
theorem sls_0 : ([] : List Nat).map R.sl = [] := rfl
theorem sls_1 {j : Nat} : [j].map R.sl = [.sl j] := rfl
theorem chD_20 {a x : D} : chD (.lst [.ow a, x]) (.ix 0) = some a := rfl
theorem chD_21 {a x : D} : chD (.lst [x, .ow a]) (.ix 1) = some a := rfl
theorem putC_ix {ds : List D} {n : Nat} {c : D} : putC (.lst ds) (.ix n) c = .lst (ds.set n c) := rfl
theorem putC_fd {m : ON} {fs : List (Str × D)} {f : Str} {c : D} : putC (.obj m fs) (.fd f) c = .obj m (putFD f c fs) := rfl
theorem flatO_lst {ds : List D} : (D.lst ds).flatO = true := rfl
theorem flatO_tup {ds : List D} : (D.tup ds).flatO = true := rfl
theorem flatO_dic {ds : List (Key × D)} : (D.dic ds).flatO = true := rfl
theorem flatO_non : D.non.flatO = true := rfl
theorem flatO_str {s : Str} : (D.str s).flatO = true := rfl
theorem flatO_int {s : Int} : (D.int s).flatO = true := rfl
theorem dsk_lg {g p : D} : List.lookup ("growing" : Str) [(("growing" : Str), g), (("places" : Str), p)] = some g := rfl
theorem dsk_lp {g p : D} : List.lookup ("places" : Str) [(("growing" : Str), g), (("places" : Str), p)] = some p := rfl
theorem dsk0 {g : D} : putFD "growing" g [] = [(("growing" : Str), g)] := rfl
theorem dsk1 {g p : D} : putFD "places" p [(("growing" : Str), g)] = [(("growing" : Str), g), (("places" : Str), p)] := rfl
theorem dsk2 {g p t : D} : putFD "growing" t [(("growing" : Str), g), (("places" : Str), p)] = [(("growing" : Str), t), (("places" : Str), p)] := rfl
theorem dsk3 {g p t : D} : putFD "places" t [(("growing" : Str), g), (("places" : Str), p)] = [(("growing" : Str), g), (("places" : Str), t)] := rfl
theorem dsk_ch {g p : D} : chD (.obj .desk [(("growing" : Str), .ow g), (("places" : Str), p)]) (.fd "growing") = some g := rfl
theorem isd_say {g p : D} : isObj .desk "say" (.ow (.obj .desk [(("growing" : Str), g), (("places" : Str), p)])) = true := rfl
theorem isd_pt {g p : D} : isObj .desk "put_text" (.ow (.obj .desk [(("growing" : Str), g), (("places" : Str), p)])) = true := rfl
theorem isd_pp {g p : D} : isObj .desk "put_pins" (.ow (.obj .desk [(("growing" : Str), g), (("places" : Str), p)])) = true := rfl
theorem isd_told {g p : D} : isObj .desk "told" (.ow (.obj .desk [(("growing" : Str), g), (("places" : Str), p)])) = true := rfl
end PyD

namespace PyD
open PySem PySem.Spec L2
noncomputable def atomD : D → Bool
  | .str _ => true
  | .int _ => true
  | .bl _ => true
  | .non => true
  | _ => false
section
variable {K : PySem.W.Frag} {W : WX} {B B' B1 : Addr → Prop} {U U' : Addr → Prop} {H H' H1 H2 : Hp} {σ σ' σ1 : L2.St} {en en' en1 : En} {d : D} {v : V} {i : Nat} {p : Addr} {ds : List D} {Q : VK}
structure WalkA (K : PySem.W.Frag) (U : Addr → Prop) (H0 : Hp) (J : It) (ds : List D) : Prop where
  go : ∀ i H1, Kp U H0 H1 → i < ds.length → J.go i H1
  stop : ∀ H1, Kp U H0 H1 → J.stop ds.length H1
  yld : ∀ i H1 x H2 d, Kp U H0 H1 → ds[i]? = some d → J.yld i H1 x H2 → Ext H1 H2 ∧ ∀ U1 : Addr → Prop, Rep K U1 H2 d x
end
section
variable {X : Cx} {W : WX} {elt tg c : Expr} {ifs : List Expr} {scope : Scope} {own : List (Str × Nat)} {pos spos pn : Pos} {g : D → M Unit} {gt : TG} {is : List Nat} {tt : M Bool} {te : M R} {j : Nat} {x : Str}
variable {i : Nat} {y : Str} {py : Pos}
end
end PyD

section
set_option maxHeartbeats 4000000
namespace PySem
namespace HandSPX
open Builtin Builtin.ObjectAttr
section
variable {P : Program} {w : World} {Z : Around} {R : Result → Shared → Prop} {ho : Heap} {gs : Array GenState} {dr : Drawn} {tk : Nat} {om : OsState}
variable {nm qn : Str} {C N : Addr} {bs bm bmB : List Value} {hdct : Bool} {sn : List Str} {sub : List Value} {ab : Bool} {col : Option Bool} {dd : Option Addr} {k0 k1 k2 k3 k5 : Option Value} {B newId initId : String} {kw : List (Str × Value)}
end
end HandSPX
end PySem
namespace PyD
open PySem PySem.Spec L2 PyProof.Rows
section
variable {X : Cx} {pins : List (Addr × Obj)} {σ : L2.St} {H : Hp} {s : Shared}
theorem Inv.told {a C dx : Addr} {fs : List (Str × V)} (I : Inv X pins σ H s) (ha : H a = some (exo a C (some dx))) (hd : H dx = some (exd dx fs)) (ne : dx ≠ a) : Inv X pins σ (upd (upd H a (exT a (.ref C) (some dx))) dx (.xd fs)) s := by
  have out : ∀ {b : Addr}, b ≠ a → b ≠ dx → upd (upd H a (exT a (.ref C) (some dx))) dx (.xd fs) b = H b := fun {b} n1 n2 => by rw [upd_ne n2, upd_ne n1]
  have outN : ∀ {b : Addr}, H b = none → upd (upd H a (exT a (.ref C) (some dx))) dx (.xd fs) b = none := fun {b} n => by
    rw [out (fun z => by rw [z, ha] at n; cases n) (fun z => by rw [z, hd] at n; cases n)]
    exact n
  have outS : ∀ {b : Addr} {o : HO}, (∀ φ, o ≠ .ext φ) → H b = some o → upd (upd H a (exT a (.ref C) (some dx))) dx (.xd fs) b = some o := fun {b o} ne e => by
    rw [out (fun z => by rw [z, ha] at e; exact ne _ (Option.some.inj e).symm) (fun z => by rw [z, hd] at e; exact ne _ (Option.some.inj e).symm)]
    exact e
  exact {
    ok := I.ok
    os := I.os
    bare := I.bare
    base := {
      keep := I.base.keep
      slot := I.base.slot
      free := fun b o e n x => outN (I.base.free b o e n x)
      there := I.base.there
      tups := fun b xs e => outS (fun φ z => by cases z) (I.base.tups b xs e)
      frzs := fun b o u e => outS (fun φ z => by cases z) (I.base.frzs b o u e)
      tbls := fun b ps e => by
        obtain ⟨m, q⟩ := I.base.tbls b ps e
        exact ⟨m, outS (fun φ z => by cases z) q⟩ }
    loc := I.loc
    cell := I.cell
    free := outN I.free
    freeC := fun x c e => outN (I.freeC x c e)
    pin := fun p hp => by
      obtain ⟨q1, q2, q3⟩ := I.pin p hp
      exact ⟨q1, outN q2, q3⟩
    hok := fun b o e => by
      by_cases h2 : b = dx
      · subst h2
        rw [upd_same] at e
        cases e
        exact exd_at I.hok hd
      · rw [upd_ne h2] at e
        by_cases h1 : b = a
        · subst h1
          rw [upd_same] at e
          cases e
          obtain ⟨t1, q⟩ := exo_at I.hok ha
          exact exT_ok q ⟨rfl, rfl⟩ rfl
        · rw [upd_ne h1] at e
          exact (I.hok b o e).stay (fun _ _ _ q => q) (fun c q => outS (fun φ z => by cases z) q) (fun c xs q => outS (fun φ z => by cases z) q)
    len := I.len }
variable {CX : CXT} {x f : Str} {C fI : Addr} {k : Nat} {fd : FuncData} {ps : List Str} {e : Expr} {es : List Expr} {ta tk : TA} {p pos : Pos} {kws : List Keyword}
end
end PyD
namespace PyD
open PySem PySem.Spec L2 PyProof.Rows
section
variable {X : Cx} {pins : List (Addr × Obj)} {σ : L2.St} {H : Hp} {s : Shared}
end
end PyD
namespace PyD
open PySem PySem.Spec L2 PyProof.Rows
section
variable {X : Cx} {W : WX} {n : XN} {C : Addr} {k : Nat} {x f : Str} {e : Expr} {fa : M R} {p pos kpos : Pos}
end
end PyD

end

namespace PyD
open PySem PySem.Spec L2 PyProof.Rows
section
variable {X : Cx} {W : WX} {a b e : Expr} {es : List Expr} {ta tb te : TE} {t : TA} {pos : Pos} {op : Operator} {r : R2} {fa fb f : M R} {fs : M (List R)} {g : List D → Option (Bool × D)}
end
end PyD

namespace PyD
open PySem PySem.Spec L2
section
variable {K : PySem.W.Frag} {W : WX} {B B' B1 : Addr → Prop} {U U' : Addr → Prop} {H H' H1 : Hp} {σ σ' σ1 : L2.St} {en en' en1 : En} {d : D} {v : V} {i : Nat} {p : Addr} {Q : L2.St → Hp → Prop}
end
section
variable {X : Cx} {W : WX} {i : Nat} {fi : M R} {u : D → D → D → Option D} {t : TSet} {o ix : Expr} {tpos pos : Pos} {k : Nat} {t1 t2 : Expr} {g1 g2 : D → M Unit}
end
end PyD

namespace PyD
open PySem PySem.Spec L2 PyProof.Rows
end PyD

namespace PyD
open PySem PySem.Spec L2 PyProof.Rows
section
variable {prog : Program} {w : World} {A : Around} {E : Value → Shared → Prop} {s : Shared} {z TI TO i1 i2 : Addr} {fp1 fp2 : List Addr} {n1 n2 i : Nat} {P1 P2 : Nat → Value → Prop} {St1 St2 : Nat → Heap → Prop} {a1 a2 : Value}
end
end PyD

namespace PyD
open PySem PySem.Spec L2 PyProof.Rows
structure Sg (X : Cx) (i : Nat) (x : Str) (z : Str) (tk : Tok) (σ : L2.St) (s : Shared) : Prop where
  kind : X.env.scope.names.lookup x = some .local
  ns : ∃ m, s.heap.Ns X.env.locals m ∧ m x = some (.str z tk)
  slot : σ[i]? = some (some (.str z))
  nz : tk ≠ 0
  lt : tk < s.toks
theorem Sg.to {X : Cx} {i : Nat} {x z : Str} {tk : Tok} {σ : L2.St} {s s1 : Shared} (g : Sg X i x z tk σ s) (hn : ∀ m, s.heap.Ns X.env.locals m → s1.heap.Ns X.env.locals m) (ht : s.toks ≤ s1.toks) : Sg X i x z tk σ s1 :=
  ⟨g.kind, let ⟨m, h1, h2⟩ := g.ns; ⟨m, hn m h1, h2⟩, g.slot, g.nz, Nat.lt_of_lt_of_le g.lt ht⟩
theorem Sg.tok {X : Cx} {i : Nat} {x z : Str} {tk : Tok} {σ : L2.St} {s : Shared} (g : Sg X i x z tk σ s) {k : Nat} (h : s.toks ≤ k) : Sg X i x z tk σ { s with toks := k } := g.to (fun m h => h) h
section
variable {X : Cx} {W : WX} {i j : Nat} {x : Str} {e a b : Expr} {es : List Expr} {t te ta tb : TE} {pos : Pos}
end
section
variable {K : PySem.W.Frag}
end
section
variable {X : Cx} {W : WX} {i j : Nat} {x : Str} {e a b o : Expr} {es : List Expr} {pos p apos : Pos} {fa fb fo f : M R} {fs : M (List R)}
end
end PyD

namespace PyD
open PySem PySem.Spec L2
noncomputable def keyD : Key → D
  | .inl i => .int i
  | .inr s => .str s
section
variable {K : PySem.W.Frag} {W : WX} {B B' B1 : Addr → Prop} {U U' U2 : Addr → Prop} {H H' H1 H2 : Hp} {σ σ' σ1 : L2.St} {en en' en1 en2 : En} {d c x x' : D} {v : V} {i k : Nat} {p q : Addr} {b : Bool} {ds : List D} {kvs : List (Key × D)} {ws : List (Key × V)} {D0 : Ends}
structure Sim (σ : L2.St) (H : Hp) (en : En) (H1 : Hp) (en1 : En) : Prop where
  len : en1.length = en.length
  to : ∀ (j : Nat) (b : Bool) (d : D), en[j]? = some (.o b d) → ∃ d1, en1[j]? = some (.o b d1) ∧ ∀ p, σ[j]? = some (some (.ref p)) → ∀ a, Rch H1 d1 p a → Rch H d p a
  of : ∀ (j : Nat) (b : Bool) (d1 : D), en1[j]? = some (.o b d1) → ∃ d, en[j]? = some (.o b d) ∧ ∀ p, σ[j]? = some (some (.ref p)) → ∀ a, Rch H1 d1 p a → Rch H d p a
theorem Sim.own (h : Sim σ H en H1 en1) {a : Addr} (z : Own H1 σ en1 a) : Own H σ en a := by
  obtain ⟨j, b, d1, p, e, s, r⟩ := z
  obtain ⟨d, e', f⟩ := h.of j b d1 e
  exact ⟨j, b, d, p, e', s, f p s a r⟩
end
section
variable {K : PySem.W.Frag} {W : WX} {B B' B1 : Addr → Prop} {H H' H1 H2 : Hp} {σ σ' σ1 : L2.St} {en en' en1 en2 : En} {d : D} {v : V} {i j k : Nat} {p q : Addr} {b : Bool} {ds : List D} {kvs : List (Key × D)} {ws : List (Key × V)} {D0 : Ends}
noncomputable def finK (i k : Nat) (a : Addr) (kvs : List (Key × D)) : Fl → Option En
  | .nx en => match en[i]? with
    | some (.o b (.ow (.lst ds))) => (match ds[k]? with
      | some (.adr a' .non) => if a' = a then some (en.set i (.o b (.ow (.lst (ds.set k (.dic kvs)))))) else none
      | _ => none)
    | _ => none
  | _ => none
noncomputable def FrK (i j : Nat) (g : D → M Unit) (f : En → Fl) (en e : En) : Prop := ∃ b ds n k kvs, en[i]? = some (.o b (.ow (.lst ds))) ∧ en[j]? = some (.v (.int n)) ∧ ixN ds.length n = some k ∧ ds[k]? = some (.ow (.dic kvs)) ∧ (kvs.all fun kv => atomD kv.2) = true ∧
  ∀ a, finK i k a kvs (frL g f (kvs.map fun kv => keyD kv.1) (en.set i (.o b (.ow (.lst (ds.set k (.adr a .non))))))) = some e
open Classical in
noncomputable def frLk (i j : Nat) (g : D → M Unit) (f : En → Fl) : En → Fl := fun en => if h : ∃ e, FrK i j g f en e then .nx (Classical.choose h) else .bad
end
section
variable {X : Cx} {W : WX} {tg : Expr} {gg : D → M Unit} {body : List Stmt} {f : En → Fl} {i j : Nat} {x y : Str} {p1 p2 p3 pos : Pos}
end
end PyD

namespace PyD
open PySem PySem.Spec L2
section
variable {K : PySem.W.Frag} {W : WX} {B B' B1 : Addr → Prop} {H H' H1 H2 : Hp} {σ σ' : L2.St} {en en' en1 : En} {v : V}
end
section
variable {X : Cx} {W : WX} {kws : List Keyword} {t t' : TA} {e : Expr} {f : M R} {fs : M (List R)} {nm : Option Str} {kpos : Pos}
end
section
variable {X : Cx} {CX : CXT} {k : Nat} {f : Addr} {fd : FuncData} {fn : Nat} {ps ks : List Str} {pm : List Nat} {sp : Sp} {x m : Str} {p pos apos : Pos} {kws : List Keyword} {W : WX}
end
section
variable {K : PySem.W.Frag} {W : WX} {B B' B1 B3 : Addr → Prop} {H H' H1 H2 : Hp} {σ σ' σ1 : L2.St} {en en' en1 eX : En} {d : D} {v : V} {p : Addr} {io : List Bool} {φ : List D → Out} {fa : M (List R)} {Q : VK}
end
section
variable {X : Cx} {W : WX} {n : ON} {m : Str} {lev : Nat} {ps ks : List Str} {pm : List Nat} {io : List Bool} {φ : List D → Out} {fo : M R} {fs : M (List R)} {o e : Expr} {es : List Expr} {kws : List Keyword} {apos pos : Pos} {pl : Sem Bool}
end
section
variable {K : PySem.W.Frag} {W : WX} {B B' B1 : Addr → Prop} {H H' H1 : Hp} {σ σ' σ1 : L2.St} {en en' en1 : En} {d d' : D} {p : Addr} {i j : Nat} {fs : M (List R)} {D0 : Ends}
end
section
variable {en : En} {k : Fl → Prop} {ms : List Bool}
end
section
variable {en : En} {k : List R → En → Prop} {kr : R → En → Prop} {x : Ex → En → Prop} {n : Nat} {pm : List Nat} {fs : M (List R)} {io : List Bool} {φ : List D → Out}
end
end PyD

namespace PyD
open PySem PySem.Spec L2
mutual
noncomputable def strip : D → D
  | .ow d => strip d
  | .tup ds => .tup (stripL ds)
  | .lst ds => .lst (stripL ds)
  | .non => .non
  | .bl b => .bl b
  | .int i => .int i
  | .str s => .str s
  | .dic k => .dic k
  | .obj n fs => .obj n fs
  | .scr ns => .scr ns
  | .exn C fs => .exn C fs
  | .adr a d => .adr a d
noncomputable def stripL : List D → List D
  | [] => []
  | d :: ds => strip d :: stripL ds
end
section
variable {K : PySem.W.Frag} {W : WX} {B B' B1 : Addr → Prop} {U U' : Addr → Prop} {H H' H1 : Hp} {σ σ' σ1 : L2.St} {en en' en1 : En} {d : D} {v : V} {i : Nat} {p : Addr} {t : M Bool} {Q : Bool → Hp → Prop}
mutual
theorem Rep.strip : ∀ {d : D} {v : V}, Rep K U H d v → Rep K U H (PyD.strip d) v
  | .ow d, v, r => by unfold Rep at r; unfold PyD.strip; exact Rep.strip r.2
  | .tup ds, v, r => by
    unfold PyD.strip
    unfold Rep at r ⊢
    obtain ⟨a, vs, e, n, h, q⟩ := r
    exact ⟨a, vs, e, n, h, RepL.strip q⟩
  | .lst ds, v, r => by
    unfold PyD.strip
    unfold Rep at r ⊢
    obtain ⟨a, vs, e, n, h, q⟩ := r
    exact ⟨a, vs, e, n, h, RepL.strip q⟩
  | .non, v, r => by unfold PyD.strip; exact r
  | .bl _, v, r => by unfold PyD.strip; exact r
  | .int _, v, r => by unfold PyD.strip; exact r
  | .str _, v, r => by unfold PyD.strip; exact r
  | .dic _, v, r => by unfold PyD.strip; exact r
  | .obj _ _, v, r => by unfold PyD.strip; exact r
  | .scr _, v, r => by unfold PyD.strip; exact r
  | .exn _ _, v, r => by unfold PyD.strip; exact r
  | .adr _ _, v, r => by unfold PyD.strip; exact r
theorem RepL.strip : ∀ {ds : List D} {vs : List V}, RepL K U H ds vs → RepL K U H (stripL ds) vs
  | [], vs, r => by unfold stripL; exact r
  | d :: ds, vs, r => by
    unfold stripL
    unfold RepL at r ⊢
    obtain ⟨v, us, e, r1, r2⟩ := r
    exact ⟨v, us, e, Rep.strip r1, RepL.strip r2⟩
end
theorem Good.frz (G : Good K B H σ en) (e : en[i]? = some (.o false d)) : ∃ p, σ[i]? = some (some (.ref p)) ∧ Good K B H σ (en.set i (.v (PyD.strip d))) ∧ (∀ a, Own H σ (en.set i (.v (PyD.strip d))) a → Own H σ en a ∧ ¬ Rch H d p a) := by
  obtain ⟨p, s, n, c⟩ := G.own i false d e
  have hi : i < (en.set i .e).length := by rw [List.length_set]; exact (List.getElem?_eq_some_iff.mp e).1
  have t : ∀ a, Un B H σ (en.set i .e) a → Un B H σ en a := fun a h => h.imp id own_set_e
  have np : ∀ a, Rch H d p a → ¬ Un B H σ (en.set i .e) a := fun a r h => by
    rcases h with h | h
    · exact n a r h
    · exact (own_drop G e s (fun _ _ z => by cases z) h).2 r
  have r : Rep K (Un B H σ (en.set i .e)) H (PyD.strip d) (.ref p) := Rep.strip (Cont.rep np (Cont.to (fun a o x n => ⟨x, fun z => n (t a z)⟩) (fun _ _ _ x => x) c))
  have G2 := Good.set_v (G.moved e s) (B := B) (fun a h => .inl h) hi r
  rw [set_eqs s, List.set_set] at G2
  exact ⟨p, s, G2, fun a h => own_drop G e s (fun _ _ z => by cases z) h⟩
noncomputable def flatSl : Sl → Bool
  | .o _ d => flatC d
  | _ => true
noncomputable def flatBut (i : Nat) (en : En) : Bool := (en.set i .e).all flatSl
open Classical in
noncomputable def thawT (i : Nat) (t : M Bool) : M Bool := fun en => match en[i]? with
  | some (.o false d) => (match t (en.set i (.v (strip d))) with
    | .ok r en' => if en' = en.set i (.v (strip d)) ∧ flatBut i en = true then .ok r en else .bad
    | _ => .bad)
  | some (.v _) => t en
  | _ => .bad
theorem thawed (G : Good K B H σ en) (e : en[i]? = some (.o false d)) (s : σ[i]? = some (some (.ref p))) (ow : ∀ a, Own H σ (en.set i (.v (PyD.strip d))) a → Own H σ en a ∧ ¬ Rch H d p a) (hf : flatBut i en = true) (G3 : Good K B H' σ (en.set i (.v (PyD.strip d)))) (st : Stp σ (en.set i (.v (PyD.strip d))) H σ (en.set i (.v (PyD.strip d))) H') : Good K B H' σ en ∧ Stp σ en H σ en H' := by
  obtain ⟨p0, s0, n, c⟩ := G.own i false d e
  rw [s] at s0
  cases s0
  have hil : i < en.length := get_lt e
  have ne_ : ∀ {j : Nat}, j ≠ i → (en.set i (.v (PyD.strip d)))[j]? = en[j]? := fun {j} h => List.getElem?_set_ne (Ne.symm h)
  have kR : ∀ a o, Rch H d p a → H a = some o → H' a = some o := fun a o r h => st.fr a o h fun z => (ow a z).2 r
  have rq : ∀ a, Rch H' d p a ↔ Rch H d p a := fun a => c.rch kR a
  have own1 : ∀ {a}, Own H' σ en a → Own H' σ (en.set i (.v (PyD.strip d))) a ∨ Rch H' d p a := fun {a} ⟨j, b, d', q, e1, s1, r⟩ => by
    by_cases hj : j = i
    · subst hj
      rw [e] at e1
      cases e1
      rw [s] at s1
      cases s1
      exact .inr r
    · exact .inl ⟨j, b, d', q, (ne_ hj).trans e1, s1, r⟩
  have ownI : ∀ {a}, Rch H d p a → Own H σ en a := fun {a} r => ⟨i, false, d, p, e, s, r⟩
  have unOld : ∀ a o, H a = some o → Un B H' σ en a → Un B H σ en a := fun a o h z => by
    rcases z with z | z
    · exact .inl z
    · rcases own1 z with y | y
      · rcases st.ow a y with x | x
        · exact .inr (ow a x).1
        · rw [h] at x; cases x
      · exact .inr (ownI ((rq a).mp y))
  have tT : ∀ a o, H a = some o → ¬ Un B H σ en a → H' a = some o ∧ ¬ Un B H' σ en a := fun a o h nn => ⟨st.fr a o h fun z => nn (.inr (ow a z).1), fun z => nn (unOld a o h z)⟩
  have c' : Cont K (Un B H' σ en) H' d p := Cont.to tT kR c
  have cross : ∀ {a}, Rch H' d p a → ¬ Own H' σ (en.set i (.v (PyD.strip d))) a := fun {a} r z => by
    have r1 := (rq a).mp r
    obtain ⟨o, ho⟩ := c.atR r1
    rcases st.ow a z with y | y
    · exact (ow a y).2 r1
    · rw [ho] at y; cases y
  have ofI : ∀ {a}, OwnF H σ (en.set i (.v (PyD.strip d))) a → OwnF H σ en a := fun {a} ⟨j, d', q, e1, s1, r⟩ => by
    by_cases hj : j = i
    · subst hj
      rw [List.getElem?_set_self hil] at e1
      cases e1
    · exact ⟨j, d', q, (ne_ hj).symm.trans e1, s1, r⟩
  refine ⟨{
    len := G.len
    all := fun a h => G3.all a h
    rep := fun j d' e1 => by
      obtain ⟨v, s1, r⟩ := G.rep j d' e1
      exact ⟨v, s1, Rep.to tT _ _ r⟩
    own := fun j b d' e1 => by
      by_cases hj : j = i
      · subst hj
        rw [e] at e1
        cases e1
        exact ⟨p, s, fun a r => n a ((rq a).mp r), c'⟩
      · obtain ⟨q, s1, n1, c1⟩ := G3.own j b d' ((ne_ hj).trans e1)
        refine ⟨q, s1, n1, Cont.flat (fun a vs dd h hd hr nn z => ?_) ?_ c1⟩
        · rcases z with z | z
          · exact nn (.inl z)
          · rcases own1 z with y | y
            · exact nn (.inr y)
            · obtain ⟨_, _, kd⟩ := c'.atK y
              exact kd.2 _ dd hd hr
        · have e2 : (en.set i .e)[j]? = some (.o b d') := (List.getElem?_set_ne (Ne.symm hj)).trans e1
          exact List.all_eq_true.mp hf _ (List.mem_of_getElem? e2)
    inj := fun k l q1 q2 a b1 b2 d1 d2 e1 e2 s1 s2 r1 r2 => by
      by_cases hk : k = i
      · by_cases hl : l = i
        · exact hk.trans hl.symm
        · exfalso
          subst hk
          rw [e] at e1
          cases e1
          rw [s] at s1
          cases s1
          exact cross r1 ⟨l, b2, d2, q2, (ne_ hl).trans e2, s2, r2⟩
      · by_cases hl : l = i
        · exfalso
          subst hl
          rw [e] at e2
          cases e2
          rw [s] at s2
          cases s2
          exact cross r2 ⟨k, b1, d1, q1, (ne_ hk).trans e1, s1, r1⟩
        · exact G3.inj k l q1 q2 a b1 b2 d1 d2 ((ne_ hk).trans e1) ((ne_ hl).trans e2) s1 s2 r1 r2 }, {
    len := rfl
    fr := fun a o h nn => st.fr a o h fun z => nn (ow a z).1
    al := st.al
    ow := fun a z => by
      rcases own1 z with y | y
      · exact (st.ow a y).imp (fun x => (ow a x).1) id
      · exact .inl (ownI ((rq a).mp y))
    of := fun a ⟨j, d', q, e1, s1, r⟩ => by
      by_cases hj : j = i
      · subst hj
        rw [e] at e1
        cases e1
        rw [s] at s1
        cases s1
        exact .inl ⟨_, _, p, e, s, (rq a).mp r⟩
      · exact (st.of a ⟨j, d', q, (ne_ hj).trans e1, s1, r⟩).imp ofI id
    pin := fun j d' e1 => ⟨rfl, d', e1⟩
    pb := fun j d' e1 => ⟨d', e1⟩
    pr := fun j d1 d2 q a e1 e2 s1 r => by
      have hj : j ≠ i := fun z => by
        subst z
        rw [e] at e1
        cases e1
      rcases st.pr j d1 d2 q a ((ne_ hj).trans e1) ((ne_ hj).trans e2) s1 r with z | z | z
      · exact .inl z
      · exact .inr (.inl z)
      · exact .inr (.inr (ofI z)) }⟩
theorem thawImp (m : RdT K W (thawT i t) σ H Q) : RdT K W t σ H Q := by
  obtain ⟨B, en, G, m⟩ := m
  unfold thawT at m
  cases e : en[i]? with
  | none => rw [e] at m; exact m.elim
  | some sl =>
    rw [e] at m
    cases sl with
    | e => exact m.elim
    | v d => exact ⟨B, en, G, m⟩
    | o b d =>
      cases b with
      | true => exact m.elim
      | false =>
        dsimp only at m
        obtain ⟨p, s, G2, ow⟩ := G.frz e
        refine ⟨B, _, G2, ?_⟩
        cases e2 : t (en.set i (.v (PyD.strip d))) with
        | bad => rw [e2] at m; exact m.elim
        | exc x en' => rw [e2] at m; exact m.elim
        | ok r en' =>
          rw [e2] at m
          dsimp only at m ⊢
          by_cases hc : en' = en.set i (.v (PyD.strip d)) ∧ flatBut i en = true
          · rw [if_pos hc] at m
            obtain ⟨rfl, hf⟩ := hc
            intro H' ⟨B', bx, G3⟩ st
            obtain ⟨GG, SS⟩ := thawed G e s ow hf (G3.mono bx.up) st
            exact m H' ⟨B, Bx.refl B σ en H, GG⟩ SS
          · rw [if_neg hc] at m
            exact m.elim
end
noncomputable def isOw : D → Bool
  | .ow _ => true
  | _ => false
noncomputable def tupN (fs : M (List R)) : M R := fun en => match fs en with
  | .ok rs en1 => (match owns rs with
    | some ds => (match decide (ds.length ≤ 1000) && ds.any isOw with
      | true => .ok (.fr (.ow (.tup ds))) en1
      | false => .bad)
    | none => .bad)
  | .exc x en1 => .exc x en1
  | .bad => .bad
theorem owns_len : ∀ {rs : List R} {ds : List D}, owns rs = some ds → ds.length = rs.length := fun {rs} => by
  induction rs with
  | nil => intro ds e; cases e; rfl
  | cons r rs ih =>
    intro ds e
    cases r with
    | sl _ => cases e
    | fr d =>
      obtain ⟨ds', e2, rfl⟩ := Option.map_eq_some_iff.mp (show (owns rs).map _ = some ds from e)
      rw [List.length_cons, List.length_cons, ih e2]
    | sh d =>
      unfold owns at e
      split at e
      · obtain ⟨ds', e2, rfl⟩ := Option.map_eq_some_iff.mp e
        rw [List.length_cons, List.length_cons, ih e2]
      · cases e
section
variable {K : PySem.W.Frag} {W : WX} {H : Hp} {σ : L2.St} {Q : VK} {fs : M (List R)} {i : Nat} {f : M R} {D0 : Ends}
theorem tupNImp (m : RdE K W (tupN fs) σ H Q) : tTup (RdA K W fs) σ H Q := by
  obtain ⟨B, en, G, m⟩ := m
  refine ⟨B, en, G, ?_⟩
  unfold tupN at m
  cases e : fs en with
  | bad => rw [e] at m; exact m
  | exc x en1 => rw [e] at m; exact m
  | ok rs en1 =>
    rw [e] at m
    dsimp only at m ⊢
    intro vs H1 ⟨B1, b1, G1, ra, fn⟩ st1
    cases e2 : owns rs with
    | none => rw [e2] at m; exact m.elim
    | some ds =>
      rw [e2] at m
      dsimp only at m
      cases e3 : (decide (ds.length ≤ 1000) && ds.any isOw) with
      | false => rw [e3] at m; exact m.elim
      | true =>
        rw [e3] at m
        obtain ⟨e3, e4⟩ := Bool.and_eq_true_iff.mp e3
        have lv : vs.length = ds.length := by rw [argRs_len ra, owns_len e2]
        have hm : ∃ c, D.ow c ∈ ds := by
          obtain ⟨x, hx, h⟩ := List.any_eq_true.mp e4
          cases x with
          | ow c => exact ⟨c, hx⟩
          | _ => cases h
        refine ⟨small_of (by rw [lv]; exact of_decide_eq_true e3), fun p hp => ?_⟩
        have x : Ext H1 (upd H1 p (.tup vs)) := ext_new hp
        have hp0 : H p = none := Classical.byContradiction fun z => st1.al p z hp
        have G2 := newOwn (o := .tup vs) hp G1
        have oi := G1.ownIff (H' := upd H1 p (.tup vs)) (fun a o _ => x a o)
        obtain ⟨q1, q2⟩ := owns_con (p := p) (H2 := upd H1 p (.tup vs)) (U := Un (fun a => B1 a ∨ a = p) (upd H1 p (.tup vs)) σ en1) G1 hp (fun a z => (un_or z).imp (fun y => y.imp id (oi a).mp) id) (fun a o n y => by rw [upd_ne n]; exact y) ra e2
        have rc : ∀ a, Rch (upd H1 p (.tup vs)) (.ow (.tup ds)) p a → a = p ∨ RcRs H1 rs vs a := fun a r => by
          rw [rch_ow] at r
          refine r.imp id fun r => ?_
          unfold RcN at r
          obtain ⟨us, e, r⟩ := r
          rw [upd_same] at e
          cases e
          exact (q2 a).mp r
        refine m _ _ ⟨_, b1.trans st1 (bxNew hp), G2, ⟨p, rfl, fun a r => ?_, ?_⟩, fun p' a eq r => ?_⟩ (st1.trans (Stp.ext G1 x))
        · rcases rc a r with z | z
          · exact .inr z
          · exact .inl (rcRs_B ra z)
        · show ConN K _ _ (.tup ds) p
          unfold ConN
          exact ⟨hm, vs, upd_same, q1⟩
        · cases eq
          rcases rc a r with z | z
          · rw [z]; exact .inl hp0
          · exact frNs.rc fn z
noncomputable def asX (i : Nat) (f : M R) : En → Fl := fun en => match f en with
  | .ok (.fr _) _ => asO i f en
  | _ => asV i f en
theorem asXImp (m : RdS K W (asX i f) D0 σ H) : tAsg (RdE K W f) (gName i) D0 σ H := by
  obtain ⟨B, en, G, m⟩ := RdS.qs m
  have key : asX i f en = asO i f en ∨ asX i f en = asV i f en := by
    unfold asX
    split
    · exact .inl rfl
    · exact .inr rfl
  rcases key with k | k
  · rw [k] at m
    exact asOImp ⟨B, en, G, m⟩
  · rw [k] at m
    exact asVImp ⟨B, en, G, m⟩
end
section
variable {X : Cx} {W : WX} {pos : Pos} {es : List Expr} {fs : M (List R)} {e c : Expr} {fe : M R} {t : M Bool} {i : Nat}
theorem e_tupN {x1} (h : PA X es (RdA X.K W fs)) : PE X (.Tuple es x1 pos) (RdE X.K W (tupN fs)) := pe_imp (pe_tup h) fun σ H Q m => tupNImp m
theorem s_asX {i : Nat} {x : Str} {pos' : Pos} (hN : X.N.Nodup) (he : PE X e (RdE X.K W fe)) (hi : X.N[i]? = some x := by rfl) (hx : Loc X.env.scope x := by first | exact Or.inl rfl | exact Or.inr rfl) (hs : swapsWith e (some (.Name x pos')) pos.line X.env = pure false := by rfl) (hf : X.fn x = true ∨ X.env.scope.names.lookup x = some .local := by first | exact .inl rfl | exact .inr rfl | assumption) :
    PS X (.Assign [.Name x pos'] e pos) (RdS X.K W (asX i fe)) := ps_imp (ps_set hN hi hx he hs hf) fun D σ H m => asXImp m
theorem t_thaw (i : Nat) (h : PT X c (RdT X.K W t)) : PT X c (RdT X.K W (thawT i t)) := pt_imp h fun σ H Q m => thawImp m
end
end PyD

namespace PyD
open PySem PySem.Spec L2
noncomputable def unR : R → Option R
  | .sh (.adr _ .non) => none
  | .sh (.adr _ d) => some (.sh d)
  | r => some r
noncomputable def ulF (f : M R) : M R := fun en => match f en with
  | .ok r en1 => (match unR r with
    | some r' => .ok r' en1
    | none => .bad)
  | .exc x en1 => .exc x en1
  | .bad => .bad
mutual
noncomputable def okC : D → Bool
  | .lst ds => decide (ds.length < 1000) && flatL ds
  | .ow (.lst ds) => decide (ds.length < 1000) && okCL ds
  | .ow (.tup ds) => okCL ds
  | _ => false
noncomputable def okCV : D → Bool
  | .ow c => okC c
  | d => flatD d
noncomputable def okCL : List D → Bool
  | [] => true
  | d :: ds => okCV d && okCL ds
end
mutual
noncomputable def LabC : D → D → List Addr → Prop
  | .lst ds, dl, ls => ∃ a, dl = .adr a (.lst ds) ∧ ls = [a]
  | .ow (.lst ds), dl, ls => ∃ a dls l1, dl = .adr a (.lst dls) ∧ LabL ds dls l1 ∧ ls = a :: l1
  | .ow (.tup ds), dl, ls => ∃ dls, dl = .tup dls ∧ LabL ds dls ls
  | _, _, _ => False
noncomputable def LabV : D → D → List Addr → Prop
  | .ow c, dl, ls => LabC c dl ls
  | d, dl, ls => dl = d ∧ ls = []
noncomputable def LabL : List D → List D → List Addr → Prop
  | [], dls, ls => dls = [] ∧ ls = []
  | d :: ds, dls, ls => ∃ dl r l1 l2, dls = dl :: r ∧ LabV d dl l1 ∧ LabL ds r l2 ∧ ls = l1 ++ l2
end
mutual
noncomputable def appA (a : Addr) : D → D
  | .adr b (.lst ds) => .lst (if b = a then appAL a ds ++ [.non] else appAL a ds)
  | .tup ds => .tup (appAL a ds)
  | d => d
noncomputable def appAL (a : Addr) : List D → List D
  | [] => []
  | d :: ds => appA a d :: appAL a ds
end
mutual
theorem appA_flat {a : Addr} : ∀ {d : D}, flatD d = true → appA a d = d
  | .tup ds, h => by unfold appA; rw [appAL_flat (by unfold flatD at h; exact h)]
  | .non, _ => by unfold appA; rfl
  | .bl _, _ => by unfold appA; rfl
  | .int _, _ => by unfold appA; rfl
  | .str _, _ => by unfold appA; rfl
  | .lst _, h => by unfold flatD at h; cases h
  | .dic _, h => by unfold flatD at h; cases h
  | .obj _ _, h => by unfold flatD at h; cases h
  | .scr _, h => by unfold flatD at h; cases h
  | .exn _ _, h => by unfold flatD at h; cases h
  | .adr _ _, h => by unfold flatD at h; cases h
  | .ow _, h => by unfold flatD at h; cases h
theorem appAL_flat {a : Addr} : ∀ {ds : List D}, flatL ds = true → appAL a ds = ds
  | [], _ => by unfold appAL; rfl
  | d :: ds, h => by
    unfold flatL at h
    obtain ⟨h1, h2⟩ := Bool.and_eq_true_iff.mp h
    unfold appAL
    rw [appA_flat h1, appAL_flat h2]
end
section
variable {K : PySem.W.Frag} {W : WX} {B B' B1 : Addr → Prop} {U U' : Addr → Prop} {H H' H1 : Hp} {σ σ' σ1 : L2.St} {en en' en1 : En} {d : D} {v : V} {i j : Nat} {p : Addr}
theorem conL_np : ∀ {ds : List D} {vs : List V}, ConL K U H p ds vs → ∀ a, RcL H ds vs a → a ≠ p
  | [], vs, _, a, r => by unfold RcL at r; exact r.elim
  | d :: ds, vs, c, a, r => by
    unfold ConL at c
    unfold RcL at r
    obtain ⟨v, us, e, c1, c2, c3⟩ := c
    obtain ⟨v', us', e', r⟩ := r
    subst e
    cases e'
    rcases r with r | r
    · exact (c3 a r).1
    · exact conL_np c2 a r
theorem conV_flat : ∀ {d : D}, flatD d = true → (ConV K U H d v ↔ Rep K U H d v) := fun {d} h => conV_rep fun c e => by subst e; unfold flatD at h; cases h
mutual
theorem labC_ex (t : ∀ a o, H a = some o → ¬ U a → H a = some o ∧ ¬ U' a) : ∀ {d : D} {p : Addr}, okC d = true → Con K U H d p → (∀ a, Rch H d p a → ¬ U' a) →
    ∃ dl ls, LabC d dl ls ∧ Rep K U' H dl (.ref p) ∧ ls.Nodup ∧ ∀ a ∈ ls, Rch H d p a
  | .lst ds, p, ok, c, n => by
    unfold Con at c
    obtain ⟨vs, h, r⟩ := c
    refine ⟨.adr p (.lst ds), [p], by unfold LabC; exact ⟨p, rfl, rfl⟩, ?_, by simp, fun a ha => ?_⟩
    · unfold Rep
      refine ⟨rfl, .inr ?_⟩
      unfold Rep
      exact ⟨p, vs, rfl, n p Rch.self, h, RepL.to t _ _ r⟩
    · rw [List.mem_singleton.mp ha]; exact Rch.self
  | .ow (.lst ds), p, ok, c, n => by
    unfold Con ConN at c
    obtain ⟨vs, h, c⟩ := c
    unfold okC at ok
    have rc : ∀ a, RcL H ds vs a → Rch H (.ow (.lst ds)) p a := fun a r => by
      unfold Rch RcN
      exact .inr ⟨vs, h, r⟩
    obtain ⟨dls, ls, l1, l2, l3, l4⟩ := labL_ex t (Bool.and_eq_true_iff.mp ok).2 c (fun a r => n a (rc a r))
    refine ⟨.adr p (.lst dls), p :: ls, by unfold LabC; exact ⟨p, dls, ls, rfl, l1, rfl⟩, ?_, List.nodup_cons.mpr ⟨fun z => conL_np c p (l4 p z) rfl, l3⟩, fun a ha => ?_⟩
    · unfold Rep
      refine ⟨rfl, .inr ?_⟩
      unfold Rep
      exact ⟨p, vs, rfl, n p Rch.self, h, l2⟩
    · rcases List.mem_cons.mp ha with z | z
      · rw [z]; exact Rch.self
      · exact rc a (l4 a z)
  | .ow (.tup ds), p, ok, c, n => by
    unfold Con ConN at c
    obtain ⟨_, vs, h, c⟩ := c
    unfold okC at ok
    have rc : ∀ a, RcL H ds vs a → Rch H (.ow (.tup ds)) p a := fun a r => by
      unfold Rch RcN
      exact .inr ⟨vs, h, r⟩
    obtain ⟨dls, ls, l1, l2, l3, l4⟩ := labL_ex t ok c (fun a r => n a (rc a r))
    refine ⟨.tup dls, ls, by unfold LabC; exact ⟨dls, rfl, l1⟩, ?_, l3, fun a ha => rc a (l4 a ha)⟩
    unfold Rep
    exact ⟨p, vs, rfl, n p Rch.self, h, l2⟩
  | .ow .non, p, ok, _, _ => by unfold okC at ok; cases ok
  | .ow (.bl _), p, ok, _, _ => by unfold okC at ok; cases ok
  | .ow (.int _), p, ok, _, _ => by unfold okC at ok; cases ok
  | .ow (.str _), p, ok, _, _ => by unfold okC at ok; cases ok
  | .ow (.dic _), p, ok, _, _ => by unfold okC at ok; cases ok
  | .ow (.obj _ _), p, ok, _, _ => by unfold okC at ok; cases ok
  | .ow (.scr _), p, ok, _, _ => by unfold okC at ok; cases ok
  | .ow (.exn _ _), p, ok, _, _ => by unfold okC at ok; cases ok
  | .ow (.adr _ _), p, ok, _, _ => by unfold okC at ok; cases ok
  | .ow (.ow _), p, ok, _, _ => by unfold okC at ok; cases ok
  | .non, p, ok, _, _ => by unfold okC at ok; cases ok
  | .bl _, p, ok, _, _ => by unfold okC at ok; cases ok
  | .int _, p, ok, _, _ => by unfold okC at ok; cases ok
  | .str _, p, ok, _, _ => by unfold okC at ok; cases ok
  | .tup _, p, ok, _, _ => by unfold okC at ok; cases ok
  | .dic _, p, ok, _, _ => by unfold okC at ok; cases ok
  | .obj _ _, p, ok, _, _ => by unfold okC at ok; cases ok
  | .scr _, p, ok, _, _ => by unfold okC at ok; cases ok
  | .exn _ _, p, ok, _, _ => by unfold okC at ok; cases ok
  | .adr _ _, p, ok, _, _ => by unfold okC at ok; cases ok
theorem labV_ex (t : ∀ a o, H a = some o → ¬ U a → H a = some o ∧ ¬ U' a) : ∀ {d : D} {v : V}, okCV d = true → ConV K U H d v → (∀ a, RcV H d v a → ¬ U' a) →
    ∃ dl ls, LabV d dl ls ∧ Rep K U' H dl v ∧ ls.Nodup ∧ ∀ a ∈ ls, RcV H d v a
  | .ow d, v, ok, c, n => by
    unfold ConV at c
    obtain ⟨q, e, c⟩ := c
    subst e
    unfold okCV at ok
    obtain ⟨dl, ls, l1, l2, l3, l4⟩ := labC_ex t ok c (fun a r => n a (by unfold RcV; exact ⟨q, rfl, r⟩))
    exact ⟨dl, ls, by unfold LabV; exact l1, l2, l3, fun a ha => by unfold RcV; exact ⟨q, rfl, l4 a ha⟩⟩
  | .non, v, ok, c, n => ⟨_, [], by unfold LabV; exact ⟨rfl, rfl⟩, Rep.to t _ _ ((conV_flat (by unfold flatD; rfl)).mp c), List.nodup_nil, fun a ha => by cases ha⟩
  | .bl _, v, ok, c, n => ⟨_, [], by unfold LabV; exact ⟨rfl, rfl⟩, Rep.to t _ _ ((conV_flat (by unfold flatD; rfl)).mp c), List.nodup_nil, fun a ha => by cases ha⟩
  | .int _, v, ok, c, n => ⟨_, [], by unfold LabV; exact ⟨rfl, rfl⟩, Rep.to t _ _ ((conV_flat (by unfold flatD; rfl)).mp c), List.nodup_nil, fun a ha => by cases ha⟩
  | .str _, v, ok, c, n => ⟨_, [], by unfold LabV; exact ⟨rfl, rfl⟩, Rep.to t _ _ ((conV_flat (by unfold flatD; rfl)).mp c), List.nodup_nil, fun a ha => by cases ha⟩
  | .tup ds, v, ok, c, n => ⟨_, [], by unfold LabV; exact ⟨rfl, rfl⟩, Rep.to t _ _ ((conV_flat (by unfold okCV at ok; exact ok)).mp c), List.nodup_nil, fun a ha => by cases ha⟩
  | .lst _, v, ok, c, n => by unfold okCV flatD at ok; cases ok
  | .dic _, v, ok, c, n => by unfold okCV flatD at ok; cases ok
  | .obj _ _, v, ok, c, n => by unfold okCV flatD at ok; cases ok
  | .scr _, v, ok, c, n => by unfold okCV flatD at ok; cases ok
  | .exn _ _, v, ok, c, n => by unfold okCV flatD at ok; cases ok
  | .adr _ _, v, ok, c, n => by unfold okCV flatD at ok; cases ok
theorem labL_ex (t : ∀ a o, H a = some o → ¬ U a → H a = some o ∧ ¬ U' a) : ∀ {ds : List D} {vs : List V} {p : Addr}, okCL ds = true → ConL K U H p ds vs → (∀ a, RcL H ds vs a → ¬ U' a) →
    ∃ dls ls, LabL ds dls ls ∧ RepL K U' H dls vs ∧ ls.Nodup ∧ ∀ a ∈ ls, RcL H ds vs a
  | [], vs, p, ok, c, n => by
    unfold ConL at c
    exact ⟨[], [], by unfold LabL; exact ⟨rfl, rfl⟩, by unfold RepL; exact c, List.nodup_nil, fun a ha => by cases ha⟩
  | d :: ds, vs, p, ok, c, n => by
    unfold ConL at c
    unfold okCL at ok
    obtain ⟨ok1, ok2⟩ := Bool.and_eq_true_iff.mp ok
    obtain ⟨v, us, e, c1, c2, c3⟩ := c
    subst e
    obtain ⟨dl, l1, a1, a2, a3, a4⟩ := labV_ex t ok1 c1 (fun a r => n a (by unfold RcL; exact ⟨v, us, rfl, .inl r⟩))
    obtain ⟨dls, l2, b1, b2, b3, b4⟩ := labL_ex t ok2 c2 (fun a r => n a (by unfold RcL; exact ⟨v, us, rfl, .inr r⟩))
    refine ⟨dl :: dls, l1 ++ l2, by unfold LabL; exact ⟨dl, dls, l1, l2, rfl, a1, b1, rfl⟩, by unfold RepL; exact ⟨v, us, rfl, a2, b2⟩, List.nodup_append.mpr ⟨a3, b3, fun x hx y hy e => ?_⟩, fun a ha => ?_⟩
    · subst e
      exact (c3 x (a4 x hx)).2 (b4 x hy)
    · unfold RcL
      rcases List.mem_append.mp ha with z | z
      · exact ⟨v, us, rfl, .inl (a4 a z)⟩
      · exact ⟨v, us, rfl, .inr (b4 a z)⟩
end
theorem labL_len : ∀ {ds dls : List D} {ls : List Addr}, LabL ds dls ls → dls.length = ds.length
  | [], dls, ls, l => by unfold LabL at l; rw [l.1]
  | d :: ds, dls, ls, l => by
    unfold LabL at l
    obtain ⟨dl, tt, l1, l2, e1, q1, q2, e2⟩ := l
    subst e1
    rw [List.length_cons, List.length_cons, labL_len q2]
mutual
theorem labC_at : ∀ {d dl : D} {ls : List Addr} {v : V}, okC d = true → LabC d dl ls → Rep K U H dl v → ∀ a ∈ ls, ¬ U a ∧ ∃ us, H a = some (.lst us) ∧ us.length < 1000
  | .lst ds, dl, ls, v, ok, l, r, a, ha => by
    unfold LabC at l
    obtain ⟨b, e1, e2⟩ := l
    subst e1 e2
    rw [List.mem_singleton] at ha
    subst ha
    unfold okC at ok
    unfold Rep at r
    obtain ⟨e, r⟩ := r
    rcases r with r | r
    · cases r
    unfold Rep at r
    obtain ⟨b, vs, e', n, h, q⟩ := r
    rw [e] at e'
    cases e'
    exact ⟨n, vs, h, by rw [q.len]; exact of_decide_eq_true (Bool.and_eq_true_iff.mp ok).1⟩
  | .ow (.lst ds), dl, ls, v, ok, l, r, a, ha => by
    unfold LabC at l
    obtain ⟨b, dls, l1, e1, e3, e2⟩ := l
    subst e1 e2
    unfold okC at ok
    obtain ⟨ok1, ok2⟩ := Bool.and_eq_true_iff.mp ok
    unfold Rep at r
    obtain ⟨e, r⟩ := r
    rcases r with r | r
    · cases r
    unfold Rep at r
    obtain ⟨b', vs, e', n, h, q⟩ := r
    rw [e] at e'
    cases e'
    rcases List.mem_cons.mp ha with z | z
    · subst z
      exact ⟨n, vs, h, by rw [q.len, labL_len e3]; exact of_decide_eq_true ok1⟩
    · exact labL_at ok2 e3 q a z
  | .ow (.tup ds), dl, ls, v, ok, l, r, a, ha => by
    unfold LabC at l
    obtain ⟨dls, e1, l⟩ := l
    subst e1
    unfold okC at ok
    unfold Rep at r
    obtain ⟨b, vs, e, n, h, q⟩ := r
    exact labL_at ok l q a ha
  | .non, _, _, _, ok, _, _, _, _ => by unfold okC at ok; cases ok
  | .bl _, _, _, _, ok, _, _, _, _ => by unfold okC at ok; cases ok
  | .int _, _, _, _, ok, _, _, _, _ => by unfold okC at ok; cases ok
  | .str _, _, _, _, ok, _, _, _, _ => by unfold okC at ok; cases ok
  | .tup _, _, _, _, ok, _, _, _, _ => by unfold okC at ok; cases ok
  | .dic _, _, _, _, ok, _, _, _, _ => by unfold okC at ok; cases ok
  | .obj _ _, _, _, _, ok, _, _, _, _ => by unfold okC at ok; cases ok
  | .scr _, _, _, _, ok, _, _, _, _ => by unfold okC at ok; cases ok
  | .exn _ _, _, _, _, ok, _, _, _, _ => by unfold okC at ok; cases ok
  | .adr _ _, _, _, _, ok, _, _, _, _ => by unfold okC at ok; cases ok
  | .ow .non, _, _, _, ok, _, _, _, _ => by unfold okC at ok; cases ok
  | .ow (.bl _), _, _, _, ok, _, _, _, _ => by unfold okC at ok; cases ok
  | .ow (.int _), _, _, _, ok, _, _, _, _ => by unfold okC at ok; cases ok
  | .ow (.str _), _, _, _, ok, _, _, _, _ => by unfold okC at ok; cases ok
  | .ow (.dic _), _, _, _, ok, _, _, _, _ => by unfold okC at ok; cases ok
  | .ow (.obj _ _), _, _, _, ok, _, _, _, _ => by unfold okC at ok; cases ok
  | .ow (.scr _), _, _, _, ok, _, _, _, _ => by unfold okC at ok; cases ok
  | .ow (.exn _ _), _, _, _, ok, _, _, _, _ => by unfold okC at ok; cases ok
  | .ow (.adr _ _), _, _, _, ok, _, _, _, _ => by unfold okC at ok; cases ok
  | .ow (.ow _), _, _, _, ok, _, _, _, _ => by unfold okC at ok; cases ok
theorem labV_at : ∀ {d dl : D} {ls : List Addr} {v : V}, okCV d = true → LabV d dl ls → Rep K U H dl v → ∀ a ∈ ls, ¬ U a ∧ ∃ us, H a = some (.lst us) ∧ us.length < 1000
  | .ow d, dl, ls, v, ok, l, r, a, ha => labC_at (by unfold okCV at ok; exact ok) (by unfold LabV at l; exact l) r a ha
  | .non, _, _, _, _, l, _, _, ha => by unfold LabV at l; rw [l.2] at ha; cases ha
  | .bl _, _, _, _, _, l, _, _, ha => by unfold LabV at l; rw [l.2] at ha; cases ha
  | .int _, _, _, _, _, l, _, _, ha => by unfold LabV at l; rw [l.2] at ha; cases ha
  | .str _, _, _, _, _, l, _, _, ha => by unfold LabV at l; rw [l.2] at ha; cases ha
  | .tup _, _, _, _, _, l, _, _, ha => by unfold LabV at l; rw [l.2] at ha; cases ha
  | .lst _, _, _, _, _, l, _, _, ha => by unfold LabV at l; rw [l.2] at ha; cases ha
  | .dic _, _, _, _, _, l, _, _, ha => by unfold LabV at l; rw [l.2] at ha; cases ha
  | .obj _ _, _, _, _, _, l, _, _, ha => by unfold LabV at l; rw [l.2] at ha; cases ha
  | .scr _, _, _, _, _, l, _, _, ha => by unfold LabV at l; rw [l.2] at ha; cases ha
  | .exn _ _, _, _, _, _, l, _, _, ha => by unfold LabV at l; rw [l.2] at ha; cases ha
  | .adr _ _, _, _, _, _, l, _, _, ha => by unfold LabV at l; rw [l.2] at ha; cases ha
theorem labL_at : ∀ {ds dls : List D} {ls : List Addr} {vs : List V}, okCL ds = true → LabL ds dls ls → RepL K U H dls vs → ∀ a ∈ ls, ¬ U a ∧ ∃ us, H a = some (.lst us) ∧ us.length < 1000
  | [], dls, ls, vs, ok, l, r, a, ha => by unfold LabL at l; rw [l.2] at ha; cases ha
  | d :: ds, dls, ls, vs, ok, l, r, a, ha => by
    unfold LabL at l
    obtain ⟨dl, t, l1, l2, e1, q1, q2, e2⟩ := l
    subst e1 e2
    unfold okCL at ok
    obtain ⟨ok1, ok2⟩ := Bool.and_eq_true_iff.mp ok
    unfold RepL at r
    obtain ⟨v, us, e, r1, r2⟩ := r
    rcases List.mem_append.mp ha with z | z
    · exact labV_at ok1 q1 r1 a z
    · exact labL_at ok2 q2 r2 a z
end
theorem repL_snoc {x : D} {w : V} (hw : Rep K U H x w) : ∀ {ds : List D} {vs : List V}, RepL K U H ds vs → RepL K U H (ds ++ [x]) (vs ++ [w])
  | [], vs, r => by
    unfold RepL at r
    subst r
    show RepL K U H [x] [w]
    unfold RepL RepL
    exact ⟨w, [], rfl, hw, rfl⟩
  | d :: ds, vs, r => by
    unfold RepL at r
    obtain ⟨v, us, e, r1, r2⟩ := r
    subst e
    show RepL K U H (d :: (ds ++ [x])) (v :: (us ++ [w]))
    unfold RepL
    exact ⟨v, us ++ [w], rfl, r1, repL_snoc hw r2⟩
variable {a : Addr} {us : List V}
mutual
theorem flat_app (ha : H a = some (.lst us)) (t : ∀ b o, b ≠ a → H b = some o → ¬ U b → H' b = some o ∧ ¬ U' b) : ∀ {d : D} {v : V}, flatD d = true → Rep K U H d v → Rep K U' H' d v
  | .tup ds, v, f, r => by
    unfold Rep at r ⊢
    unfold flatD at f
    obtain ⟨b, vs, e, n, h, q⟩ := r
    have nb : b ≠ a := fun z => by rw [z, ha] at h; cases h
    obtain ⟨h', n'⟩ := t b _ nb h n
    exact ⟨b, vs, e, n', h', flatL_app ha t f q⟩
  | .non, v, _, r => by unfold Rep at r ⊢; exact r
  | .bl _, v, _, r => by unfold Rep at r ⊢; exact r
  | .int _, v, _, r => by unfold Rep at r ⊢; exact r
  | .str _, v, _, r => by unfold Rep at r ⊢; exact r
  | .lst _, _, f, _ => by unfold flatD at f; cases f
  | .dic _, _, f, _ => by unfold flatD at f; cases f
  | .obj _ _, _, f, _ => by unfold flatD at f; cases f
  | .scr _, _, f, _ => by unfold flatD at f; cases f
  | .exn _ _, _, f, _ => by unfold flatD at f; cases f
  | .adr _ _, _, f, _ => by unfold flatD at f; cases f
  | .ow _, _, f, _ => by unfold flatD at f; cases f
theorem flatL_app (ha : H a = some (.lst us)) (t : ∀ b o, b ≠ a → H b = some o → ¬ U b → H' b = some o ∧ ¬ U' b) : ∀ {ds : List D} {vs : List V}, flatL ds = true → RepL K U H ds vs → RepL K U' H' ds vs
  | [], vs, _, r => by unfold RepL at r ⊢; exact r
  | d :: ds, vs, f, r => by
    unfold RepL at r ⊢
    unfold flatL at f
    obtain ⟨f1, f2⟩ := Bool.and_eq_true_iff.mp f
    obtain ⟨v, us, e, r1, r2⟩ := r
    exact ⟨v, us, e, flat_app ha t f1 r1, flatL_app ha t f2 r2⟩
end
mutual
theorem labC_app (ha : H a = some (.lst us)) (na : ¬ U' a) (h' : H' a = some (.lst (us ++ [.non]))) (t : ∀ b o, b ≠ a → H b = some o → ¬ U b → H' b = some o ∧ ¬ U' b) : ∀ {d dl : D} {ls : List Addr} {v : V}, okC d = true → LabC d dl ls → Rep K U H dl v → Rep K U' H' (appA a dl) v
  | .lst ds, dl, ls, v, ok, l, r => by
    unfold LabC at l
    obtain ⟨b, e1, e2⟩ := l
    subst e1
    unfold okC at ok
    have f := (Bool.and_eq_true_iff.mp ok).2
    unfold Rep at r
    obtain ⟨e, r⟩ := r
    rcases r with r | r
    · cases r
    unfold Rep at r
    obtain ⟨b', vs, e', n, h, q⟩ := r
    rw [e] at e'
    cases e'
    unfold appA
    rw [appAL_flat f]
    have q' := flatL_app ha t f q
    by_cases z : b = a
    · rw [if_pos z]
      subst z
      rw [ha] at h
      cases h
      unfold Rep
      exact ⟨b, _, e, na, h', repL_snoc (by unfold Rep; rfl) q'⟩
    · rw [if_neg z]
      obtain ⟨k1, k2⟩ := t b _ z h n
      unfold Rep
      exact ⟨b, vs, e, k2, k1, q'⟩
  | .ow (.lst ds), dl, ls, v, ok, l, r => by
    unfold LabC at l
    obtain ⟨b, dls, l1, e1, e3, e2⟩ := l
    subst e1
    unfold okC at ok
    have f := (Bool.and_eq_true_iff.mp ok).2
    unfold Rep at r
    obtain ⟨e, r⟩ := r
    rcases r with r | r
    · cases r
    unfold Rep at r
    obtain ⟨b', vs, e', n, h, q⟩ := r
    rw [e] at e'
    cases e'
    unfold appA
    have q' := labL_app ha na h' t f e3 q
    by_cases z : b = a
    · rw [if_pos z]
      subst z
      rw [ha] at h
      cases h
      unfold Rep
      exact ⟨b, _, e, na, h', repL_snoc (by unfold Rep; rfl) q'⟩
    · rw [if_neg z]
      obtain ⟨k1, k2⟩ := t b _ z h n
      unfold Rep
      exact ⟨b, vs, e, k2, k1, q'⟩
  | .ow (.tup ds), dl, ls, v, ok, l, r => by
    unfold LabC at l
    obtain ⟨dls, e1, l⟩ := l
    subst e1
    unfold okC at ok
    unfold appA
    unfold Rep at r ⊢
    obtain ⟨b, vs, e, n, h, q⟩ := r
    have nb : b ≠ a := fun z => by rw [z, ha] at h; cases h
    obtain ⟨k1, k2⟩ := t b _ nb h n
    exact ⟨b, vs, e, k2, k1, labL_app ha na h' t ok l q⟩
  | .non, _, _, _, ok, _, _ => by unfold okC at ok; cases ok
  | .bl _, _, _, _, ok, _, _ => by unfold okC at ok; cases ok
  | .int _, _, _, _, ok, _, _ => by unfold okC at ok; cases ok
  | .str _, _, _, _, ok, _, _ => by unfold okC at ok; cases ok
  | .tup _, _, _, _, ok, _, _ => by unfold okC at ok; cases ok
  | .dic _, _, _, _, ok, _, _ => by unfold okC at ok; cases ok
  | .obj _ _, _, _, _, ok, _, _ => by unfold okC at ok; cases ok
  | .scr _, _, _, _, ok, _, _ => by unfold okC at ok; cases ok
  | .exn _ _, _, _, _, ok, _, _ => by unfold okC at ok; cases ok
  | .adr _ _, _, _, _, ok, _, _ => by unfold okC at ok; cases ok
  | .ow .non, _, _, _, ok, _, _ => by unfold okC at ok; cases ok
  | .ow (.bl _), _, _, _, ok, _, _ => by unfold okC at ok; cases ok
  | .ow (.int _), _, _, _, ok, _, _ => by unfold okC at ok; cases ok
  | .ow (.str _), _, _, _, ok, _, _ => by unfold okC at ok; cases ok
  | .ow (.dic _), _, _, _, ok, _, _ => by unfold okC at ok; cases ok
  | .ow (.obj _ _), _, _, _, ok, _, _ => by unfold okC at ok; cases ok
  | .ow (.scr _), _, _, _, ok, _, _ => by unfold okC at ok; cases ok
  | .ow (.exn _ _), _, _, _, ok, _, _ => by unfold okC at ok; cases ok
  | .ow (.adr _ _), _, _, _, ok, _, _ => by unfold okC at ok; cases ok
  | .ow (.ow _), _, _, _, ok, _, _ => by unfold okC at ok; cases ok
theorem labV_app (ha : H a = some (.lst us)) (na : ¬ U' a) (h' : H' a = some (.lst (us ++ [.non]))) (t : ∀ b o, b ≠ a → H b = some o → ¬ U b → H' b = some o ∧ ¬ U' b) : ∀ {d dl : D} {ls : List Addr} {v : V}, okCV d = true → LabV d dl ls → Rep K U H dl v → Rep K U' H' (appA a dl) v
  | .ow d, dl, ls, v, ok, l, r => labC_app ha na h' t (by unfold okCV at ok; exact ok) (by unfold LabV at l; exact l) r
  | .non, _, _, _, ok, l, r => by unfold LabV at l; rw [l.1] at r ⊢; unfold okCV at ok; rw [appA_flat ok]; exact flat_app ha t ok r
  | .bl _, _, _, _, ok, l, r => by unfold LabV at l; rw [l.1] at r ⊢; unfold okCV at ok; rw [appA_flat ok]; exact flat_app ha t ok r
  | .int _, _, _, _, ok, l, r => by unfold LabV at l; rw [l.1] at r ⊢; unfold okCV at ok; rw [appA_flat ok]; exact flat_app ha t ok r
  | .str _, _, _, _, ok, l, r => by unfold LabV at l; rw [l.1] at r ⊢; unfold okCV at ok; rw [appA_flat ok]; exact flat_app ha t ok r
  | .tup _, _, _, _, ok, l, r => by unfold LabV at l; rw [l.1] at r ⊢; unfold okCV at ok; rw [appA_flat ok]; exact flat_app ha t ok r
  | .lst _, _, _, _, ok, l, r => by unfold LabV at l; rw [l.1] at r ⊢; unfold okCV at ok; rw [appA_flat ok]; exact flat_app ha t ok r
  | .dic _, _, _, _, ok, l, r => by unfold LabV at l; rw [l.1] at r ⊢; unfold okCV at ok; rw [appA_flat ok]; exact flat_app ha t ok r
  | .obj _ _, _, _, _, ok, l, r => by unfold LabV at l; rw [l.1] at r ⊢; unfold okCV at ok; rw [appA_flat ok]; exact flat_app ha t ok r
  | .scr _, _, _, _, ok, l, r => by unfold LabV at l; rw [l.1] at r ⊢; unfold okCV at ok; rw [appA_flat ok]; exact flat_app ha t ok r
  | .exn _ _, _, _, _, ok, l, r => by unfold LabV at l; rw [l.1] at r ⊢; unfold okCV at ok; rw [appA_flat ok]; exact flat_app ha t ok r
  | .adr _ _, _, _, _, ok, l, r => by unfold LabV at l; rw [l.1] at r ⊢; unfold okCV at ok; rw [appA_flat ok]; exact flat_app ha t ok r
theorem labL_app (ha : H a = some (.lst us)) (na : ¬ U' a) (h' : H' a = some (.lst (us ++ [.non]))) (t : ∀ b o, b ≠ a → H b = some o → ¬ U b → H' b = some o ∧ ¬ U' b) : ∀ {ds dls : List D} {ls : List Addr} {vs : List V}, okCL ds = true → LabL ds dls ls → RepL K U H dls vs → RepL K U' H' (appAL a dls) vs
  | [], dls, ls, vs, ok, l, r => by
    unfold LabL at l
    rw [l.1] at r ⊢
    unfold appAL
    unfold RepL at r ⊢
    exact r
  | d :: ds, dls, ls, vs, ok, l, r => by
    unfold LabL at l
    obtain ⟨dl, tt, l1, l2, e1, q1, q2, e2⟩ := l
    subst e1
    unfold okCL at ok
    obtain ⟨ok1, ok2⟩ := Bool.and_eq_true_iff.mp ok
    unfold RepL at r
    obtain ⟨v, vs', e, r1, r2⟩ := r
    unfold appAL RepL
    exact ⟨v, vs', e, labV_app ha na h' t ok1 q1 r1, labL_app ha na h' t ok2 q2 r2⟩
end
end
end PyD

namespace PyD
open PySem PySem.Spec L2
section
variable {K : PySem.W.Frag} {W : WX} {B B' B1 : Addr → Prop} {U U' : Addr → Prop} {H H' H1 : Hp} {σ σ' σ1 : L2.St} {en en' en1 : En} {d : D} {v : V} {i j : Nat} {p : Addr} {Q : VK} {f : M R}
theorem unR_arg {r r' : R} (e : unR r = some r') (h : ArgR K B σ en H r v) : ArgR K B σ en H r' v := by
  cases r with
  | sl _ => cases e; exact h
  | fr _ => cases e; exact h
  | sh d =>
    cases d with
    | adr a d =>
      have h : Rep K (Un B H σ en) H (.adr a d) v := h
      unfold Rep at h
      obtain ⟨e0, h⟩ := h
      cases d with
      | non => cases e
      | _ =>
        cases e
        rcases h with z | z
        · cases z
        · exact z
    | _ => cases e; exact h
theorem unR_fr {r r' : R} (e : unR r = some r') (h : frN σ en H H' r v) : frN σ en H H' r' v := by
  cases r with
  | sl _ => cases e; exact h
  | fr _ => cases e; exact h
  | sh d =>
    cases d with
    | adr a d => cases d <;> cases e <;> trivial
    | _ => cases e; exact h
theorem ulImp (m : RdE K W (ulF f) σ H Q) : RdE K W f σ H Q := by
  obtain ⟨B, en, G, m⟩ := m
  refine ⟨B, en, G, ?_⟩
  unfold ulF at m
  cases e : f en with
  | bad => rw [e] at m; exact m
  | exc x en1 => rw [e] at m; exact m
  | ok r en1 =>
    rw [e] at m
    dsimp only at m ⊢
    cases e2 : unR r with
    | none => rw [e2] at m; exact m.elim
    | some r' =>
      rw [e2] at m
      intro v H' ⟨B', b, g, ra, fn⟩ st
      exact m v H' ⟨B', b, g, unR_arg e2 ra, unR_fr e2 fn⟩ st
noncomputable def extM2 : D → List D → Option (D × D)
  | .lst xs, [.lst ys] => if xs.length + ys.length ≤ 16000000 then some (.lst (xs ++ ys), .non) else none
  | _, _ => none
noncomputable instance : FlatM extM2 := ⟨fun d0 ds d1 d e => by
  unfold extM2 at e
  repeat' split at e
  all_goals (first | (cases e; exact ⟨rfl, rfl⟩) | cases e)⟩
theorem prim_extend2 {K : PySem.W.Frag} : PrimM K true rExtend extM2 := by
  intro U H d0 ds p vs Q d1 d hU hp c ar rl e post
  have rl := rl rfl
  unfold extM2 at e
  split at e
  · obtain ⟨v, rfl, r⟩ := rl1 rl
    split at e
    · rename_i h
      cases e
      obtain ⟨us, hH, r0⟩ := c
      unfold Rep at r
      obtain ⟨b, zs, rfl, nb, hb, r⟩ := r
      refine ⟨p, b, us, zs, rfl, rfl, hH, hb, ?_, post _ _ updKeep (by rw [updAt]; simp) ⟨_, updAt, ?_⟩ repNon⟩
      · rw [r0.len, r.len]
        exact Nat.le_trans h (by decide)
      · exact repLSide hp (RepL.app r0 r)
    · cases e
  · cases e
theorem ext2_lst {xs ys : List D} (h : xs.length + ys.length ≤ 16000000) : extM2 (.lst xs) [.lst ys] = some (.lst (xs ++ ys), .non) := if_pos h
noncomputable def nonInD : List D → Option (Bool × D)
  | [.non, .lst ds] => (match toPyL ds with
    | some ps => if PyData.canLayAll0 ps = true then some (false, .bl (ps.any fun z => PyData.eqv z .none)) else none
    | none => none)
  | _ => none
noncomputable def rNonD (K : PySem.W.Frag) : R2 := fun x y H Q => x = .non ∧ ∃ ds, Dp K H y (.list ds) ∧ PyData.canLayAll0 ds = true ∧ Q (.bl (ds.any fun z => PyData.eqv z .none)) H
theorem op_nonD {X : Cx} (hu : X.A.units + 1 < cLine) : OpR X (compareOp .In) (rNonD X.K) := by
  intro pins s σ H x y v u Q I rx ry h
  obtain ⟨rfl, ds, he, se, q⟩ := h
  obtain ⟨as, r1⟩ := Dp.reads I .none .non v .non rx
  obtain ⟨bs, r2⟩ := Dp.reads I (.list ds) y u he ry
  refine SeqAt.in_list_reads r2 r1 se rfl ?_ ⟨.bl _, H, I, rfl, q⟩
  have : min (PyData.depthAll ds) (PyData.depth .none) ≤ PyData.depth .none := Nat.min_le_right _ _
  have e : PyData.depth .none = 0 := by simp only [PyData.depth]
  omega
theorem prim_nonD {K : PySem.W.Frag} : Prim K (r2 (rNonD K)) nonInD := by
  intro U H ds vs Q b d hU ar e post
  unfold nonInD at e
  split at e
  · obtain ⟨v, w, rfl, h1, h2⟩ := ar2 ar
    split at e
    · rename_i ps hp
      split at e
      · rename_i c
        cases e
        obtain ⟨a, us, e1, ha, rl⟩ := h2
        exact ⟨_, _, rfl, arNon h1, ps, by rw [e1]; exact .lst (SqL.of ha) (dpL_of rl hp), c, post _ H (Ext.refl H) (fun _ => repBl) (fun z => by cases z)⟩
      · cases e
    · cases e
  · cases e
noncomputable def quietSl : Sl → Bool
  | .e => true
  | .v (.scr _) => true
  | .v d => flatD d
  | .o _ (.lst ds) => flatL ds
  | .o _ _ => false
noncomputable def quiet (en : En) : Bool := en.all quietSl
open Classical in
noncomputable def apS (i j : Nat) (dl : D) (ls : List Addr) (m : M R) : En → Fl := fun en => match m en with
  | .ok (.sh (.adr a _)) en2 => if a ∈ ls ∧ en2[i]? = some (.v dl) ∧ (∃ dj, en2[j]? = some (.v dj)) ∧ quiet ((en2.set i .e).set j .e) = true then .nx ((en2.set i (.v (appA a dl))).set j .e) else .bad
  | _ => .bad
noncomputable def blk1 (i j : Nat) (f1 : En → Fl) (m : M R) (f3 : En → Fl) (dl : D) (ls : List Addr) : En → Fl := fun en => seqF f1 (seqF (apS i j dl ls m) f3) (en.set i (.v dl))
open Classical in
noncomputable def blkX (i j : Nat) (f1 : En → Fl) (m : M R) (f3 : En → Fl) (G : En → En) : En → Fl := fun en => match en[i]? with
  | some (.o false d) => if okC d = true ∧ ∀ dl ls, LabC d dl ls → ls.Nodup → blk1 i j f1 m f3 dl ls en = .nx (G en) then .nx (G en) else .bad
  | _ => .bad
mutual
noncomputable def nLs : D → Nat
  | .lst _ => 1
  | .ow (.lst ds) => 1 + nLsL ds
  | .ow (.tup ds) => nLsL ds
  | _ => 0
noncomputable def nLsV : D → Nat
  | .ow c => nLs c
  | _ => 0
noncomputable def nLsL : List D → Nat
  | [] => 0
  | d :: ds => nLsV d + nLsL ds
end
mutual
theorem labC_n : ∀ {d dl : D} {ls : List Addr}, LabC d dl ls → ls.length = nLs d
  | .lst ds, dl, ls, l => by
    unfold LabC at l
    obtain ⟨a, _, e⟩ := l
    unfold nLs
    rw [e]
    rfl
  | .ow (.lst ds), dl, ls, l => by
    unfold LabC at l
    obtain ⟨a, dls, l1, _, h, e⟩ := l
    unfold nLs
    rw [e, List.length_cons, labL_n h]
    omega
  | .ow (.tup ds), dl, ls, l => by
    unfold LabC at l
    obtain ⟨dls, _, h⟩ := l
    unfold nLs
    rw [labL_n h]
  | .non, _, _, l => by unfold LabC at l; exact l.elim
  | .bl _, _, _, l => by unfold LabC at l; exact l.elim
  | .int _, _, _, l => by unfold LabC at l; exact l.elim
  | .str _, _, _, l => by unfold LabC at l; exact l.elim
  | .tup _, _, _, l => by unfold LabC at l; exact l.elim
  | .dic _, _, _, l => by unfold LabC at l; exact l.elim
  | .obj _ _, _, _, l => by unfold LabC at l; exact l.elim
  | .scr _, _, _, l => by unfold LabC at l; exact l.elim
  | .exn _ _, _, _, l => by unfold LabC at l; exact l.elim
  | .adr _ _, _, _, l => by unfold LabC at l; exact l.elim
  | .ow .non, _, _, l => by unfold LabC at l; exact l.elim
  | .ow (.bl _), _, _, l => by unfold LabC at l; exact l.elim
  | .ow (.int _), _, _, l => by unfold LabC at l; exact l.elim
  | .ow (.str _), _, _, l => by unfold LabC at l; exact l.elim
  | .ow (.dic _), _, _, l => by unfold LabC at l; exact l.elim
  | .ow (.obj _ _), _, _, l => by unfold LabC at l; exact l.elim
  | .ow (.scr _), _, _, l => by unfold LabC at l; exact l.elim
  | .ow (.exn _ _), _, _, l => by unfold LabC at l; exact l.elim
  | .ow (.adr _ _), _, _, l => by unfold LabC at l; exact l.elim
  | .ow (.ow _), _, _, l => by unfold LabC at l; exact l.elim
theorem labV_n : ∀ {d dl : D} {ls : List Addr}, LabV d dl ls → ls.length = nLsV d
  | .ow d, dl, ls, l => by
    unfold LabV at l
    unfold nLsV
    exact labC_n l
  | .non, _, _, l => by unfold LabV at l; unfold nLsV; rw [l.2]; rfl
  | .bl _, _, _, l => by unfold LabV at l; unfold nLsV; rw [l.2]; rfl
  | .int _, _, _, l => by unfold LabV at l; unfold nLsV; rw [l.2]; rfl
  | .str _, _, _, l => by unfold LabV at l; unfold nLsV; rw [l.2]; rfl
  | .tup _, _, _, l => by unfold LabV at l; unfold nLsV; rw [l.2]; rfl
  | .lst _, _, _, l => by unfold LabV at l; unfold nLsV; rw [l.2]; rfl
  | .dic _, _, _, l => by unfold LabV at l; unfold nLsV; rw [l.2]; rfl
  | .obj _ _, _, _, l => by unfold LabV at l; unfold nLsV; rw [l.2]; rfl
  | .scr _, _, _, l => by unfold LabV at l; unfold nLsV; rw [l.2]; rfl
  | .exn _ _, _, _, l => by unfold LabV at l; unfold nLsV; rw [l.2]; rfl
  | .adr _ _, _, _, l => by unfold LabV at l; unfold nLsV; rw [l.2]; rfl
theorem labL_n : ∀ {ds dls : List D} {ls : List Addr}, LabL ds dls ls → ls.length = nLsL ds
  | [], dls, ls, l => by
    unfold LabL at l
    unfold nLsL
    rw [l.2]
    rfl
  | d :: ds, dls, ls, l => by
    unfold LabL at l
    obtain ⟨dl, t, l1, l2, _, q1, q2, e⟩ := l
    unfold nLsL
    rw [e, List.length_append, labV_n q1, labL_n q2]
end
noncomputable def popG (r i : Nat) : En → En := fun en => match en[r]?, en[i]? with
  | some (.o b (.lst [.int R])), some (.o _ d) => (en.set r (.o b (.lst [.int (R.fdiv (nLs d))]))).set i .e
  | _, _ => en
theorem quiet_at {k : Nat} {s : Sl} (q : quiet en = true) (e : en[k]? = some s) : quietSl s = true := List.all_eq_true.mp q _ (List.mem_of_getElem? e)
theorem quiet_o {b : Bool} (q : quietSl (.o b d) = true) : ∃ ds, d = .lst ds ∧ flatL ds = true := by
  cases d with
  | lst ds => exact ⟨ds, rfl, q⟩
  | _ => cases q
theorem quiet_v {a : Addr} {us : List V} (ha : H a = some (.lst us)) (t : ∀ b o, b ≠ a → H b = some o → ¬ U b → H' b = some o ∧ ¬ U' b) (q : quietSl (.v d) = true) (r : Rep K U H d v) : Rep K U' H' d v := by
  cases d with
  | scr ns =>
    unfold Rep at r ⊢
    obtain ⟨b, e, c⟩ := r
    refine ⟨b, e, ?_⟩
    rcases c with ⟨n, o, h⟩ | c
    · have nb : b ≠ a := fun z => by rw [z, ha] at h; cases h
      obtain ⟨h', n'⟩ := t b _ nb h n
      exact .inl ⟨n', o, h'⟩
    · exact .inr c
  | _ => exact flat_app ha t q r
theorem Good.appB {a : Addr} {us : List V} {dl d0 : D} {ls : List Addr} (G : Good K B H σ en) (ok : okC d0 = true) (lb : LabC d0 dl ls) (hm : a ∈ ls) (ei : en[i]? = some (.v dl)) (q : quiet ((en.set i .e).set j .e) = true) (ha : H a = some (.lst us)) :
    Good K B (upd H a (.lst (us ++ [.non]))) σ ((en.set i (.v (appA a dl))).set j .e) ∧ (∀ (k : Nat) (b : Bool) (d : D), ((en.set i (.v (appA a dl))).set j .e)[k]? = some (.o b d) → en[k]? = some (.o b d) ∧ ∀ p c, Rch (upd H a (.lst (us ++ [.non]))) d p c ↔ Rch H d p c) := by
  generalize hH' : upd H a (.lst (us ++ [.non])) = H'
  generalize hen : (en.set i (.v (appA a dl))).set j .e = en'
  have hat : H' a = some (.lst (us ++ [.non])) := by rw [← hH']; exact upd_same
  have hne : ∀ b, b ≠ a → H' b = H b := fun b h => by rw [← hH']; exact upd_ne h
  have gt : ∀ (k : Nat) (s : Sl), en'[k]? = some s → (s = .e) ∨ (k = i ∧ s = .v (appA a dl)) ∨ (en[k]? = some s ∧ quietSl s = true) := fun k s e => by
    rw [← hen] at e
    by_cases hj : k = j
    · subst hj
      rcases set_get e with ⟨_, z, _⟩ | ⟨n, _⟩
      · exact .inl z
      · exact absurd rfl n
    · rw [List.getElem?_set_ne (fun z => hj z.symm)] at e
      by_cases hi : k = i
      · subst hi
        rcases set_get e with ⟨_, z, _⟩ | ⟨n, _⟩
        · exact .inr (.inl ⟨rfl, z⟩)
        · exact absurd rfl n
      · rw [List.getElem?_set_ne (fun z => hi z.symm)] at e
        exact .inr (.inr ⟨e, quiet_at q (k := k) (by rw [List.getElem?_set_ne (fun z => hj z.symm), List.getElem?_set_ne (fun z => hi z.symm)]; exact e)⟩)
  have gto : ∀ (k : Nat) (b : Bool) (d : D), en'[k]? = some (.o b d) → en[k]? = some (.o b d) ∧ ∃ ds, d = .lst ds ∧ flatL ds = true := fun k b d e => by
    rcases gt k _ e with z | ⟨_, z⟩ | ⟨z, z2⟩
    · cases z
    · cases z
    · exact ⟨z, quiet_o z2⟩
  have rq : ∀ (k : Nat) (b : Bool) (d : D), en'[k]? = some (.o b d) → ∀ p c, Rch H' d p c ↔ Rch H d p c := fun k b d e p c => by
    obtain ⟨_, ds, z, _⟩ := gto k b d e
    subst z
    unfold Rch
    exact Iff.rfl
  obtain ⟨v0, s0, r0⟩ := G.rep i dl ei
  obtain ⟨na, _⟩ := labC_at ok lb r0 a hm
  have ou : ∀ c, Own H' σ en' c → Own H σ en c := fun c ⟨k, b, d, p, e, s, r⟩ => ⟨k, b, d, p, (gto k b d e).1, s, (rq k b d e p c).mp r⟩
  have uu : ∀ c, Un B H' σ en' c → Un B H σ en c := fun c z => z.imp id (ou c)
  have t : ∀ (b : Addr) (o : HO), b ≠ a → H b = some o → ¬ Un B H σ en b → H' b = some o ∧ ¬ Un B H' σ en' b := fun b o nb h n => ⟨by rw [hne b nb]; exact h, fun z => n (uu b z)⟩
  refine ⟨⟨by rw [← hen, List.length_set, List.length_set]; exact G.len, fun c hc => ?_, fun k d e => ?_, fun k b d e => ?_, fun k l p1 p2 c b1 b2 d1 d2 e1 e2 s1 s2 r1 r2 => ?_⟩, fun k b d e => ⟨(gto k b d e).1, rq k b d e⟩⟩
  · by_cases z : c = a
    · rw [z, hat]; exact fun y => by cases y
    · rw [hne c z]; exact G.all c hc
  · rcases gt k _ e with z | ⟨z1, z⟩ | ⟨z, z2⟩
    · cases z
    · cases z
      subst z1
      exact ⟨v0, s0, labC_app ha (fun z => na (uu a z)) hat t ok lb r0⟩
    · obtain ⟨v, s, r⟩ := G.rep k d z
      exact ⟨v, s, quiet_v ha t z2 r⟩
  · obtain ⟨z, ds, ed, fl⟩ := gto k b d e
    obtain ⟨p, s, n, c⟩ := G.own k b d z
    subst ed
    refine ⟨p, s, fun c r => n c ((rq k b _ e p c).mp r), ?_⟩
    obtain ⟨vs, h, r⟩ := c
    have np : p ≠ a := fun y => na (by rw [← y]; exact .inr ⟨k, b, _, p, z, s, Rch.self⟩)
    exact ⟨vs, by rw [hne p np]; exact h, flatL_app ha t fl r⟩
  · exact G.inj k l p1 p2 c b1 b2 d1 d2 (gto _ _ _ e1).1 (gto _ _ _ e2).1 s1 s2 ((rq k b1 d1 e1 p1 c).mp r1) ((rq l b2 d2 e2 p2 c).mp r2)
theorem Good.lab (G : Good K B H σ en) (e : en[i]? = some (.o false d)) (ok : okC d = true) : ∃ p dl ls, σ[i]? = some (some (.ref p)) ∧ LabC d dl ls ∧ ls.Nodup ∧ (∀ a ∈ ls, Rch H d p a) ∧ Good K B H σ (en.set i (.v dl)) ∧ (∀ a, Own H σ (en.set i (.v dl)) a → Own H σ en a ∧ ¬ Rch H d p a) := by
  obtain ⟨p, s, n, c⟩ := G.own i false d e
  have hi : i < (en.set i .e).length := by rw [List.length_set]; exact (List.getElem?_eq_some_iff.mp e).1
  have t : ∀ a, Un B H σ (en.set i .e) a → Un B H σ en a := fun a h => h.imp id own_set_e
  have np : ∀ a, Rch H d p a → ¬ Un B H σ (en.set i .e) a := fun a r h => by
    rcases h with h | h
    · exact n a r h
    · exact (own_drop G e s (fun _ _ z => by cases z) h).2 r
  obtain ⟨dl, ls, l1, r, l3, l4⟩ := labC_ex (U' := Un B H σ (en.set i .e)) (fun a o x n => ⟨x, fun z => n (t a z)⟩) ok (con_iff.mpr c) np
  have G2 := Good.set_v (G.moved e s) (B := B) (fun a h => .inl h) hi r
  rw [set_eqs s, List.set_set] at G2
  exact ⟨p, dl, ls, s, l1, l3, l4, G2, fun a h => own_drop G e s (fun _ _ z => by cases z) h⟩
theorem blkImp {f1 f3 : En → Fl} {m2 : M R} {Gf : En → En} {D0 : Ends} (m : RdS K W (blkX i j f1 m2 f3 Gf) D0 σ H) : tSeq (RdS K W f1) (tSeq (tDrop (tBM K "list" rAppend (RdE K W m2) (tCons (tC .non) tNil))) (RdS K W f3)) D0 σ H := by
  obtain ⟨B, en, G, m⟩ := RdS.qs m
  unfold blkX at m
  cases e : en[i]? with
  | none => rw [e] at m; exact m.elim
  | some sl =>
    rw [e] at m
    cases sl with
    | e => exact m.elim
    | v d => exact m.elim
    | o b d =>
      cases b with
      | true => exact m.elim
      | false =>
        dsimp only at m
        by_cases hc : okC d = true ∧ ∀ dl ls, LabC d dl ls → ls.Nodup → blk1 i j f1 m2 f3 dl ls en = .nx (Gf en)
        · rw [if_pos hc] at m
          obtain ⟨ok, hF⟩ := hc
          obtain ⟨p, dl, ls, s, lb, nd, lr, GF, ow⟩ := G.lab e ok
          have hF := hF dl ls lb nd
          unfold blk1 seqF at hF
          have hil : i < en.length := get_lt e
          refine ⟨B, en.set i (.v dl), GF, ?_⟩
          cases e1 : f1 (en.set i (.v dl)) with
          | bad => rw [e1] at hF; cases hF
          | rt _ _ => rw [e1] at hF; cases hF
          | bk _ => rw [e1] at hF; cases hF
          | ct _ => rw [e1] at hF; cases hF
          | exc _ _ => rw [e1] at hF; cases hF
          | nx en1 =>
            rw [e1] at hF
            dsimp only at hF ⊢
            intro σ1 H1 G1 st1
            refine ⟨B, en1, G1, ?_⟩
            unfold apS at hF
            cases e2 : m2 en1 with
            | bad => rw [e2] at hF; cases hF
            | exc _ _ => rw [e2] at hF; cases hF
            | ok r en2 =>
              rw [e2] at hF
              cases r with
              | fr _ => cases hF
              | sl _ => cases hF
              | sh dr =>
                cases dr with
                | adr a dx =>
                  dsimp only at hF ⊢
                  by_cases hd : a ∈ ls ∧ en2[i]? = some (.v dl) ∧ (∃ dj, en2[j]? = some (.v dj)) ∧ quiet ((en2.set i .e).set j .e) = true
                  · rw [if_pos hd] at hF
                    obtain ⟨hm, ei2, ⟨dj, ej2⟩, qq⟩ := hd
                    dsimp only at hF
                    intro v2 H2 ⟨B2, b2, G2', ra, fn⟩ st2
                    have G2 := G2'.mono b2.up
                    have ra : Rep K _ H2 (.adr a dx) v2 := ra
                    unfold Rep at ra
                    obtain ⟨ev, _⟩ := ra
                    subst ev
                    obtain ⟨v0, s0, r0⟩ := G2.rep i dl ei2
                    obtain ⟨na, us, hus, hl⟩ := labC_at ok lb r0 a hm
                    refine ⟨.inl ⟨rfl, us, SqL.of hus⟩, ?_⟩
                    refine ⟨a, us, .non, rfl, rfl, hus, line_ok (by omega), ?_⟩
                    obtain ⟨G3, go⟩ := G2.appB ok lb hm ei2 qq hus
                    have st := st1.trans st2
                    refine ⟨B, _, G3, ?_⟩
                    have rf := lr a hm
                    have lt : ∀ {k : Nat}, k ≠ i → (en.set i (.v dl))[k]? = en[k]? := fun {k} h => List.getElem?_set_ne (fun z => h z.symm)
                    have oF : ∀ {c}, OwnF H σ (en.set i (.v dl)) c → OwnF H σ en c := fun {c} ⟨k, d', q, e', s', r'⟩ => by
                      rcases set_get e' with ⟨_, z, _⟩ | ⟨_, z⟩
                      · cases z
                      · exact ⟨k, d', q, z, s', r'⟩
                    have st3 : Stp σ en H σ1 ((en2.set i (.v (appA a dl))).set j .e) (upd H2 a (.lst (us ++ [.non]))) := {
                      len := by
                        rw [List.length_set, List.length_set]
                        have := st.len
                        rw [List.length_set] at this
                        exact this
                      fr := fun c o h n => by
                        have hca : c ≠ a := fun z => n (by rw [z]; exact ⟨i, false, d, p, e, s, rf⟩)
                        rw [upd_ne hca]
                        exact st.fr c o h fun z => n (ow c z).1
                      al := fun c h => by
                        by_cases z : c = a
                        · rw [z, upd_same]; exact fun y => by cases y
                        · rw [upd_ne z]; exact st.al c h
                      ow := fun c ⟨k, b, d', q, e', s', r'⟩ => by
                        obtain ⟨z1, z2⟩ := go k b d' e'
                        exact (st.ow c ⟨k, b, d', q, z1, s', (z2 q c).mp r'⟩).imp (fun y => (ow c y).1) id
                      of := fun c ⟨k, d', q, e', s', r'⟩ => by
                        obtain ⟨z1, z2⟩ := go k false d' e'
                        exact (st.of c ⟨k, d', q, z1, s', (z2 q c).mp r'⟩).imp oF id
                      pin := fun k d' e' => by
                        have hk : k ≠ i := fun z => by rw [z, e] at e'; cases e'
                        obtain ⟨z1, d2, z2⟩ := st.pin k d' (by rw [lt hk]; exact e')
                        have hj : k ≠ j := fun z => by rw [z, ej2] at z2; cases z2
                        exact ⟨z1, d2, by rw [List.getElem?_set_ne (fun z => hj z.symm), List.getElem?_set_ne (fun z => hk z.symm)]; exact z2⟩
                      pb := fun k d' e' => by
                        obtain ⟨z1, _⟩ := go k true d' e'
                        obtain ⟨d2, z2⟩ := st.pb k d' z1
                        rcases set_get z2 with ⟨_, y, _⟩ | ⟨_, y⟩
                        · cases y
                        · exact ⟨d2, y⟩
                      pr := fun k d1 d2 q c e1' e2' s' r' => by
                        obtain ⟨z1, z2⟩ := go k true d2 e2'
                        have hk : k ≠ i := fun z => by rw [z, e] at e1'; cases e1'
                        rcases st.pr k d1 d2 q c (by rw [lt hk]; exact e1') z1 s' ((z2 q c).mp r') with y | y | y
                        · exact .inl y
                        · exact .inr (.inl y)
                        · exact .inr (.inr (oF y)) }
                    rw [hF]
                    exact fun σ4 H4 G4 st4 => m σ4 H4 G4 (st3.trans st4)
                  · rw [if_neg hd] at hF; cases hF
                | _ => cases hF
        · rw [if_neg hc] at m; exact m.elim
end
section
variable {X : Cx} {W : WX} {pos p2 : Pos} {e o : Expr} {f : M R} {st1 : Stmt} {rest : List Stmt} {f1 f3 : En → Fl} {m2 : M R} {Gf : En → En} {i j : Nat} {apos cpos epos npos : Pos} {jj : Option Str}
theorem e_ul (h : PE X e (RdE X.K W f)) : PE X e (RdE X.K W (ulF f)) := pe_imp h fun σ H Q m => ulImp m
theorem s_blk {kk : Nat} (h1 : PS X st1 (RdS X.K W f1)) (h2 : PE X o (RdE X.K W m2)) (h3 : PSs X rest (RdS X.K W f3)) (hs : swapsWith (.Call (.Attribute o "append" apos) [.Constant .none kk npos] [] cpos) none epos.line X.env = pure false := by rfl)
    (hbase : attributeBase o "append" X.env (eval o X.env) = eval o X.env := by rfl)
    (hline : (apos.endLine == cpos.line) = true := by rfl) :
    PSs X (st1 :: .Expr (.Call (.Attribute o "append" apos) [.Constant .none kk npos] [] cpos) epos :: rest) (RdS X.K W (blkX i j f1 m2 f3 Gf)) :=
  pss_imp (pss_cons h1 (pss_cons (ps_expr (pe_bm PySem.F.plainAttrs_list PySem.F.slot_list_append PySem.F.type_list_append mt_append h2 (pa_cons pe_non pa_nil) hbase rfl hline rfl rfl) hs) h3)) fun D σ H m => blkImp m
end
end PyD

namespace PyD
open PySem PySem.Spec L2
section
variable {en : En} {k : R → En → Prop} {kb : Bool → En → Prop} {x : Ex → En → Prop} {ks : Fl → Prop} {i j : Nat} {f : M R} {fs : M (List R)} {t : M Bool} {f1 f3 : En → Fl} {m : M R} {G : En → En} {d d' dl : D} {ls : List Addr}
theorem ok_tupN : okE (tupN fs) en k x = okE fs en (fun rs en1 => okL (owns rs) fun ds => (decide (ds.length ≤ 1000) && ds.any isOw) = true ∧ k (.fr (.ow (.tup ds))) en1) x := by
  unfold okE tupN
  cases fs en with
  | bad => rfl
  | exc e en1 => rfl
  | ok rs en1 =>
    dsimp only
    cases owns rs with
    | none => rfl
    | some ds =>
      dsimp only [okL]
      cases decide (ds.length ≤ 1000) && ds.any isOw <;> simp
theorem ok_ul : okE (ulF f) en k x = okE f en (fun r en1 => okL (unR r) fun r' => k r' en1) x := by
  unfold okE ulF
  cases f en with
  | bad => rfl
  | exc e en1 => rfl
  | ok r en1 =>
    dsimp only
    cases unR r <;> rfl
noncomputable def xK (i : Nat) (en1 : En) (k : Fl → Prop) (r : R) (_ : Tg k := ⟨⟩) : Prop := match r with
  | .sh d => k (.nx (en1.set i (.v d)))
  | .fr d => k (.nx (en1.set i (.o false d)))
  | .sl _ => False
theorem xK_sh : xK i en ks (.sh d) = ks (.nx (en.set i (.v d))) := rfl
theorem xK_fr : xK i en ks (.fr d) = ks (.nx (en.set i (.o false d))) := rfl
theorem os_asX : okS (asX i f) en ks = okE f en (fun r en1 => freeAt en1 i = true ∧ xK i en1 ks r) fun e en => ks (.exc e en) := by
  unfold okE okS asX asO asV
  cases f en with
  | bad => rfl
  | exc e en1 => rfl
  | ok r en1 =>
    dsimp only
    cases r <;> dsimp only <;> cases freeAt en1 i <;> simp [xK]
theorem ok_thaw (he : en[i]? = some (.o false d)) (hs : strip d = d') (hf : flatBut i en = true) (h : okE t (en.set i (.v d')) (fun b en' => en' = en.set i (.v d') ∧ kb b en) fun _ _ => False) : okE (thawT i t) en kb x := by
  subst hs
  unfold okE at h ⊢
  unfold thawT
  rw [he]
  dsimp only
  cases e : t (en.set i (.v (strip d))) with
  | bad => rw [e] at h; exact h
  | exc _ _ => rw [e] at h; exact h.elim
  | ok b en' =>
    rw [e] at h
    dsimp only at h ⊢
    rw [if_pos ⟨h.1, hf⟩]
    exact h.2
theorem ok_thawV (he : en[i]? = some (.v d)) (h : okE t en kb x) : okE (thawT i t) en kb x := by
  unfold okE at h ⊢
  unfold thawT
  rw [he]
  exact h
theorem okS_eq {f : En → Fl} {o : Fl} (h : okS f en fun o' => o' = o) : f en = o := by
  unfold okS at h
  cases e : f en <;> rw [e] at h <;> first | exact h | exact h.elim
theorem os_blk (he : en[i]? = some (.o false d)) (hok : okC d = true) (h : ∀ dl ls, LabC d dl ls → ls.Nodup → okS (seqF f1 (seqF (apS i j dl ls m) f3)) (en.set i (.v dl)) fun o => o = .nx (G en)) (hk : ks (.nx (G en))) : okS (blkX i j f1 m f3 G) en ks := by
  unfold okS blkX
  rw [he]
  dsimp only
  rw [if_pos ⟨hok, fun dl ls lb nd => okS_eq (h dl ls lb nd)⟩]
  exact hk
noncomputable def apK (i j : Nat) (dl : D) (ls : List Addr) (k : Fl → Prop) (r : R) (en2 : En) (_ : Tg k := ⟨⟩) : Prop :=
  ∃ a c, r = .sh (.adr a c) ∧ a ∈ ls ∧ en2[i]? = some (.v dl) ∧ (∃ dj, en2[j]? = some (.v dj)) ∧ quiet ((en2.set i .e).set j .e) = true ∧ k (.nx ((en2.set i (.v (appA a dl))).set j .e))
theorem os_ap (h : okE m en (fun r en2 => apK i j dl ls ks r en2) fun _ _ => False) : okS (apS i j dl ls m) en ks := by
  unfold okE at h
  unfold okS apS
  cases e : m en with
  | bad => rw [e] at h; exact h.elim
  | exc _ _ => rw [e] at h; exact h.elim
  | ok r en2 =>
    rw [e] at h
    obtain ⟨a, c, rfl, h1, h2, h3, h4, h5⟩ := h
    dsimp only
    rw [if_pos ⟨h1, h2, h3, h4⟩]
    exact h5
end
end PyD

namespace PyD.S
open PySem PySem.Spec L2
noncomputable def b_llists (φ : List D → Out) : En → Fl :=
  (seqF (asO 1 (lstF (consF (opF ixUD (two (nmF 0) (cF (.int 1)))) nilF)))
  (seqF (endF [false, false, true] (frF (itA itD (one (ulF (opF ixUD (two (nmF 0) (cF (.int 1))))))) (gNm 2) (endF [false, false, true] (ifS (tstB (opF (isOp true) (two (nmF 2) (cF .non)))) (drF (mutF true 1 isLst extM2 (consF (callF [false] φ (consF (opF ixUD (two (nmF 2) (cF (.int 1)))) nilF)) nilF))) skF))))
  (rtF (mvF 1))))
noncomputable def phiN_llists : Nat → List D → Out
  | 0 => fun _ => .bad
  | n + 1 => runF [false] 2 (b_llists (phiN_llists n))
noncomputable def phi_llists : List D → Out := phiN_llists 14
end PyD.S

namespace PyD.S
open PySem PySem.Spec L2
noncomputable def b_lpick : En → Fl :=
  (seqF (asV 2 (opF modD (two (opF ixUD (two (nmF 0) (cF (.int 0)))) (nmF 1))))
  (seqF (stF 0 (cF (.int 0)) (opF fdvD (two (opF ixUD (two (nmF 0) (cF (.int 0)))) (nmF 1))) setD)
  (rtF (nmF 2))))
noncomputable def phi_lpick : List D → Out := runF [true, false] 1 b_lpick
end PyD.S

namespace PyD.S
open PySem PySem.Spec L2
noncomputable def b_lwhole : En → Fl :=
  (rtF (andF (opF (isiD "int") (one (nmF 0))) (notF (opF (isiD "bool") (one (nmF 0))))))
noncomputable def phi_lwhole : List D → Out := runF [false] 0 b_lwhole
end PyD.S

namespace PyD.S
open PySem PySem.Spec L2
noncomputable def b_ltouching : En → Fl :=
  (seqF (asO 2 (lstF nilF))
  (seqF (endF [false, false, false, true] (frF (itA rg1D (consF (opF lenD (consF (nmF 0) nilF)) nilF)) (gNm 3) (seqF (asV 4 (opF lrgD (two (opF max2D (consF (cF (.int 0)) (consF (opF addD (two (opF subD (two (nmF 3) (opF lenD (consF (nmF 1) nilF)))) (cF (.int 1)))) nilF))) (opF addD (two (nmF 3) (cF (.int 1)))))))
  (endF [false, false, false, true, true] (ifS (tstF (opF anyD (consF (lcF (itA itD (one (nmF 4))) (gNm 5) yesT (opF (eqOp false) (two (slF slD (nmF 0) (some (nmF 5)) (some (opF addD (two (nmF 5) (opF lenD (consF (nmF 1) nilF)))))) (nmF 1))) [5]) nilF))) (drF (mutF true 2 isLst appM (consF (nmF 3) nilF))) skF)))))
  (rtF (mvF 2))))
noncomputable def phi_ltouching : List D → Out := runF [false, false] 4 b_ltouching
end PyD.S

namespace PyD.S
open PySem PySem.Spec L2
noncomputable def b_lshows (φ : List D → Out) : En → Fl :=
  (seqF (ifS (orT (notT (tstF (opF (isiD "tuple") (one (nmF 3))))) (tstB (opF (eqOp true) (two (opF lenD (consF (nmF 3) nilF)) (cF (.int 2)))))) (rtF (cF (.bl false))) skF)
  (seqF (ifS (orT (notT (tstF (opF (isiD "str") (one (opF ixUD (two (nmF 3) (cF (.int 0)))))))) (notT (tstF (opF (isiD "list") (one (opF ixUD (two (nmF 3) (cF (.int 1))))))))) (rtF (cF (.bl false))) skF)
  (seqF (ifS (orT (tstB (opF (eqOp false) (two (opF ixUD (two (nmF 3) (cF (.int 0)))) (cF (.str (tx [])))))) (tstB (opF ltD (two (bmF isStr findD (nmF 0) (consF (opF ixUD (two (nmF 3) (cF (.int 0)))) nilF)) (cF (.int 0)))))) (rtF (cF (.bl false))) skF)
  (seqF (asV 4 (callF [false, false] phi_ltouching (consF (nmF 0) (consF (opF ixUD (two (nmF 3) (cF (.int 0)))) nilF))))
  (seqF (ifS (tstF (opF anyD (consF (lcF (itA itD (one (nmF 4))) (gNm 6) yesT (opF (inUD false) (two (nmF 6) (nmF 1))) [6]) nilF))) (rtF (cF (.bl false))) skF)
  (seqF (ifS (tstB (opF (eqOp false) (two (nmF 2) (cF (.int 0))))) (rtF (opF (eqOp false) (two (opF ixUD (two (nmF 3) (cF (.int 1)))) (lstF nilF)))) skF)
  (seqF (endF [false, false, false, false, false, true] (frF (itA itD (one (opF ixUD (two (nmF 3) (cF (.int 1)))))) (gNm 5) (endF [false, false, false, false, false, true] (ifS (orT (notT (tstF (opF (isiD "tuple") (one (nmF 5))))) (orT (tstB (opF (eqOp true) (two (opF lenD (consF (nmF 5) nilF)) (cF (.int 2))))) (notT (tstF (callF [false] phi_lwhole (consF (opF ixUD (two (nmF 5) (cF (.int 0)))) nilF)))))) (rtF (cF (.bl false))) skF))))
  (seqF (endF [false, false, false, false, true] (ifS (tstB (opF (eqOp true) (two (lcF (itA itD (one (opF ixUD (two (nmF 3) (cF (.int 1)))))) (gNm 5) yesT (opF ixUD (two (nmF 5) (cF (.int 0)))) [5]) (nmF 4)))) (rtF (cF (.bl false))) skF))
  (rtF (opF allD (consF (lcF (itA itD (one (opF ixUD (two (nmF 3) (cF (.int 1)))))) (gTp [6, 7]) yesT (callF [false, false, false, false] φ (consF (nmF 0) (consF (opF addD (two (nmF 1) (lstF (consF (nmF 6) nilF)))) (consF (opF subD (two (nmF 2) (cF (.int 1)))) (consF (nmF 7) nilF))))) [6, 7]) nilF)))))))))))
noncomputable def phiN_lshows : Nat → List D → Out
  | 0 => fun _ => .bad
  | n + 1 => runF [false, false, false, false] 4 (b_lshows (phiN_lshows n))
noncomputable def phi_lshows : List D → Out := phiN_lshows 14
end PyD.S

namespace PyD.S
open PySem PySem.Spec L2
noncomputable def b_lmissed : En → Fl :=
  (seqF (endF [false, false, true] (frF (itA rg2D (consF (cF (.int 1)) (consF (opF addD (two (opF lenD (consF (nmF 0) nilF)) (cF (.int 1)))) nilF))) (gNm 2) (seqF (asO 3 dicF)
  (seqF (endF [false, false, true, false, true] (frF (itA rg1D (consF (opF addD (two (opF subD (two (opF lenD (consF (nmF 0) nilF)) (nmF 2))) (cF (.int 1)))) nilF)) (gNm 4) (bodF [false, false, false, false, true, false, true, true]
  (seqF (asV 6 (slF slD (nmF 0) (some (nmF 4)) (some (opF addD (two (nmF 4) (nmF 2))))))
  (seqF (asV 7 (opF anyD (consF (lcF (itA itD (one (nmF 1))) (gNm 8) yesT (chF (fun i j => decide (i ≤ j)) (fun i j => !decide (j < i)) (fun i j => decide (i < j)) (fun i j => decide (i < j)) (nmF 4) (nmF 8) (opF addD (two (nmF 4) (nmF 2)))) [8]) nilF)))
  (stF 3 (nmF 6) (orF (bmF isDic getD2 (nmF 3) (consF (nmF 6) (consF (cF (.bl false)) nilF))) (nmF 7)) setD))))))
  (seqF (asV 5 (lcF (itA itD (one (opF sortUD (consF (nmF 3) nilF)))) (gNm 6) (notT (tstF (opF ixUD (two (nmF 3) (nmF 6))))) (nmF 6) [6]))
  (endF [false, false, false, true, false, true] (ifS (tstB (opF (eqOp true) (two (nmF 5) (lstF nilF)))) (rtF (opF ixUD (two (nmF 5) (cF (.int 0))))) skF)))))))
  (rtF (cF .non)))
noncomputable def phi_lmissed : List D → Out := runF [false, false] 7 b_lmissed
end PyD.S

namespace PyD.S
open PySem PySem.Spec L2
noncomputable def b_missed_of : En → Fl :=
  (seqF (asO 3 dicF)
  (seqF (asO 4 dicF)
  (seqF (endF [false, false, false, false, true, true] (frF (itA rg1D (consF (opF addD (two (opF subD (two (opF lenD (consF (nmF 0) nilF)) (nmF 2))) (cF (.int 1)))) nilF)) (gNm 5) (seqF (asV 6 (slF slD (nmF 0) (some (nmF 5)) (some (opF addD (two (nmF 5) (nmF 2))))))
  (endF [false, false, false, false, false, true, true] (ifS (tstB (opF gtD (two (opF ixUD (two (nmF 1) (opF addD (two (nmF 5) (nmF 2))))) (opF ixUD (two (nmF 1) (nmF 5)))))) (seqF (stF 4 (nmF 6) (cF (.bl true)) setD)
  (drF (mutF true 3 isDic popD2 (consF (nmF 6) (consF (cF .non) nilF))))) (endF [false, false, false, false, false, true, true] (ifS (tstB (opF (inUD true) (two (nmF 6) (nmF 4)))) (stF 3 (nmF 6) (cF (.bl true)) setD) skF)))))))
  (rtF (opF listD (consF (nmF 3) nilF))))))
noncomputable def phi_missed_of : List D → Out := runF [false, false, false] 4 b_missed_of
end PyD.S

namespace PyD.S
open PySem PySem.Spec L2
noncomputable def b_touching : En → Fl :=
  (seqF (asO 2 dicF)
  (seqF (endF [false, false, false, true] (frF (itA rg1D (consF (opF addD (two (opF subD (two (opF lenD (consF (nmF 0) nilF)) (opF lenD (consF (nmF 1) nilF)))) (cF (.int 1)))) nilF)) (gNm 3) (endF [false, false, false, true] (ifS (tstB (opF (eqOp false) (two (slF slD (nmF 0) (some (nmF 3)) (some (opF addD (two (nmF 3) (opF lenD (consF (nmF 1) nilF)))))) (nmF 1)))) (endF [false, false, false, true, true] (frF (itA rg1D (consF (opF lenD (consF (nmF 1) nilF)) nilF)) (gNm 4) (bodF [false, false, false, false, true]
  (stF 2 (opF addD (two (nmF 3) (nmF 4))) (cF (.bl true)) setD)))) skF))))
  (rtF (opF sortUD (consF (nmF 2) nilF)))))
noncomputable def phi_touching : List D → Out := runF [false, false] 3 b_touching
end PyD.S

namespace PyD.S
open PySem PySem.Spec L2
noncomputable def b_pins_ahead : En → Fl :=
  (seqF (asO 2 (lstF (consF (cF (.int 0)) nilF)))
  (seqF (endF [false, false, false, true] (frF (itA rg1D (consF (opF lenD (consF (nmF 0) nilF)) nilF)) (gNm 3) (bodF [false, false, false, true]
  (drF (mutF true 2 isLst appM (consF (opF addD (two (opF ixUD (two (nmF 2) (opF negD (one (cF (.int 1)))))) (opF intD (consF (opF (inUD false) (two (nmF 3) (nmF 1))) nilF)))) nilF))))))
  (rtF (mvF 2))))
noncomputable def phi_pins_ahead : List D → Out := runF [false, false] 2 b_pins_ahead
end PyD.S

namespace PyD.S
open PySem PySem.Spec L2
noncomputable def b_tightest : En → Fl :=
  (seqF (asV 2 (callF [false, false] phi_pins_ahead (consF (nmF 0) (consF (nmF 1) nilF))))
  (seqF (asV 3 (cF .non))
  (seqF (endF [false, false, true, false, true] (frF (itA rg2D (consF (cF (.int 1)) (consF (opF addD (two (opF lenD (consF (nmF 0) nilF)) (cF (.int 1)))) nilF))) (gNm 4) (endF [false, false, false, false, true, true] (frF (itA itD (one (callF [false, false, false] phi_missed_of (consF (nmF 0) (consF (nmF 2) (consF (nmF 4) nilF)))))) (gNm 5) (seqF (asV 6 (callF [false, false] phi_touching (consF (nmF 0) (consF (nmF 5) nilF))))
  (endF [false, false, false, false, false, true, true] (ifS (orT (tstB (opF (isOp false) (two (nmF 3) (cF .non)))) (tstB (opF ltD (two (opF lenD (consF (nmF 6) nilF)) (opF lenD (consF (opF ixUD (two (nmF 3) (cF (.int 1)))) nilF)))))) (asV 3 (tupF (consF (nmF 5) (consF (nmF 6) nilF)))) skF)))))))
  (rtF (nmF 3)))))
noncomputable def phi_tightest : List D → Out := runF [false, false] 5 b_tightest
end PyD.S

namespace PyD.S
open PySem PySem.Spec L2
noncomputable def b_tree_for_v2 (φ : List D → Out) : En → Fl :=
  (seqF (asG (gTp [3, 4]) (callF [false, false] phi_tightest (consF (nmF 0) (consF (nmF 1) nilF))))
  (seqF (ifS (tstB (opF (eqOp false) (two (nmF 2) (cF (.int 0))))) (rtF (tupN (consF (nmF 3) (consF (lstF nilF) nilF)))) skF)
  (rtF (tupN (consF (nmF 3) (consF (lcNF (itA itD (one (nmF 4))) (gNm 5) yesT (tupN (consF (nmF 5) (consF (callF [false, false, false] φ (consF (nmF 0) (consF (opF addD (two (nmF 1) (tupF (consF (nmF 5) nilF)))) (consF (opF subD (two (nmF 2) (cF (.int 1)))) nilF)))) nilF))) [5]) nilF))))))
noncomputable def phiN_tree_for_v2 : Nat → List D → Out
  | 0 => fun _ => .bad
  | n + 1 => runF [false, false, false] 3 (b_tree_for_v2 (phiN_tree_for_v2 n))
noncomputable def phi_tree_for_v2 : List D → Out := phiN_tree_for_v2 14
end PyD.S

namespace PyD.S
open PySem PySem.Spec L2
noncomputable def b_pins_within (φ : List D → Out) : En → Fl :=
  (seqF (asV 3 (callF [false, false] phi_tightest (consF (nmF 0) (consF (nmF 1) nilF))))
  (seqF (ifS (tstB (opF (isOp false) (two (nmF 3) (cF .non)))) (rtF (nmF 1)) skF)
  (seqF (ifS (tstB (opF (eqOp false) (two (nmF 2) (cF (.int 0))))) (rtF (cF .non)) skF)
  (seqF (endF [false, false, false, true, true] (frF (itA itD (one (opF ixUD (two (nmF 3) (cF (.int 1)))))) (gNm 4) (seqF (asV 5 (callF [false, false, false] φ (consF (nmF 0) (consF (opF addD (two (nmF 1) (tupF (consF (nmF 4) nilF)))) (consF (opF subD (two (nmF 2) (cF (.int 1)))) nilF)))))
  (endF [false, false, false, false, true, true] (ifS (tstB (opF (isOp true) (two (nmF 5) (cF .non)))) (rtF (nmF 5)) skF)))))
  (rtF (cF .non))))))
noncomputable def phiN_pins_within : Nat → List D → Out
  | 0 => fun _ => .bad
  | n + 1 => runF [false, false, false] 3 (b_pins_within (phiN_pins_within n))
noncomputable def phi_pins_within : List D → Out := phiN_pins_within 14
end PyD.S

namespace PyD.S
open PySem PySem.Spec L2
noncomputable def b_least_v3 : En → Fl :=
  (seqF (ifS (tstB (opF gtD (two (opF lenD (consF (nmF 0) nilF)) (cF (.int 12))))) badF skF)
  (seqF (asV 1 (cF (.int 0)))
  (seqF (asV 2 (callF [false, false, false] phi_pins_within (consF (nmF 0) (consF (tupF nilF) (consF (cF (.int 0)) nilF)))))
  (seqF (whF (tstB (opF (isOp false) (two (nmF 2) (cF .non)))) (seqF (asV 1 (opF addD (two (nmF 1) (cF (.int 1)))))
  (asV 2 (callF [false, false, false] phi_pins_within (consF (nmF 0) (consF (tupF nilF) (consF (nmF 1) nilF)))))) 100000)
  (seqF (ifS (tstB (opF (eqOp false) (two (nmF 1) (cF (.int 0))))) (rtF (tupF (consF (cF (.int 0)) (consF (tupF nilF) (consF (cF .non) nilF))))) skF)
  (rtF (tupN (consF (nmF 1) (consF (opF tupleD (consF (opF sortUD (consF (nmF 2) nilF)) nilF)) (consF (callF [false, false, false] phi_tree_for_v2 (consF (nmF 0) (consF (tupF nilF) (consF (opF subD (two (nmF 1) (cF (.int 1)))) nilF)))) nilF))))))))))
noncomputable def phi_least_v3 : List D → Out := runF [false] 2 b_least_v3
end PyD.S

namespace PyD.S
open PySem PySem.Spec L2
noncomputable def b_ltext_v2 : En → Fl :=
  (seqF (asV 2 (opF ixUD (two (lstF (consF (cF (.str (tx [97]))) (consF (cF (.str (tx [97, 98]))) (consF (cF (.str (tx [98, 97, 99]))) (consF (cF (.str (tx [122, 121, 120, 119]))) nilF))))) (callF [true, false] phi_lpick (consF (nmF 0) (consF (cF (.int 4)) nilF))))))
  (seqF (asV 3 (callF [true, false] phi_lpick (consF (nmF 0) (consF (opF addD (two (nmF 1) (cF (.int 1)))) nilF))))
  (seqF (asV 4 (callF [true, false] phi_lpick (consF (nmF 0) (consF (cF (.int 5)) nilF))))
  (seqF (asV 5 (lcF (itA rg1D (consF (opF addD (two (cF (.int 1)) (callF [true, false] phi_lpick (consF (nmF 0) (consF (cF (.int 5)) nilF))))) nilF)) (gNm 10) yesT (opF ixUD (two (nmF 2) (callF [true, false] phi_lpick (consF (nmF 0) (consF (opF lenD (consF (nmF 2) nilF)) nilF))))) [10]))
  (seqF (asV 6 (bmF isStr joinD (cF (.str (tx []))) (consF (nmF 5) nilF)))
  (seqF (endF [false, false, false, false, false, true] (ifS (tstB (opF (eqOp false) (two (nmF 4) (cF (.int 1))))) (asV 6 (opF mulVD (two (nmF 6) (opF addD (two (nmF 1) (cF (.int 1))))))) skF))
  (seqF (endF [false, false, false, false, false, false, false, true] (ifS (tstB (opF (eqOp false) (two (nmF 4) (cF (.int 2))))) (seqF (endF [false, false, false, false, false, false, true] (asP 7 8 (consF (nmF 6) (consF (opF ixUD (two (nmF 2) (opF negD (one (cF (.int 1)))))) nilF))))
  (seqF (endF [false, false, false, false, false, false, false, false, true] (whF (tstB (opF ltD (two (opF lenD (consF (nmF 7) nilF)) (nmF 3)))) (asP 7 8 (consF (opF addD (two (nmF 7) (nmF 8))) (consF (nmF 7) nilF))) 100000))
  (asV 6 (nmF 7)))) skF))
  (seqF (whF (andT (tstB (opF gtD (two (nmF 4) (cF (.int 2))))) (tstB (opF ltD (two (opF lenD (consF (nmF 6) nilF)) (nmF 3))))) (bodF [false, false, false, false, false, false, false, false, false, true]
  (seqF (asV 9 (callF [true, false] phi_lpick (consF (nmF 0) (consF (opF lenD (consF (nmF 6) nilF)) nilF))))
  (asV 6 (opF addD (two (opF addD (two (nmF 6) (slF slD (nmF 6) (some (nmF 9)) (some (opF addD (two (opF addD (two (nmF 9) (cF (.int 1)))) (callF [true, false] phi_lpick (consF (nmF 0) (consF (cF (.int 6)) nilF))))))))) (opF ixUD (two (nmF 2) (callF [true, false] phi_lpick (consF (nmF 0) (consF (opF lenD (consF (nmF 2) nilF)) nilF)))))))))) 100000)
  (seqF (endF [false, false, true, false, true] (whF (andT (tstB (opF (eqOp false) (two (nmF 4) (cF (.int 0))))) (tstB (opF ltD (two (opF lenD (consF (nmF 6) nilF)) (nmF 3))))) (asV 6 (opF addD (two (nmF 6) (opF ixUD (two (nmF 2) (callF [true, false] phi_lpick (consF (nmF 0) (consF (opF lenD (consF (nmF 2) nilF)) nilF)))))))) 100000))
  (rtF (slF slD (nmF 6) none (some (nmF 3)))))))))))))
noncomputable def phi_ltext_v2 : List D → Out := runF [true, false] 9 b_ltext_v2
end PyD.S

namespace PyD.S
open PySem PySem.Spec L2
noncomputable def b_lreel : En → Fl :=
  (seqF (asV 2 (opF addD (two (opF mulVD (two (cF (.int 6)) (nmF 1))) (cF (.int 5)))))
  (seqF (ifS (tstB (opF ltD (two (nmF 1) (opF lenD (consF (nmF 0) nilF))))) (asV 2 (opF ixUD (two (nmF 0) (nmF 1)))) skF)
  (seqF (ifS (tstB (opF (eqOp false) (two (opF modD (two (nmF 2) (cF (.int 5)))) (cF (.int 2))))) (rtF (lstF (consF (opF fdvD (two (nmF 2) (cF (.int 5)))) nilF))) skF)
  (seqF (asV 3 (opF modD (two (opF addD (two (opF addD (two (opF mulVD (two (opF modD (two (nmF 2) (cF (.int 2147483423)))) (cF (.int 60013)))) (opF mulVD (two (cF (.int 811)) (nmF 1))))) (cF (.int 23)))) (cF (.int 2147483423)))))
  (seqF (endF [false, false, true] (asV 4 (cF (.int 0))))
  (seqF (endF [false, false, false, true, false, true] (frF (itA rg1D (consF (cF (.int 60)) nilF)) (gNm 5) (bodF [false, false, false, false, false, true]
  (seqF (asV 3 (opF modD (two (opF addD (two (opF addD (two (opF addD (two (opF mulVD (two (nmF 3) (nmF 3))) (opF mulVD (two (cF (.int 70001)) (nmF 3))))) (opF mulVD (two (cF (.int 31)) (nmF 5))))) (cF (.int 9)))) (cF (.int 2147483423)))))
  (asV 4 (opF addD (two (opF mulVD (two (nmF 4) (cF (.int 2147483423)))) (nmF 3))))))))
  (rtF (lstF (consF (nmF 4) nilF)))))))))
noncomputable def phi_lreel : List D → Out := runF [false, false] 4 b_lreel
end PyD.S

namespace PyD.S
open PySem PySem.Spec L2
noncomputable def b_law_k10_v2 : En → Fl :=
  (seqF (endF [false, true] (frF (itA rg1D (consF (opF max2D (consF (cF (.int 2)) (consF (opF min2D (consF (cF (.int 4)) (consF (opF lenD (consF (nmF 0) nilF)) nilF))) nilF))) nilF)) (gNm 1) (seqF (asO 2 (callF [false, false] phi_lreel (consF (nmF 0) (consF (nmF 1) nilF))))
  (seqF (endF [false, true] (asV 3 (callF [true, false] phi_ltext_v2 (consF (nmF 2) (consF (cF (.int 12)) nilF)))))
  (endF [false, false, true, true, true] (frF (itA rg1D (consF (cF (.int 2)) nilF)) (gNm 4) (seqF (asX 5 (callF [false] phi_least_v3 (consF (nmF 3) nilF)))
  (seqF (endF [false, false, false, false, true] (ifS (thawT 5 (orT (notT (tstF (opF (isiD "tuple") (one (nmF 5))))) (orT (tstB (opF (eqOp true) (two (opF lenD (consF (nmF 5) nilF)) (cF (.int 3))))) (notT (tstF (callF [false] phi_lwhole (consF (opF ixUD (two (nmF 5) (cF (.int 0)))) nilF))))))) (rtF (cF (.bl false))) skF))
  (seqF (ifS (thawT 5 (orT (notT (tstF (opF (isiD "tuple") (one (opF ixUD (two (nmF 5) (cF (.int 1)))))))) (tstB (opF (eqOp true) (two (opF lenD (consF (opF ixUD (two (nmF 5) (cF (.int 1)))) nilF)) (opF ixUD (two (nmF 5) (cF (.int 0))))))))) (rtF (cF (.bl false))) skF)
  (seqF (ifS (thawT 5 (tstB (opF (eqOp true) (two (opF listD (consF (opF ixUD (two (nmF 5) (cF (.int 1)))) nilF)) (opF sortsetD (consF (opF ixUD (two (nmF 5) (cF (.int 1)))) nilF)))))) (rtF (cF (.bl false))) skF)
  (seqF (ifS (thawT 5 (notT (tstF (opF allD (consF (lcF (itA itD (one (opF ixUD (two (nmF 5) (cF (.int 1)))))) (gNm 7) yesT (andF (callF [false] phi_lwhole (consF (nmF 7) nilF)) (chF (fun i j => decide (i ≤ j)) (fun i j => !decide (j < i)) (fun i j => decide (i < j)) (fun i j => decide (i < j)) (cF (.int 0)) (nmF 7) (opF lenD (consF (nmF 3) nilF)))) [7]) nilF))))) (rtF (cF (.bl false))) skF)
  (seqF (ifS (thawT 5 (orT (tstB (opF (isOp true) (two (callF [false, false] phi_lmissed (consF (nmF 3) (consF (opF ixUD (two (nmF 5) (cF (.int 1)))) nilF))) (cF .non)))) (tstB (opF (eqOp true) (two (opF (isOp false) (two (opF ixUD (two (nmF 5) (cF (.int 2)))) (cF .non))) (opF (eqOp false) (two (opF ixUD (two (nmF 5) (cF (.int 0)))) (cF (.int 0))))))))) (rtF (cF (.bl false))) skF)
  (endF [false, false, false, false, false, true] (ifS (thawT 5 (tstB (opF gtD (two (opF ixUD (two (nmF 5) (cF (.int 0)))) (cF (.int 0)))))) (seqF (ifS (thawT 5 (notT (tstF (callF [false, false, false, false] phi_lshows (consF (nmF 3) (consF (lstF nilF) (consF (opF subD (two (opF ixUD (two (nmF 5) (cF (.int 0)))) (cF (.int 1)))) (consF (opF ixUD (two (nmF 5) (cF (.int 2)))) nilF)))))))) (rtF (cF (.bl false))) skF)
  (blkX 5 6 (asV 6 (callF [false] phi_llists (consF (opF ixUD (two (nmF 5) (cF (.int 2)))) nilF)))
  (opF ixUD (two (nmF 6) (callF [true, false] phi_lpick (consF (nmF 2) (consF (opF lenD (consF (nmF 6) nilF)) nilF)))))
  (endF [false, false, false, false, false, true, true] (ifS (tstB (opF (eqOp true) (two (opF lenD (consF (lcF (itA itD (one (callF [false] phi_llists (consF (opF ixUD (two (nmF 5) (cF (.int 2)))) nilF)))) (gNm 8) (tstB (opF nonInD (two (cF .non) (nmF 8)))) (nmF 8) [8]) nilF)) (cF (.int 1))))) (rtF (cF (.bl false))) skF)) (popG 2 5))) skF))))))))))))))
  (rtF (cF (.bl true))))
noncomputable def phi_law_k10_v2 : List D → Out := runF [false] 8 b_law_k10_v2
end PyD.S

section
set_option maxHeartbeats 2000000
namespace PyD.k10
open PySem PySem.Spec L2 PyD.S
noncomputable def topS (i : Nat) : Stmt := PySem.Challenge.pw_touchpin_k10_least_with_a_tree.main.body.getD i (.Pass ⟨0, 0, 0, 0⟩)
theorem lit_ : ("" : Str) = (tx []) := by decide +kernel
theorem lit_61 : ("a" : Str) = (tx [97]) := by decide +kernel
theorem lit_61_62 : ("ab" : Str) = (tx [97, 98]) := by decide +kernel
theorem lit_62_61_63 : ("bac" : Str) = (tx [98, 97, 99]) := by decide +kernel
theorem lit_7a_79_78_77 : ("zyxw" : Str) = (tx [122, 121, 120, 119]) := by decide +kernel
noncomputable abbrev st_llists : Stmt := topS 21
theorem sc_llists : FnScope ["tree", "found", "branch"] ["tree"] (defScope st_llists) := ⟨rfl, rfl, rfl, by decide +kernel, rfl, by decide +kernel, by decide +kernel⟩
theorem okN_llists {P : Program} {w : World} {K : PySem.W.Frag} {mg : Str → Option Value} {base : Heap} {f : Addr} {fd : FuncData} (F : Fun K "_law_lists" "_law_lists" st_llists f fd) (hm : mg "_law_lists" = some (.ref f)) : ∀ n : Nat, DefAt P w K mg base "_law_lists" (0 + n) ["tree"] [false] (phiN_llists n)
  | 0 => DefAt.bad F hm (F.binds (ps := ["tree"]) fun _ _ _ _ _ _ us hl => match us, hl with | [_], _ => rfl)
  | n + 1 => by
    have g_llists := okN_llists (P := P) (w := w) (base := base) F hm n
    refine DefAt.mk (lev := 0 + n) (k := 2) F hm (F.binds (ps := ["tree"]) fun _ _ _ _ _ _ us hl => match us, hl with | [_], _ => rfl) sc_llists rfl rfl (fun cdv A outer s H E hr => ?_) rfl
    have sc := sc_llists
    have tk : Takes (cxOf (L2.CX P w) P w K mg base ["tree", "found", "branch"] "_law_lists" (defScope st_llists) f cdv A outer s H E) (fun cls d _ H => E cls d H) := takes_of rfl rfl rfl rfl
    have ps : PassesOwn (model P w) (cxOf (L2.CX P w) P w K mg base ["tree", "found", "branch"] "_law_lists" (defScope st_llists) f cdv A outer s H E).A (cxOf (L2.CX P w) P w K mg base ["tree", "found", "branch"] "_law_lists" (defScope st_llists) f cdv A outer s H E).env (cxOf (L2.CX P w) P w K mg base ["tree", "found", "branch"] "_law_lists" (defScope st_llists) f cdv A outer s H E).xe := passes_of rfl
    exact ((s_cons (s_asO (i := 1) sc.nd (e_lstD (a_cons (e_ix (ix_U (hu_of hr)) prim_ixU (e_nm 0) e_int (fun _ _ => rfl)) a_nil)))
      (s_cons (s_end (s_for ps rfl (i_seq (e_ul (e_ix (ix_U (hu_of hr)) prim_ixU (e_nm 0) e_int (fun _ _ => rfl)))) (g_nm sc.nd) (s_one (s_end (s_if (t_cmp op_isnU prim_is (e_nm 2) e_non (nomark _)) (s_one (s_expr (e_mut ty_lst prim_extend2 PySem.F.plainAttrs_list PySem.F.slot_list_extend PySem.F.type_list_extend mt_extend (pv 1) (a_cons (e_callD g_llists (hr.mono (by omega)) tk (a_cons (e_ix (ix_U (hu_of hr)) prim_ixU (e_nm 2) e_int (fun _ _ => rfl)) a_nil)) a_nil)))) s_nil)))))
      (s_one (s_ret (e_mv 1))))))
theorem ok_llists {P : Program} {w : World} {K : PySem.W.Frag} {mg : Str → Option Value} {base : Heap} {f : Addr} {fd : FuncData} (F : Fun K "_law_lists" "_law_lists" st_llists f fd) (hm : mg "_law_lists" = some (.ref f)) : DefAt P w K mg base "_law_lists" 14 ["tree"] [false] phi_llists := okN_llists F hm 14
noncomputable abbrev st_lpick : Stmt := topS 15
theorem sc_lpick : FnScope ["reel", "many", "digit"] ["reel", "many"] (defScope st_lpick) := ⟨rfl, rfl, rfl, by decide +kernel, rfl, by decide +kernel, by decide +kernel⟩
theorem ok_lpick {P : Program} {w : World} {K : PySem.W.Frag} {mg : Str → Option Value} {base : Heap} {f : Addr} {fd : FuncData} (F : Fun K "_law_pick" "_law_pick" st_lpick f fd) (hm : mg "_law_pick" = some (.ref f)) :
    DefAt P w K mg base "_law_pick" 1 ["reel", "many"] [true, false] phi_lpick := by
  refine DefAt.mk (lev := 0) (k := 1) F hm (F.binds (ps := ["reel", "many"]) fun _ _ _ _ _ _ us hl => match us, hl with | [_, _], _ => rfl) sc_lpick rfl rfl (fun cdv A outer s H E hr => ?_) rfl
  have sc := sc_lpick
  exact ((s_cons (s_asV (i := 2) sc.nd (e_bin op_mod prim_mod (e_ix (ix_U (hu_of hr)) prim_ixU (e_nm 0) e_int (fun _ _ => rfl)) (e_nm 1)))
    (s_cons (s_sub (set_U (hu_of hr)) prim_set (e_bin op_fdivW prim_fdv (e_ix (ix_U (hu_of hr)) prim_ixU (e_nm 0) e_int (fun _ _ => rfl)) (e_nm 1)) (pv 0) e_int (by intro _; rfl))
    (s_one (s_ret (e_nm 2))))))
noncomputable abbrev st_lwhole : Stmt := topS 16
theorem sc_lwhole : FnScope ["thing"] ["thing"] (defScope st_lwhole) := ⟨rfl, rfl, rfl, by decide +kernel, rfl, by decide +kernel, by decide +kernel⟩
theorem ok_lwhole {P : Program} {w : World} {K : PySem.W.Frag} {mg : Str → Option Value} {base : Heap} {f : Addr} {fd : FuncData} (m_bool : mg "bool" = none) (m_int : mg "int" = none) (m_isinstance : mg "isinstance" = none) (F : Fun K "_law_whole" "_law_whole" st_lwhole f fd) (hm : mg "_law_whole" = some (.ref f)) :
    DefAt P w K mg base "_law_whole" 1 ["thing"] [false] phi_lwhole := by
  refine DefAt.mk (lev := 0) (k := 0) F hm (F.binds (ps := ["thing"]) fun _ _ _ _ _ _ us hl => match us, hl with | [_], _ => rfl) sc_lwhole rfl rfl (fun cdv A outer s H E hr => ?_) rfl
  have sc := sc_lwhole
  exact ((s_one (s_ret (e_and (e_isi (by rfl) m_isinstance (by rfl) m_int PyProof.Rows.boot_int (by rfl) (e_nm 0)) (e_one (e_not (e_isi (by rfl) m_isinstance (by rfl) m_bool PyProof.Rows.boot_bool (by rfl) (e_nm 0))))))))
noncomputable abbrev st_ltouching : Stmt := topS 19
theorem sc_ltouching : FnScope ["text", "piece", "found", "place", "starts", "start"] ["text", "piece"] (defScope st_ltouching) := ⟨rfl, rfl, rfl, by decide +kernel, rfl, by decide +kernel, by decide +kernel⟩
theorem ok_ltouching {P : Program} {w : World} {K : PySem.W.Frag} {mg : Str → Option Value} {base : Heap} {f : Addr} {fd : FuncData} (m_any : mg "any" = none) (m_len : mg "len" = none) (m_list : mg "list" = none) (m_max : mg "max" = none) (m_range : mg "range" = none) (F : Fun K "_law_touching" "_law_touching" st_ltouching f fd) (hm : mg "_law_touching" = some (.ref f)) :
    DefAt P w K mg base "_law_touching" 1 ["text", "piece"] [false, false] phi_ltouching := by
  refine DefAt.mk (lev := 0) (k := 4) F hm (F.binds (ps := ["text", "piece"]) fun _ _ _ _ _ _ us hl => match us, hl with | [_, _], _ => rfl) sc_ltouching rfl rfl (fun cdv A outer s H E hr => ?_) rfl
  have sc := sc_ltouching
  have ps : PassesOwn (model P w) (cxOf (L2.CX P w) P w K mg base ["text", "piece", "found", "place", "starts", "start"] "_law_touching" (defScope st_ltouching) f cdv A outer s H E).A (cxOf (L2.CX P w) P w K mg base ["text", "piece", "found", "place", "starts", "start"] "_law_touching" (defScope st_ltouching) f cdv A outer s H E).env (cxOf (L2.CX P w) P w K mg base ["text", "piece", "found", "place", "starts", "start"] "_law_touching" (defScope st_ltouching) f cdv A outer s H E).xe := passes_of rfl
  exact ((s_cons (s_asO (i := 2) sc.nd (e_lstD a_nil))
    (s_cons (s_end (s_for ps rfl (i_rg1 (by rfl) m_range (a_cons (e_callB cr_lenU prim_len (by rfl) m_len PySem.boot_len (a_cons (e_nm 0) a_nil)) a_nil)) (g_nm sc.nd) (s_cons (s_asV (i := 4) sc.nd (e_lrg2 (by rfl) m_list (by rfl) m_range rfl (e_callB (call_max2 rfl) prim_max2 (by rfl) m_max PyProof.Rows.boot_max (a_cons e_int (a_cons (e_bin op_addU prim_add (e_bin op_subU prim_sub (e_nm 3) (e_callB cr_lenU prim_len (by rfl) m_len PySem.boot_len (a_cons (e_nm 1) a_nil))) e_int) a_nil))) (e_bin op_addU prim_add (e_nm 3) e_int)))
    (s_one (s_end (s_if (t_truth (e_callB (cr_any rfl) prim_any (by rfl) m_any PyProof.Rows.boot_any (a_cons (e_lc (own := [("start", 5)]) (tgNm 5) rfl sc.nd (i_seq (e_nm 4)) (blkOk_by (by rfl)) (fun _ _ _ _ _ => (pg_name sc.nd rfl (by first | exact .inl rfl | exact .inr rfl))) (fun _ _ _ _ _ => pts_0) (fun _ _ _ _ _ => (e_cmp (op_eqU hr.units) prim_eq (e_slice sl_U prim_sl (e_nm 0) (o_some (e_nm 5)) (o_some (e_bin op_addU prim_add (e_nm 5) (e_callB cr_lenU prim_len (by rfl) m_len PySem.boot_len (a_cons (e_nm 1) a_nil))))) (e_nm 1) (nomark _)))) a_nil))) (s_one (s_expr (e_mut ty_lst prim_append PySem.F.plainAttrs_list PySem.F.slot_list_append PySem.F.type_list_append mt_append (pv 2) (a_cons (e_nm 3) a_nil)))) s_nil))))))
    (s_one (s_ret (e_mv 2))))))
noncomputable abbrev st_lshows : Stmt := topS 20
theorem sc_lshows : FnScope ["text", "pins", "m", "thing", "places", "branch", "place", "tree"] ["text", "pins", "m", "thing"] (defScope st_lshows) := ⟨rfl, rfl, rfl, by decide +kernel, rfl, by decide +kernel, by decide +kernel⟩
theorem okN_lshows {P : Program} {w : World} {K : PySem.W.Frag} {mg : Str → Option Value} {base : Heap} {f : Addr} {fd : FuncData} (m_all : mg "all" = none) (m_any : mg "any" = none) (m_isinstance : mg "isinstance" = none) (m_len : mg "len" = none) (m_list : mg "list" = none) (m_str : mg "str" = none) (m_tuple : mg "tuple" = none) (g_lwhole : DefAt P w K mg base "_law_whole" 1 ["thing"] [false] phi_lwhole) (g_ltouching : DefAt P w K mg base "_law_touching" 1 ["text", "piece"] [false, false] phi_ltouching) (F : Fun K "_law_shows" "_law_shows" st_lshows f fd) (hm : mg "_law_shows" = some (.ref f)) : ∀ n : Nat, DefAt P w K mg base "_law_shows" (1 + n) ["text", "pins", "m", "thing"] [false, false, false, false] (phiN_lshows n)
  | 0 => DefAt.bad F hm (F.binds (ps := ["text", "pins", "m", "thing"]) fun _ _ _ _ _ _ us hl => match us, hl with | [_, _, _, _], _ => rfl)
  | n + 1 => by
    have g_lshows := okN_lshows (P := P) (w := w) (base := base) m_all m_any m_isinstance m_len m_list m_str m_tuple g_lwhole g_ltouching F hm n
    refine DefAt.mk (lev := 1 + n) (k := 4) F hm (F.binds (ps := ["text", "pins", "m", "thing"]) fun _ _ _ _ _ _ us hl => match us, hl with | [_, _, _, _], _ => rfl) sc_lshows rfl rfl (fun cdv A outer s H E hr => ?_) rfl
    have sc := sc_lshows
    have tk : Takes (cxOf (L2.CX P w) P w K mg base ["text", "pins", "m", "thing", "places", "branch", "place", "tree"] "_law_shows" (defScope st_lshows) f cdv A outer s H E) (fun cls d _ H => E cls d H) := takes_of rfl rfl rfl rfl
    have ps : PassesOwn (model P w) (cxOf (L2.CX P w) P w K mg base ["text", "pins", "m", "thing", "places", "branch", "place", "tree"] "_law_shows" (defScope st_lshows) f cdv A outer s H E).A (cxOf (L2.CX P w) P w K mg base ["text", "pins", "m", "thing", "places", "branch", "place", "tree"] "_law_shows" (defScope st_lshows) f cdv A outer s H E).env (cxOf (L2.CX P w) P w K mg base ["text", "pins", "m", "thing", "places", "branch", "place", "tree"] "_law_shows" (defScope st_lshows) f cdv A outer s H E).xe := passes_of rfl
    exact ((s_cons (s_if (w_or (t_not (t_truth (e_isi (by rfl) m_isinstance (by rfl) m_tuple PyProof.Rows.boot_tuple (by rfl) (e_nm 3)))) (w_or1 (t_cmp (op_neU hr.units) prim_eq (e_callB cr_lenU prim_len (by rfl) m_len PySem.boot_len (a_cons (e_nm 3) a_nil)) e_int (nomark _)))).pt (s_one (s_ret e_bl)) s_nil)
      (s_cons (s_if (w_or (t_not (t_truth (e_isi (by rfl) m_isinstance (by rfl) m_str PyProof.Rows.boot_str (by rfl) (e_ix (ix_U (hu_of hr)) prim_ixU (e_nm 3) e_int (fun _ _ => rfl))))) (w_or1 (t_not (t_truth (e_isi (by rfl) m_isinstance (by rfl) m_list PyProof.Rows.boot_list (by rfl) (e_ix (ix_U (hu_of hr)) prim_ixU (e_nm 3) e_int (fun _ _ => rfl))))))).pt (s_one (s_ret e_bl)) s_nil)
      (s_cons (s_if (w_or (t_cmp (op_eqU hr.units) prim_eq (e_ix (ix_U (hu_of hr)) prim_ixU (e_nm 3) e_int (fun _ _ => rfl)) (e_strT lit_) (nomark _)) (w_or1 (t_cmp op_ltU prim_ord (e_bm ta_str prim_find PySem.F.plainAttrs_str PySem.F.slot_str_find PySem.F.type_str_find mt_findU (e_nm 0) (a_cons (e_ix (ix_U (hu_of hr)) prim_ixU (e_nm 3) e_int (fun _ _ => rfl)) a_nil)) e_int (nomark _)))).pt (s_one (s_ret e_bl)) s_nil)
      (s_cons (s_asV (i := 4) sc.nd (e_callD g_ltouching (hr.mono (by omega)) tk (a_cons (e_nm 0) (a_cons (e_ix (ix_U (hu_of hr)) prim_ixU (e_nm 3) e_int (fun _ _ => rfl)) a_nil))))
      (s_cons (s_if (t_truth (e_callB (cr_any rfl) prim_any (by rfl) m_any PyProof.Rows.boot_any (a_cons (e_lc (own := [("place", 6)]) (tgNm 6) rfl sc.nd (i_seq (e_nm 4)) (blkOk_by (by rfl)) (fun _ _ _ _ _ => (pg_name sc.nd rfl (by first | exact .inl rfl | exact .inr rfl))) (fun _ _ _ _ _ => pts_0) (fun _ _ _ _ _ => (e_cmp (op_inV (hu_of hr)) prim_inU (e_nm 6) (e_nm 1) (by rfl)))) a_nil))) (s_one (s_ret e_bl)) s_nil)
      (s_cons (s_if (t_cmp (op_eqU hr.units) prim_eq (e_nm 2) e_int (nomark _)) (s_one (s_ret (e_cmp (op_eqU hr.units) prim_eq (e_ix (ix_U (hu_of hr)) prim_ixU (e_nm 3) e_int (fun _ _ => rfl)) (e_lstD a_nil) (nomark _)))) s_nil)
      (s_cons (s_end (s_for ps rfl (i_seq (e_ix (ix_U (hu_of hr)) prim_ixU (e_nm 3) e_int (fun _ _ => rfl))) (g_nm sc.nd) (s_one (s_end (s_if (w_or (t_not (t_truth (e_isi (by rfl) m_isinstance (by rfl) m_tuple PyProof.Rows.boot_tuple (by rfl) (e_nm 5)))) (w_or (t_cmp (op_neU hr.units) prim_eq (e_callB cr_lenU prim_len (by rfl) m_len PySem.boot_len (a_cons (e_nm 5) a_nil)) e_int (nomark _)) (w_or1 (t_not (t_truth (e_callD g_lwhole (hr.mono (by omega)) tk (a_cons (e_ix (ix_U (hu_of hr)) prim_ixU (e_nm 5) e_int (fun _ _ => rfl)) a_nil))))))).pt (s_one (s_ret e_bl)) s_nil)))))
      (s_cons (s_end (s_if (t_cmp (op_neU hr.units) prim_eq (e_lc (own := [("branch", 5)]) (tgNm 5) rfl sc.nd (i_seq (e_ix (ix_U (hu_of hr)) prim_ixU (e_nm 3) e_int (fun _ _ => rfl))) (blkOk_by (by rfl)) (fun _ _ _ _ _ => (pg_name sc.nd rfl (by first | exact .inl rfl | exact .inr rfl))) (fun _ _ _ _ _ => pts_0) (fun _ _ _ _ _ => (e_ix (ix_U (hu_of hr)) prim_ixU (e_nm 5) e_int (fun _ _ => rfl)))) (e_nm 4) (nomark _)) (s_one (s_ret e_bl)) s_nil))
      (s_one (s_ret (e_callB (cr_all rfl) prim_all (by rfl) m_all PyProof.Rows.boot_all (a_cons (e_lc (own := [("place", 6), ("tree", 7)]) (tgTp [6, 7]) rfl sc.nd (i_seq (e_ix (ix_U (hu_of hr)) prim_ixU (e_nm 3) e_int (fun _ _ => rfl))) (blkOk_by (by rfl)) (fun _ _ _ _ _ => (pg_tup rfl (pgs_cons (pg_name (i := 6) sc.nd rfl (by first | exact .inl rfl | exact .inr rfl)) (pgs_cons (pg_name (i := 7) sc.nd rfl (by first | exact .inl rfl | exact .inr rfl)) pgs_nil)))) (fun _ _ _ _ _ => pts_0) (fun _ _ _ _ _ => (e_callD g_lshows (hr.mono (by omega)) takes0 (a_cons (e_nm 0) (a_cons (e_bin op_addU prim_add (e_nm 1) (e_lstD (a_cons (e_nm 6) a_nil))) (a_cons (e_bin op_subU prim_sub (e_nm 2) e_int) (a_cons (e_nm 7) a_nil))))))) a_nil)))))))))))))
theorem ok_lshows {P : Program} {w : World} {K : PySem.W.Frag} {mg : Str → Option Value} {base : Heap} {f : Addr} {fd : FuncData} (m_all : mg "all" = none) (m_any : mg "any" = none) (m_isinstance : mg "isinstance" = none) (m_len : mg "len" = none) (m_list : mg "list" = none) (m_str : mg "str" = none) (m_tuple : mg "tuple" = none) (g_lwhole : DefAt P w K mg base "_law_whole" 1 ["thing"] [false] phi_lwhole) (g_ltouching : DefAt P w K mg base "_law_touching" 1 ["text", "piece"] [false, false] phi_ltouching) (F : Fun K "_law_shows" "_law_shows" st_lshows f fd) (hm : mg "_law_shows" = some (.ref f)) : DefAt P w K mg base "_law_shows" 15 ["text", "pins", "m", "thing"] [false, false, false, false] phi_lshows := okN_lshows m_all m_any m_isinstance m_len m_list m_str m_tuple g_lwhole g_ltouching F hm 14
noncomputable abbrev st_lmissed : Stmt := topS 18
theorem sc_lmissed : FnScope ["text", "pins", "length", "touched", "place", "missed", "piece", "here", "pin"] ["text", "pins"] (defScope st_lmissed) := ⟨rfl, rfl, rfl, by decide +kernel, rfl, by decide +kernel, by decide +kernel⟩
theorem ok_lmissed {P : Program} {w : World} {K : PySem.W.Frag} {mg : Str → Option Value} {base : Heap} {f : Addr} {fd : FuncData} (m_any : mg "any" = none) (m_len : mg "len" = none) (m_range : mg "range" = none) (m_sorted : mg "sorted" = none) (F : Fun K "_law_missed" "_law_missed" st_lmissed f fd) (hm : mg "_law_missed" = some (.ref f)) :
    DefAt P w K mg base "_law_missed" 1 ["text", "pins"] [false, false] phi_lmissed := by
  refine DefAt.mk (lev := 0) (k := 7) F hm (F.binds (ps := ["text", "pins"]) fun _ _ _ _ _ _ us hl => match us, hl with | [_, _], _ => rfl) sc_lmissed rfl rfl (fun cdv A outer s H E hr => ?_) rfl
  have sc := sc_lmissed
  have ps : PassesOwn (model P w) (cxOf (L2.CX P w) P w K mg base ["text", "pins", "length", "touched", "place", "missed", "piece", "here", "pin"] "_law_missed" (defScope st_lmissed) f cdv A outer s H E).A (cxOf (L2.CX P w) P w K mg base ["text", "pins", "length", "touched", "place", "missed", "piece", "here", "pin"] "_law_missed" (defScope st_lmissed) f cdv A outer s H E).env (cxOf (L2.CX P w) P w K mg base ["text", "pins", "length", "touched", "place", "missed", "piece", "here", "pin"] "_law_missed" (defScope st_lmissed) f cdv A outer s H E).xe := passes_of rfl
  exact ((s_cons (s_end (s_for ps rfl (i_rg2 (by rfl) m_range (a_cons e_int (a_cons (e_bin op_addU prim_add (e_callB cr_lenU prim_len (by rfl) m_len PySem.boot_len (a_cons (e_nm 0) a_nil)) e_int) a_nil))) (g_nm sc.nd) (s_cons (s_asO (i := 3) sc.nd e_dicD)
    (s_cons (s_end (s_for ps rfl (i_rg1 (by rfl) m_range (a_cons (e_bin op_addU prim_add (e_bin op_subU prim_sub (e_callB cr_lenU prim_len (by rfl) m_len PySem.boot_len (a_cons (e_nm 0) a_nil)) (e_nm 2)) e_int) a_nil)) (g_nm sc.nd) (s_bod (s_cons (s_asV (i := 6) sc.nd (e_slice sl_U prim_sl (e_nm 0) (o_some (e_nm 4)) (o_some (e_bin op_addU prim_add (e_nm 4) (e_nm 2)))))
    (s_cons (s_asV (i := 7) sc.nd (e_callB (cr_any rfl) prim_any (by rfl) m_any PyProof.Rows.boot_any (a_cons (e_lc (own := [("pin", 8)]) (tgNm 8) rfl sc.nd (i_seq (e_nm 1)) (blkOk_by (by rfl)) (fun _ _ _ _ _ => (pg_name sc.nd rfl (by first | exact .inl rfl | exact .inr rfl))) (fun _ _ _ _ _ => pts_0) (fun _ _ _ _ _ => (e_chain op_leU op_ltU (e_nm 4) (e_nm 8) (e_bin op_addU prim_add (e_nm 4) (e_nm 2))))) a_nil)))
    (s_one (s_sub (set_U (hu_of hr)) prim_set (e_or (e_bm ta_dic prim_get2 PySem.F.plainAttrs_dict PySem.F.slot_dict_get PySem.F.type_dict_get (mt_get2 (hu_of hr)) (e_nm 3) (a_cons (e_nm 6) (a_cons e_bl a_nil))) (e_one (e_nm 7))) (pv 3) (e_nm 6) (by intro _; rfl))))))))
    (s_cons (s_lcV (own := [("piece", 6)]) (tgNm 6) rfl sc.nd (sw_true rfl rfl rfl (by decide +kernel)) (i_seq (e_callB (cr_sortedU rfl hr.units) prim_sortU (by rfl) m_sorted PyProof.Rows.boot_sorted (a_cons (e_nm 3) a_nil))) (blkOk_by (by rfl)) (fun _ _ _ _ _ => (pg_name sc.nd rfl (by first | exact .inl rfl | exact .inr rfl))) (fun _ _ _ _ _ => (pts_1 (t_not (t_truth (e_ix (ix_U (hu_of hr)) prim_ixU (e_nm 3) (e_nm 6) (fun _ _ => rfl)))))) (fun _ _ _ _ _ => (e_nm 6)))
    (s_one (s_end (s_if (t_cmp (op_neU hr.units) prim_eq (e_nm 5) (e_lstD a_nil) (nomark _)) (s_one (s_ret (e_ix (ix_U (hu_of hr)) prim_ixU (e_nm 5) e_int (fun _ _ => rfl)))) s_nil))))))))
    (s_one (s_ret e_non))))
noncomputable abbrev st_missed_of : Stmt := topS 5
theorem sc_missed_of : FnScope ["text", "ahead", "length", "missed", "touched", "place", "piece"] ["text", "ahead", "length"] (defScope st_missed_of) := ⟨rfl, rfl, rfl, by decide +kernel, rfl, by decide +kernel, by decide +kernel⟩
theorem ok_missed_of {P : Program} {w : World} {K : PySem.W.Frag} {mg : Str → Option Value} {base : Heap} {f : Addr} {fd : FuncData} (m_len : mg "len" = none) (m_list : mg "list" = none) (m_range : mg "range" = none) (F : Fun K "missed_of" "missed_of" st_missed_of f fd) (hm : mg "missed_of" = some (.ref f)) :
    DefAt P w K mg base "missed_of" 1 ["text", "ahead", "length"] [false, false, false] phi_missed_of := by
  refine DefAt.mk (lev := 0) (k := 4) F hm (F.binds (ps := ["text", "ahead", "length"]) fun _ _ _ _ _ _ us hl => match us, hl with | [_, _, _], _ => rfl) sc_missed_of rfl rfl (fun cdv A outer s H E hr => ?_) rfl
  have sc := sc_missed_of
  have ps : PassesOwn (model P w) (cxOf (L2.CX P w) P w K mg base ["text", "ahead", "length", "missed", "touched", "place", "piece"] "missed_of" (defScope st_missed_of) f cdv A outer s H E).A (cxOf (L2.CX P w) P w K mg base ["text", "ahead", "length", "missed", "touched", "place", "piece"] "missed_of" (defScope st_missed_of) f cdv A outer s H E).env (cxOf (L2.CX P w) P w K mg base ["text", "ahead", "length", "missed", "touched", "place", "piece"] "missed_of" (defScope st_missed_of) f cdv A outer s H E).xe := passes_of rfl
  exact ((s_cons (s_asO (i := 3) sc.nd e_dicD)
    (s_cons (s_asO (i := 4) sc.nd e_dicD)
    (s_cons (s_end (s_for ps rfl (i_rg1 (by rfl) m_range (a_cons (e_bin op_addU prim_add (e_bin op_subU prim_sub (e_callB cr_lenU prim_len (by rfl) m_len PySem.boot_len (a_cons (e_nm 0) a_nil)) (e_nm 2)) e_int) a_nil)) (g_nm sc.nd) (s_cons (s_asV (i := 6) sc.nd (e_slice sl_U prim_sl (e_nm 0) (o_some (e_nm 5)) (o_some (e_bin op_addU prim_add (e_nm 5) (e_nm 2)))))
    (s_one (s_end (s_if (t_cmp op_gtU prim_ord (e_ix (ix_U (hu_of hr)) prim_ixU (e_nm 1) (e_bin op_addU prim_add (e_nm 5) (e_nm 2)) (fun _ _ => rfl)) (e_ix (ix_U (hu_of hr)) prim_ixU (e_nm 1) (e_nm 5) (fun _ _ => rfl)) (nomark _)) (s_cons (s_sub (set_U (hu_of hr)) prim_set e_bl (pv 4) (e_nm 6) (by intro _; rfl))
    (s_one (s_expr (e_mut ty_dic prim_pop2 PySem.F.plainAttrs_dict PySem.F.slot_dict_pop PySem.F.type_dict_pop mt_pop2 (pv 3) (a_cons (e_nm 6) (a_cons e_non a_nil)))))) (s_one (s_end (s_if (t_cmp (op_niV (hu_of hr)) prim_inU (e_nm 6) (e_nm 4) (by rfl)) (s_one (s_sub (set_U (hu_of hr)) prim_set e_bl (pv 3) (e_nm 6) (by intro _; rfl))) s_nil)))))))))
    (s_one (s_ret (e_callTy (cr_listU rfl) prim_list (by rfl) m_list PyProof.Rows.boot_list (a_cons (e_nm 3) a_nil))))))))
noncomputable abbrev st_touching : Stmt := topS 8
theorem sc_touching : FnScope ["text", "piece", "found", "place", "further"] ["text", "piece"] (defScope st_touching) := ⟨rfl, rfl, rfl, by decide +kernel, rfl, by decide +kernel, by decide +kernel⟩
theorem ok_touching {P : Program} {w : World} {K : PySem.W.Frag} {mg : Str → Option Value} {base : Heap} {f : Addr} {fd : FuncData} (m_len : mg "len" = none) (m_range : mg "range" = none) (m_sorted : mg "sorted" = none) (F : Fun K "touching" "touching" st_touching f fd) (hm : mg "touching" = some (.ref f)) :
    DefAt P w K mg base "touching" 1 ["text", "piece"] [false, false] phi_touching := by
  refine DefAt.mk (lev := 0) (k := 3) F hm (F.binds (ps := ["text", "piece"]) fun _ _ _ _ _ _ us hl => match us, hl with | [_, _], _ => rfl) sc_touching rfl rfl (fun cdv A outer s H E hr => ?_) rfl
  have sc := sc_touching
  have ps : PassesOwn (model P w) (cxOf (L2.CX P w) P w K mg base ["text", "piece", "found", "place", "further"] "touching" (defScope st_touching) f cdv A outer s H E).A (cxOf (L2.CX P w) P w K mg base ["text", "piece", "found", "place", "further"] "touching" (defScope st_touching) f cdv A outer s H E).env (cxOf (L2.CX P w) P w K mg base ["text", "piece", "found", "place", "further"] "touching" (defScope st_touching) f cdv A outer s H E).xe := passes_of rfl
  exact ((s_cons (s_asO (i := 2) sc.nd e_dicD)
    (s_cons (s_end (s_for ps rfl (i_rg1 (by rfl) m_range (a_cons (e_bin op_addU prim_add (e_bin op_subU prim_sub (e_callB cr_lenU prim_len (by rfl) m_len PySem.boot_len (a_cons (e_nm 0) a_nil)) (e_callB cr_lenU prim_len (by rfl) m_len PySem.boot_len (a_cons (e_nm 1) a_nil))) e_int) a_nil)) (g_nm sc.nd) (s_one (s_end (s_if (t_cmp (op_eqU hr.units) prim_eq (e_slice sl_U prim_sl (e_nm 0) (o_some (e_nm 3)) (o_some (e_bin op_addU prim_add (e_nm 3) (e_callB cr_lenU prim_len (by rfl) m_len PySem.boot_len (a_cons (e_nm 1) a_nil))))) (e_nm 1) (nomark _)) (s_one (s_end (s_for ps rfl (i_rg1 (by rfl) m_range (a_cons (e_callB cr_lenU prim_len (by rfl) m_len PySem.boot_len (a_cons (e_nm 1) a_nil)) a_nil)) (g_nm sc.nd) (s_bod (s_one (s_sub (set_U (hu_of hr)) prim_set e_bl (pv 2) (e_bin op_addU prim_add (e_nm 3) (e_nm 4)) (by intro _; rfl))))))) s_nil)))))
    (s_one (s_ret (e_callB (cr_sortedU rfl hr.units) prim_sortU (by rfl) m_sorted PyProof.Rows.boot_sorted (a_cons (e_nm 2) a_nil)))))))
noncomputable abbrev st_pins_ahead : Stmt := topS 4
theorem sc_pins_ahead : FnScope ["text", "pins", "found", "place"] ["text", "pins"] (defScope st_pins_ahead) := ⟨rfl, rfl, rfl, by decide +kernel, rfl, by decide +kernel, by decide +kernel⟩
theorem ok_pins_ahead {P : Program} {w : World} {K : PySem.W.Frag} {mg : Str → Option Value} {base : Heap} {f : Addr} {fd : FuncData} (m_int : mg "int" = none) (m_len : mg "len" = none) (m_range : mg "range" = none) (F : Fun K "pins_ahead" "pins_ahead" st_pins_ahead f fd) (hm : mg "pins_ahead" = some (.ref f)) :
    DefAt P w K mg base "pins_ahead" 1 ["text", "pins"] [false, false] phi_pins_ahead := by
  refine DefAt.mk (lev := 0) (k := 2) F hm (F.binds (ps := ["text", "pins"]) fun _ _ _ _ _ _ us hl => match us, hl with | [_, _], _ => rfl) sc_pins_ahead rfl rfl (fun cdv A outer s H E hr => ?_) rfl
  have sc := sc_pins_ahead
  have ps : PassesOwn (model P w) (cxOf (L2.CX P w) P w K mg base ["text", "pins", "found", "place"] "pins_ahead" (defScope st_pins_ahead) f cdv A outer s H E).A (cxOf (L2.CX P w) P w K mg base ["text", "pins", "found", "place"] "pins_ahead" (defScope st_pins_ahead) f cdv A outer s H E).env (cxOf (L2.CX P w) P w K mg base ["text", "pins", "found", "place"] "pins_ahead" (defScope st_pins_ahead) f cdv A outer s H E).xe := passes_of rfl
  exact ((s_cons (s_asO (i := 2) sc.nd (e_lstD (a_cons e_int a_nil)))
    (s_cons (s_end (s_for ps rfl (i_rg1 (by rfl) m_range (a_cons (e_callB cr_lenU prim_len (by rfl) m_len PySem.boot_len (a_cons (e_nm 0) a_nil)) a_nil)) (g_nm sc.nd) (s_bod (s_one (s_expr (e_mut ty_lst prim_append PySem.F.plainAttrs_list PySem.F.slot_list_append PySem.F.type_list_append mt_append (pv 2) (a_cons (e_bin op_addU prim_add (e_ix (ix_U (hu_of hr)) prim_ixU (e_nm 2) (e_un un_neg prim_neg e_int) (fun _ _ => rfl)) (e_callTy cr_intU prim_int (by rfl) m_int PyProof.Rows.boot_int (a_cons (e_cmp (op_inV (hu_of hr)) prim_inU (e_nm 3) (e_nm 1) (by rfl)) a_nil))) a_nil)))))))
    (s_one (s_ret (e_mv 2))))))
noncomputable abbrev st_tightest : Stmt := topS 9
theorem sc_tightest : FnScope ["text", "pins", "ahead", "best", "length", "piece", "places"] ["text", "pins"] (defScope st_tightest) := ⟨rfl, rfl, rfl, by decide +kernel, rfl, by decide +kernel, by decide +kernel⟩
theorem ok_tightest {P : Program} {w : World} {K : PySem.W.Frag} {mg : Str → Option Value} {base : Heap} {f : Addr} {fd : FuncData} (m_len : mg "len" = none) (m_range : mg "range" = none) (g_missed_of : DefAt P w K mg base "missed_of" 1 ["text", "ahead", "length"] [false, false, false] phi_missed_of) (g_touching : DefAt P w K mg base "touching" 1 ["text", "piece"] [false, false] phi_touching) (g_pins_ahead : DefAt P w K mg base "pins_ahead" 1 ["text", "pins"] [false, false] phi_pins_ahead) (F : Fun K "tightest" "tightest" st_tightest f fd) (hm : mg "tightest" = some (.ref f)) :
    DefAt P w K mg base "tightest" 2 ["text", "pins"] [false, false] phi_tightest := by
  refine DefAt.mk (lev := 1) (k := 5) F hm (F.binds (ps := ["text", "pins"]) fun _ _ _ _ _ _ us hl => match us, hl with | [_, _], _ => rfl) sc_tightest rfl rfl (fun cdv A outer s H E hr => ?_) rfl
  have sc := sc_tightest
  have tk : Takes (cxOf (L2.CX P w) P w K mg base ["text", "pins", "ahead", "best", "length", "piece", "places"] "tightest" (defScope st_tightest) f cdv A outer s H E) (fun cls d _ H => E cls d H) := takes_of rfl rfl rfl rfl
  have ps : PassesOwn (model P w) (cxOf (L2.CX P w) P w K mg base ["text", "pins", "ahead", "best", "length", "piece", "places"] "tightest" (defScope st_tightest) f cdv A outer s H E).A (cxOf (L2.CX P w) P w K mg base ["text", "pins", "ahead", "best", "length", "piece", "places"] "tightest" (defScope st_tightest) f cdv A outer s H E).env (cxOf (L2.CX P w) P w K mg base ["text", "pins", "ahead", "best", "length", "piece", "places"] "tightest" (defScope st_tightest) f cdv A outer s H E).xe := passes_of rfl
  exact ((s_cons (s_asV (i := 2) sc.nd (e_callD g_pins_ahead (hr.mono (by omega)) tk (a_cons (e_nm 0) (a_cons (e_nm 1) a_nil))))
    (s_cons (s_asV (i := 3) sc.nd e_non)
    (s_cons (s_end (s_for ps rfl (i_rg2 (by rfl) m_range (a_cons e_int (a_cons (e_bin op_addU prim_add (e_callB cr_lenU prim_len (by rfl) m_len PySem.boot_len (a_cons (e_nm 0) a_nil)) e_int) a_nil))) (g_nm sc.nd) (s_one (s_end (s_for ps rfl (i_seq (e_callD g_missed_of (hr.mono (by omega)) tk (a_cons (e_nm 0) (a_cons (e_nm 2) (a_cons (e_nm 4) a_nil))))) (g_nm sc.nd) (s_cons (s_asV (i := 6) sc.nd (e_callD g_touching (hr.mono (by omega)) tk (a_cons (e_nm 0) (a_cons (e_nm 5) a_nil))))
    (s_one (s_end (s_if (w_or (t_cmp op_isU prim_is (e_nm 3) e_non (nomark _)) (w_or1 (t_cmp op_ltU prim_ord (e_callB cr_lenU prim_len (by rfl) m_len PySem.boot_len (a_cons (e_nm 6) a_nil)) (e_callB cr_lenU prim_len (by rfl) m_len PySem.boot_len (a_cons (e_ix (ix_U (hu_of hr)) prim_ixU (e_nm 3) e_int (fun _ _ => rfl)) a_nil)) (nomark _)))).pt (s_one (s_asV (i := 3) sc.nd (e_tupD (a_cons (e_nm 5) (a_cons (e_nm 6) a_nil))))) s_nil)))))))))
    (s_one (s_ret (e_nm 3)))))))
noncomputable abbrev st_tree_for : Stmt := topS 11
theorem sc_tree_for : FnScope ["text", "pins", "many", "piece", "places", "place"] ["text", "pins", "many"] (defScope st_tree_for) := ⟨rfl, rfl, rfl, by decide +kernel, rfl, by decide +kernel, by decide +kernel⟩
theorem okN_tree_for {P : Program} {w : World} {K : PySem.W.Frag} {mg : Str → Option Value} {base : Heap} {f : Addr} {fd : FuncData} (g_tightest : DefAt P w K mg base "tightest" 2 ["text", "pins"] [false, false] phi_tightest) (F : Fun K "tree_for" "tree_for" st_tree_for f fd) (hm : mg "tree_for" = some (.ref f)) : ∀ n : Nat, DefAt P w K mg base "tree_for" (2 + n) ["text", "pins", "many"] [false, false, false] (phiN_tree_for_v2 n)
  | 0 => DefAt.bad F hm (F.binds (ps := ["text", "pins", "many"]) fun _ _ _ _ _ _ us hl => match us, hl with | [_, _, _], _ => rfl)
  | n + 1 => by
    have g_tree_for := okN_tree_for (P := P) (w := w) (base := base) g_tightest F hm n
    refine DefAt.mk (lev := 2 + n) (k := 3) F hm (F.binds (ps := ["text", "pins", "many"]) fun _ _ _ _ _ _ us hl => match us, hl with | [_, _, _], _ => rfl) sc_tree_for rfl rfl (fun cdv A outer s H E hr => ?_) rfl
    have sc := sc_tree_for
    have tk : Takes (cxOf (L2.CX P w) P w K mg base ["text", "pins", "many", "piece", "places", "place"] "tree_for" (defScope st_tree_for) f cdv A outer s H E) (fun cls d _ H => E cls d H) := takes_of rfl rfl rfl rfl
    exact ((s_cons (s_asG (e_callD g_tightest (hr.mono (by omega)) tk (a_cons (e_nm 0) (a_cons (e_nm 1) a_nil))) (g_tup rfl (g_cons sc.nd (g_cons sc.nd g_nil))))
      (s_cons (s_if (t_cmp (op_eqU hr.units) prim_eq (e_nm 2) e_int (nomark _)) (s_one (s_ret (e_tupN (a_cons (e_nm 3) (a_cons (e_lstD a_nil) a_nil))))) s_nil)
      (s_one (s_ret (e_tupN (a_cons (e_nm 3) (a_cons (e_lcN (own := [("place", 5)]) (tgNm 5) rfl sc.nd (i_seq (e_nm 4)) (blkOk_by (by rfl)) (fun _ _ _ _ _ => (pg_name sc.nd rfl (by first | exact .inl rfl | exact .inr rfl))) (fun _ _ _ _ _ => pts_0) (fun _ _ _ _ _ => (e_tupN (a_cons (e_nm 5) (a_cons (e_callD g_tree_for (hr.mono (by omega)) takes0 (a_cons (e_nm 0) (a_cons (e_bin op_addU prim_add (e_nm 1) (e_tupD (a_cons (e_nm 5) a_nil))) (a_cons (e_bin op_subU prim_sub (e_nm 2) e_int) a_nil)))) a_nil))))) a_nil))))))))
theorem ok_tree_for {P : Program} {w : World} {K : PySem.W.Frag} {mg : Str → Option Value} {base : Heap} {f : Addr} {fd : FuncData} (g_tightest : DefAt P w K mg base "tightest" 2 ["text", "pins"] [false, false] phi_tightest) (F : Fun K "tree_for" "tree_for" st_tree_for f fd) (hm : mg "tree_for" = some (.ref f)) : DefAt P w K mg base "tree_for" 16 ["text", "pins", "many"] [false, false, false] phi_tree_for_v2 := okN_tree_for g_tightest F hm 14
noncomputable abbrev st_pins_within : Stmt := topS 10
theorem sc_pins_within : FnScope ["text", "pins", "many", "best", "place", "found"] ["text", "pins", "many"] (defScope st_pins_within) := ⟨rfl, rfl, rfl, by decide +kernel, rfl, by decide +kernel, by decide +kernel⟩
theorem okN_pins_within {P : Program} {w : World} {K : PySem.W.Frag} {mg : Str → Option Value} {base : Heap} {f : Addr} {fd : FuncData} (g_tightest : DefAt P w K mg base "tightest" 2 ["text", "pins"] [false, false] phi_tightest) (F : Fun K "pins_within" "pins_within" st_pins_within f fd) (hm : mg "pins_within" = some (.ref f)) : ∀ n : Nat, DefAt P w K mg base "pins_within" (2 + n) ["text", "pins", "many"] [false, false, false] (phiN_pins_within n)
  | 0 => DefAt.bad F hm (F.binds (ps := ["text", "pins", "many"]) fun _ _ _ _ _ _ us hl => match us, hl with | [_, _, _], _ => rfl)
  | n + 1 => by
    have g_pins_within := okN_pins_within (P := P) (w := w) (base := base) g_tightest F hm n
    refine DefAt.mk (lev := 2 + n) (k := 3) F hm (F.binds (ps := ["text", "pins", "many"]) fun _ _ _ _ _ _ us hl => match us, hl with | [_, _, _], _ => rfl) sc_pins_within rfl rfl (fun cdv A outer s H E hr => ?_) rfl
    have sc := sc_pins_within
    have tk : Takes (cxOf (L2.CX P w) P w K mg base ["text", "pins", "many", "best", "place", "found"] "pins_within" (defScope st_pins_within) f cdv A outer s H E) (fun cls d _ H => E cls d H) := takes_of rfl rfl rfl rfl
    have ps : PassesOwn (model P w) (cxOf (L2.CX P w) P w K mg base ["text", "pins", "many", "best", "place", "found"] "pins_within" (defScope st_pins_within) f cdv A outer s H E).A (cxOf (L2.CX P w) P w K mg base ["text", "pins", "many", "best", "place", "found"] "pins_within" (defScope st_pins_within) f cdv A outer s H E).env (cxOf (L2.CX P w) P w K mg base ["text", "pins", "many", "best", "place", "found"] "pins_within" (defScope st_pins_within) f cdv A outer s H E).xe := passes_of rfl
    exact ((s_cons (s_asV (i := 3) sc.nd (e_callD g_tightest (hr.mono (by omega)) tk (a_cons (e_nm 0) (a_cons (e_nm 1) a_nil))))
      (s_cons (s_if (t_cmp op_isU prim_is (e_nm 3) e_non (nomark _)) (s_one (s_ret (e_nm 1))) s_nil)
      (s_cons (s_if (t_cmp (op_eqU hr.units) prim_eq (e_nm 2) e_int (nomark _)) (s_one (s_ret e_non)) s_nil)
      (s_cons (s_end (s_for ps rfl (i_seq (e_ix (ix_U (hu_of hr)) prim_ixU (e_nm 3) e_int (fun _ _ => rfl))) (g_nm sc.nd) (s_cons (s_asV (i := 5) sc.nd (e_callD g_pins_within (hr.mono (by omega)) tk (a_cons (e_nm 0) (a_cons (e_bin op_addU prim_add (e_nm 1) (e_tupD (a_cons (e_nm 4) a_nil))) (a_cons (e_bin op_subU prim_sub (e_nm 2) e_int) a_nil)))))
      (s_one (s_end (s_if (t_cmp op_isnU prim_is (e_nm 5) e_non (nomark _)) (s_one (s_ret (e_nm 5))) s_nil))))))
      (s_one (s_ret e_non)))))))
theorem ok_pins_within {P : Program} {w : World} {K : PySem.W.Frag} {mg : Str → Option Value} {base : Heap} {f : Addr} {fd : FuncData} (g_tightest : DefAt P w K mg base "tightest" 2 ["text", "pins"] [false, false] phi_tightest) (F : Fun K "pins_within" "pins_within" st_pins_within f fd) (hm : mg "pins_within" = some (.ref f)) : DefAt P w K mg base "pins_within" 16 ["text", "pins", "many"] [false, false, false] phi_pins_within := okN_pins_within g_tightest F hm 14
noncomputable abbrev st_least : Stmt := topS 12
theorem sc_least : FnScope ["text", "number", "found"] ["text"] (defScope st_least) := ⟨rfl, rfl, rfl, by decide +kernel, rfl, by decide +kernel, by decide +kernel⟩
theorem ok_least {P : Program} {w : World} {K : PySem.W.Frag} {mg : Str → Option Value} {base : Heap} {f : Addr} {fd : FuncData} (m_len : mg "len" = none) (m_sorted : mg "sorted" = none) (m_tuple : mg "tuple" = none) (c_MOST_SIGNS : ∃ t, mg "MOST_SIGNS" = some (.int 12 t)) (g_tree_for : DefAt P w K mg base "tree_for" 16 ["text", "pins", "many"] [false, false, false] phi_tree_for_v2) (g_pins_within : DefAt P w K mg base "pins_within" 16 ["text", "pins", "many"] [false, false, false] phi_pins_within) (F : Fun K "least" "least" st_least f fd) (hm : mg "least" = some (.ref f)) :
    DefAt P w K mg base "least" 17 ["text"] [false] phi_least_v3 := by
  refine DefAt.mk (lev := 16) (k := 2) F hm (F.binds (ps := ["text"]) fun _ _ _ _ _ _ us hl => match us, hl with | [_], _ => rfl) sc_least rfl rfl (fun cdv A outer s H E hr => ?_) rfl
  have sc := sc_least
  have tk : Takes (cxOf (L2.CX P w) P w K mg base ["text", "number", "found"] "least" (defScope st_least) f cdv A outer s H E) (fun cls d _ H => E cls d H) := takes_of rfl rfl rfl rfl
  have ps : PassesOwn (model P w) (cxOf (L2.CX P w) P w K mg base ["text", "number", "found"] "least" (defScope st_least) f cdv A outer s H E).A (cxOf (L2.CX P w) P w K mg base ["text", "number", "found"] "least" (defScope st_least) f cdv A outer s H E).env (cxOf (L2.CX P w) P w K mg base ["text", "number", "found"] "least" (defScope st_least) f cdv A outer s H E).xe := passes_of rfl
  exact ((s_cons (s_if (t_cmp op_gtU prim_ord (e_callB cr_lenU prim_len (by rfl) m_len PySem.boot_len (a_cons (e_nm 0) a_nil)) (e_gi c_MOST_SIGNS (by rfl)) (nomark _)) (s_one s_bad) s_nil)
    (s_cons (s_asV (i := 1) sc.nd e_int)
    (s_cons (s_asV (i := 2) sc.nd (e_callD g_pins_within (hr.mono (by omega)) tk (a_cons (e_nm 0) (a_cons (e_tupD a_nil) (a_cons e_int a_nil)))))
    (s_cons (s_while ps (t_cmp op_isU prim_is (e_nm 2) e_non (nomark _)) (s_cons (s_asV (i := 1) sc.nd (e_bin op_addU prim_add (e_nm 1) e_int))
    (s_one (s_asV (i := 2) sc.nd (e_callD g_pins_within (hr.mono (by omega)) tk (a_cons (e_nm 0) (a_cons (e_tupD a_nil) (a_cons (e_nm 1) a_nil))))))))
    (s_cons (s_if (t_cmp (op_eqU hr.units) prim_eq (e_nm 1) e_int (nomark _)) (s_one (s_ret (e_tupD (a_cons e_int (a_cons (e_tupD a_nil) (a_cons e_non a_nil)))))) s_nil)
    (s_one (s_ret (e_tupN (a_cons (e_nm 1) (a_cons (e_callTy call_tuple_of prim_tuple (by rfl) m_tuple PyProof.Rows.boot_tuple (a_cons (e_callB (cr_sortedU rfl hr.units) prim_sortU (by rfl) m_sorted PyProof.Rows.boot_sorted (a_cons (e_nm 2) a_nil)) a_nil)) (a_cons (e_callD g_tree_for (hr.mono (by omega)) tk (a_cons (e_nm 0) (a_cons (e_tupD a_nil) (a_cons (e_bin op_subU prim_sub (e_nm 1) e_int) a_nil)))) a_nil))))))))))))
noncomputable abbrev st_ltext : Stmt := topS 17
theorem sc_ltext : FnScope ["reel", "most", "letters", "many", "way", "some", "text", "one", "other", "start", "k"] ["reel", "most"] (defScope st_ltext) := ⟨rfl, rfl, rfl, by decide +kernel, rfl, by decide +kernel, by decide +kernel⟩
theorem ok_ltext {P : Program} {w : World} {K : PySem.W.Frag} {mg : Str → Option Value} {base : Heap} {f : Addr} {fd : FuncData} (m_len : mg "len" = none) (m_range : mg "range" = none) (g_lpick : DefAt P w K mg base "_law_pick" 1 ["reel", "many"] [true, false] phi_lpick) (F : Fun K "_law_text" "_law_text" st_ltext f fd) (hm : mg "_law_text" = some (.ref f)) :
    DefAt P w K mg base "_law_text" 2 ["reel", "most"] [true, false] phi_ltext_v2 := by
  refine DefAt.mk (lev := 1) (k := 9) F hm (F.binds (ps := ["reel", "most"]) fun _ _ _ _ _ _ us hl => match us, hl with | [_, _], _ => rfl) sc_ltext rfl rfl (fun cdv A outer s H E hr => ?_) rfl
  have sc := sc_ltext
  have tk : Takes (cxOf (L2.CX P w) P w K mg base ["reel", "most", "letters", "many", "way", "some", "text", "one", "other", "start", "k"] "_law_text" (defScope st_ltext) f cdv A outer s H E) (fun cls d _ H => E cls d H) := takes_of rfl rfl rfl rfl
  have ps : PassesOwn (model P w) (cxOf (L2.CX P w) P w K mg base ["reel", "most", "letters", "many", "way", "some", "text", "one", "other", "start", "k"] "_law_text" (defScope st_ltext) f cdv A outer s H E).A (cxOf (L2.CX P w) P w K mg base ["reel", "most", "letters", "many", "way", "some", "text", "one", "other", "start", "k"] "_law_text" (defScope st_ltext) f cdv A outer s H E).env (cxOf (L2.CX P w) P w K mg base ["reel", "most", "letters", "many", "way", "some", "text", "one", "other", "start", "k"] "_law_text" (defScope st_ltext) f cdv A outer s H E).xe := passes_of rfl
  exact ((s_cons (s_asV (i := 2) sc.nd (e_ix (ix_U (hu_of hr)) prim_ixU (e_lstD (a_cons (e_strT lit_61) (a_cons (e_strT lit_61_62) (a_cons (e_strT lit_62_61_63) (a_cons (e_strT lit_7a_79_78_77) a_nil))))) (e_callD g_lpick (hr.mono (by omega)) tk (a_cons (e_nm 0) (a_cons e_int a_nil))) (fun _ _ => rfl)))
    (s_cons (s_asV (i := 3) sc.nd (e_callD g_lpick (hr.mono (by omega)) tk (a_cons (e_nm 0) (a_cons (e_bin op_addU prim_add (e_nm 1) e_int) a_nil))))
    (s_cons (s_asV (i := 4) sc.nd (e_callD g_lpick (hr.mono (by omega)) tk (a_cons (e_nm 0) (a_cons e_int a_nil))))
    (s_cons (s_lcV (own := [("k", 10)]) (tgNm 10) rfl sc.nd (sw_true rfl rfl rfl (by decide +kernel)) (i_rg1 (by rfl) m_range (a_cons (e_bin op_addU prim_add e_int (e_callD g_lpick (hr.mono (by omega)) tk (a_cons (e_nm 0) (a_cons e_int a_nil)))) a_nil)) (blkOk_by (by rfl)) (fun _ _ _ _ _ => (pg_name sc.nd rfl (by first | exact .inl rfl | exact .inr rfl))) (fun _ _ _ _ _ => pts_0) (fun _ _ _ _ _ => (e_ix (ix_U (hu_of hr)) prim_ixU (e_nm 2) (e_callD g_lpick (hr.mono (by omega)) takes0 (a_cons (e_nm 0) (a_cons (e_callB cr_lenU prim_len (by rfl) m_len PySem.boot_len (a_cons (e_nm 2) a_nil)) a_nil))) (fun _ _ => rfl))))
    (s_cons (s_asV (i := 6) sc.nd (e_bm ta_str prim_join PySem.F.plainAttrs_str PySem.F.slot_str_join PySem.F.type_str_join mt_join (e_strT lit_) (a_cons (e_nm 5) a_nil)))
    (s_cons (s_end (s_if (t_cmp (op_eqU hr.units) prim_eq (e_nm 4) e_int (nomark _)) (s_one (s_asV (i := 6) sc.nd (e_bin op_mulV prim_mulV (e_nm 6) (e_bin op_addU prim_add (e_nm 1) e_int)))) s_nil))
    (s_cons (s_end (s_if (t_cmp (op_eqU hr.units) prim_eq (e_nm 4) e_int (nomark _)) (s_cons (s_end (s_par (i := 7) (j := 8) rfl sc.nd (a_cons (e_nm 6) (a_cons (e_ix (ix_U (hu_of hr)) prim_ixU (e_nm 2) (e_un un_neg prim_neg e_int) (fun _ _ => rfl)) a_nil))))
    (s_cons (s_end (s_while ps (t_cmp op_ltU prim_ord (e_callB cr_lenU prim_len (by rfl) m_len PySem.boot_len (a_cons (e_nm 7) a_nil)) (e_nm 3) (nomark _)) (s_one (s_par (i := 7) (j := 8) rfl sc.nd (a_cons (e_bin op_addU prim_add (e_nm 7) (e_nm 8)) (a_cons (e_nm 7) a_nil))))))
    (s_one (s_asV (i := 6) sc.nd (e_nm 7))))) s_nil))
    (s_cons (s_while ps (w_and (t_cmp op_gtU prim_ord (e_nm 4) e_int (nomark _)) (w_and1 (t_cmp op_ltU prim_ord (e_callB cr_lenU prim_len (by rfl) m_len PySem.boot_len (a_cons (e_nm 6) a_nil)) (e_nm 3) (nomark _)))).pt (s_bod (s_cons (s_asV (i := 9) sc.nd (e_callD g_lpick (hr.mono (by omega)) tk (a_cons (e_nm 0) (a_cons (e_callB cr_lenU prim_len (by rfl) m_len PySem.boot_len (a_cons (e_nm 6) a_nil)) a_nil))))
    (s_one (s_asV (i := 6) sc.nd (e_bin op_addU prim_add (e_bin op_addU prim_add (e_nm 6) (e_slice sl_U prim_sl (e_nm 6) (o_some (e_nm 9)) (o_some (e_bin op_addU prim_add (e_bin op_addU prim_add (e_nm 9) e_int) (e_callD g_lpick (hr.mono (by omega)) tk (a_cons (e_nm 0) (a_cons e_int a_nil))))))) (e_ix (ix_U (hu_of hr)) prim_ixU (e_nm 2) (e_callD g_lpick (hr.mono (by omega)) tk (a_cons (e_nm 0) (a_cons (e_callB cr_lenU prim_len (by rfl) m_len PySem.boot_len (a_cons (e_nm 2) a_nil)) a_nil))) (fun _ _ => rfl))))))))
    (s_cons (s_end (s_while ps (w_and (t_cmp (op_eqU hr.units) prim_eq (e_nm 4) e_int (nomark _)) (w_and1 (t_cmp op_ltU prim_ord (e_callB cr_lenU prim_len (by rfl) m_len PySem.boot_len (a_cons (e_nm 6) a_nil)) (e_nm 3) (nomark _)))).pt (s_one (s_asV (i := 6) sc.nd (e_bin op_addU prim_add (e_nm 6) (e_ix (ix_U (hu_of hr)) prim_ixU (e_nm 2) (e_callD g_lpick (hr.mono (by omega)) tk (a_cons (e_nm 0) (a_cons (e_callB cr_lenU prim_len (by rfl) m_len PySem.boot_len (a_cons (e_nm 2) a_nil)) a_nil))) (fun _ _ => rfl)))))))
    (s_one (s_ret (e_slice sl_U prim_sl (e_nm 6) o_none (o_some (e_nm 3)))))))))))))))
noncomputable abbrev st_lreel : Stmt := topS 14
theorem sc_lreel : FnScope ["script", "k", "number", "stir", "found", "turn"] ["script", "k"] (defScope st_lreel) := ⟨rfl, rfl, rfl, by decide +kernel, rfl, by decide +kernel, by decide +kernel⟩
theorem ok_lreel {P : Program} {w : World} {K : PySem.W.Frag} {mg : Str → Option Value} {base : Heap} {f : Addr} {fd : FuncData} (m_len : mg "len" = none) (m_range : mg "range" = none) (F : Fun K "_law_reel" "_law_reel" st_lreel f fd) (hm : mg "_law_reel" = some (.ref f)) :
    DefAt P w K mg base "_law_reel" 1 ["script", "k"] [false, false] phi_lreel := by
  refine DefAt.mk (lev := 0) (k := 4) F hm (F.binds (ps := ["script", "k"]) fun _ _ _ _ _ _ us hl => match us, hl with | [_, _], _ => rfl) sc_lreel rfl rfl (fun cdv A outer s H E hr => ?_) rfl
  have sc := sc_lreel
  have ps : PassesOwn (model P w) (cxOf (L2.CX P w) P w K mg base ["script", "k", "number", "stir", "found", "turn"] "_law_reel" (defScope st_lreel) f cdv A outer s H E).A (cxOf (L2.CX P w) P w K mg base ["script", "k", "number", "stir", "found", "turn"] "_law_reel" (defScope st_lreel) f cdv A outer s H E).env (cxOf (L2.CX P w) P w K mg base ["script", "k", "number", "stir", "found", "turn"] "_law_reel" (defScope st_lreel) f cdv A outer s H E).xe := passes_of rfl
  exact ((s_cons (s_asV (i := 2) sc.nd (e_bin op_addU prim_add (e_bin op_mulV prim_mulV e_int (e_nm 1)) e_int))
    (s_cons (s_if (t_cmp op_ltU prim_ord (e_nm 1) (e_callB cr_lenU prim_len (by rfl) m_len PySem.boot_len (a_cons (e_nm 0) a_nil)) (nomark _)) (s_one (s_asV (i := 2) sc.nd (e_ix (ix_U (hu_of hr)) prim_ixU (e_nm 0) (e_nm 1) (fun _ _ => rfl)))) s_nil)
    (s_cons (s_if (t_cmp (op_eqU hr.units) prim_eq (e_bin op_mod prim_mod (e_nm 2) e_int) e_int (nomark _)) (s_one (s_ret (e_lstD (a_cons (e_bin op_fdivW prim_fdv (e_nm 2) e_int) a_nil)))) s_nil)
    (s_cons (s_asV (i := 3) sc.nd (e_bin op_mod prim_mod (e_bin op_addU prim_add (e_bin op_addU prim_add (e_bin op_mulV prim_mulV (e_bin op_mod prim_mod (e_nm 2) e_int) e_int) (e_bin op_mulV prim_mulV e_int (e_nm 1))) e_int) e_int))
    (s_cons (s_end (s_asV (i := 4) sc.nd e_int))
    (s_cons (s_end (s_for ps rfl (i_rg1 (by rfl) m_range (a_cons e_int a_nil)) (g_nm sc.nd) (s_bod (s_cons (s_asV (i := 3) sc.nd (e_bin op_mod prim_mod (e_bin op_addU prim_add (e_bin op_addU prim_add (e_bin op_addU prim_add (e_bin op_mulV prim_mulV (e_nm 3) (e_nm 3)) (e_bin op_mulV prim_mulV e_int (e_nm 3))) (e_bin op_mulV prim_mulV e_int (e_nm 5))) e_int) e_int))
    (s_one (s_asV (i := 4) sc.nd (e_bin op_addU prim_add (e_bin op_mulV prim_mulV (e_nm 4) e_int) (e_nm 3))))))))
    (s_one (s_ret (e_lstD (a_cons (e_nm 4) a_nil)))))))))))
noncomputable abbrev st_law : Stmt := topS 22
theorem sc_law : FnScope ["script", "k", "reel", "text", "again", "found", "lists", "place", "one"] ["script"] (defScope st_law) := ⟨rfl, rfl, rfl, by decide +kernel, rfl, by decide +kernel, by decide +kernel⟩
theorem ok_law {P : Program} {w : World} {K : PySem.W.Frag} {mg : Str → Option Value} {base : Heap} {f : Addr} {fd : FuncData} (m_all : mg "all" = none) (m_isinstance : mg "isinstance" = none) (m_len : mg "len" = none) (m_list : mg "list" = none) (m_max : mg "max" = none) (m_min : mg "min" = none) (m_range : mg "range" = none) (m_set : mg "set" = none) (m_sorted : mg "sorted" = none) (m_tuple : mg "tuple" = none) (g_llists : DefAt P w K mg base "_law_lists" 14 ["tree"] [false] phi_llists) (g_lpick : DefAt P w K mg base "_law_pick" 1 ["reel", "many"] [true, false] phi_lpick) (g_lshows : DefAt P w K mg base "_law_shows" 15 ["text", "pins", "m", "thing"] [false, false, false, false] phi_lshows) (g_lmissed : DefAt P w K mg base "_law_missed" 1 ["text", "pins"] [false, false] phi_lmissed) (g_lwhole : DefAt P w K mg base "_law_whole" 1 ["thing"] [false] phi_lwhole) (g_least : DefAt P w K mg base "least" 17 ["text"] [false] phi_least_v3) (g_ltext : DefAt P w K mg base "_law_text" 2 ["reel", "most"] [true, false] phi_ltext_v2) (g_lreel : DefAt P w K mg base "_law_reel" 1 ["script", "k"] [false, false] phi_lreel) (F : Fun K "law" "law" st_law f fd) :
    FnOk P w K mg base (L2.CX P w) 18 f fd ["script"] (spD K [false] phi_law_k10_v2) := by
  refine ok_def (lev := 17) (k := 8) F sc_law rfl rfl (fun cdv A outer s H E hr => ?_)
  have sc := sc_law
  have tk : Takes (cxOf (L2.CX P w) P w K mg base ["script", "k", "reel", "text", "again", "found", "lists", "place", "one"] "law" (defScope st_law) f cdv A outer s H E) (fun cls d _ H => E cls d H) := takes_of rfl rfl rfl rfl
  have ps : PassesOwn (model P w) (cxOf (L2.CX P w) P w K mg base ["script", "k", "reel", "text", "again", "found", "lists", "place", "one"] "law" (defScope st_law) f cdv A outer s H E).A (cxOf (L2.CX P w) P w K mg base ["script", "k", "reel", "text", "again", "found", "lists", "place", "one"] "law" (defScope st_law) f cdv A outer s H E).env (cxOf (L2.CX P w) P w K mg base ["script", "k", "reel", "text", "again", "found", "lists", "place", "one"] "law" (defScope st_law) f cdv A outer s H E).xe := passes_of rfl
  exact ((s_cons (s_end (s_for ps rfl (i_rg1 (by rfl) m_range (a_cons (e_callB (call_max2 rfl) prim_max2 (by rfl) m_max PyProof.Rows.boot_max (a_cons e_int (a_cons (e_callB (call_min2 rfl) prim_min2 (by rfl) m_min PyProof.Rows.boot_min (a_cons e_int (a_cons (e_callB cr_lenU prim_len (by rfl) m_len PySem.boot_len (a_cons (e_nm 0) a_nil)) a_nil))) a_nil))) a_nil)) (g_nm sc.nd) (s_cons (s_asO (i := 2) sc.nd (e_callD g_lreel (hr.mono (by omega)) tk (a_cons (e_nm 0) (a_cons (e_nm 1) a_nil))))
    (s_cons (s_end (s_asV (i := 3) sc.nd (e_callD g_ltext (hr.mono (by omega)) tk (a_cons (e_nm 2) (a_cons e_int a_nil)))))
    (s_one (s_end (s_for ps rfl (i_rg1 (by rfl) m_range (a_cons e_int a_nil)) (g_nm sc.nd) (s_cons (s_asX (i := 5) sc.nd (e_callD g_least (hr.mono (by omega)) tk (a_cons (e_nm 3) a_nil)))
    (s_cons (s_end (s_if (t_thaw 5 (w_or (t_not (t_truth (e_isi (by rfl) m_isinstance (by rfl) m_tuple PyProof.Rows.boot_tuple (by rfl) (e_nm 5)))) (w_or (t_cmp (op_neU hr.units) prim_eq (e_callB cr_lenU prim_len (by rfl) m_len PySem.boot_len (a_cons (e_nm 5) a_nil)) e_int (nomark _)) (w_or1 (t_not (t_truth (e_callD g_lwhole (hr.mono (by omega)) tk (a_cons (e_ix (ix_U (hu_of hr)) prim_ixU (e_nm 5) e_int (fun _ _ => rfl)) a_nil))))))).pt) (s_one (s_ret e_bl)) s_nil))
    (s_cons (s_if (t_thaw 5 (w_or (t_not (t_truth (e_isi (by rfl) m_isinstance (by rfl) m_tuple PyProof.Rows.boot_tuple (by rfl) (e_ix (ix_U (hu_of hr)) prim_ixU (e_nm 5) e_int (fun _ _ => rfl))))) (w_or1 (t_cmp (op_neU hr.units) prim_eq (e_callB cr_lenU prim_len (by rfl) m_len PySem.boot_len (a_cons (e_ix (ix_U (hu_of hr)) prim_ixU (e_nm 5) e_int (fun _ _ => rfl)) a_nil)) (e_ix (ix_U (hu_of hr)) prim_ixU (e_nm 5) e_int (fun _ _ => rfl)) (nomark _)))).pt) (s_one (s_ret e_bl)) s_nil)
    (s_cons (s_if (t_thaw 5 (t_cmp (op_neU hr.units) prim_eq (e_callTy (cr_listU rfl) prim_list (by rfl) m_list PyProof.Rows.boot_list (a_cons (e_ix (ix_U (hu_of hr)) prim_ixU (e_nm 5) e_int (fun _ _ => rfl)) a_nil)) (e_sortset rfl hr.units (by rfl) m_sorted (by rfl) m_set (a_cons (e_ix (ix_U (hu_of hr)) prim_ixU (e_nm 5) e_int (fun _ _ => rfl)) a_nil)) (nomark _))) (s_one (s_ret e_bl)) s_nil)
    (s_cons (s_if (t_thaw 5 (t_not (t_truth (e_callB (cr_all rfl) prim_all (by rfl) m_all PyProof.Rows.boot_all (a_cons (e_lc (own := [("place", 7)]) (tgNm 7) rfl sc.nd (i_seq (e_ix (ix_U (hu_of hr)) prim_ixU (e_nm 5) e_int (fun _ _ => rfl))) (blkOk_by (by rfl)) (fun _ _ _ _ _ => (pg_name sc.nd rfl (by first | exact .inl rfl | exact .inr rfl))) (fun _ _ _ _ _ => pts_0) (fun _ _ _ _ _ => (e_and (e_callD g_lwhole (hr.mono (by omega)) takes0 (a_cons (e_nm 7) a_nil)) (e_one (e_chain op_leU op_ltU e_int (e_nm 7) (e_callB cr_lenU prim_len (by rfl) m_len PySem.boot_len (a_cons (e_nm 3) a_nil))))))) a_nil))))) (s_one (s_ret e_bl)) s_nil)
    (s_cons (s_if (t_thaw 5 (w_or (t_cmp op_isnU prim_is (e_callD g_lmissed (hr.mono (by omega)) tk (a_cons (e_nm 3) (a_cons (e_ix (ix_U (hu_of hr)) prim_ixU (e_nm 5) e_int (fun _ _ => rfl)) a_nil))) e_non (nomark _)) (w_or1 (t_cmp (op_neU hr.units) prim_eq (e_cmp op_isU prim_is (e_ix (ix_U (hu_of hr)) prim_ixU (e_nm 5) e_int (fun _ _ => rfl)) e_non (nomark _)) (e_cmp (op_eqU hr.units) prim_eq (e_ix (ix_U (hu_of hr)) prim_ixU (e_nm 5) e_int (fun _ _ => rfl)) e_int (nomark _)) (nomark _)))).pt) (s_one (s_ret e_bl)) s_nil)
    (s_one (s_end (s_if (t_thaw 5 (t_cmp op_gtU prim_ord (e_ix (ix_U (hu_of hr)) prim_ixU (e_nm 5) e_int (fun _ _ => rfl)) e_int (nomark _))) (s_cons (s_if (t_thaw 5 (t_not (t_truth (e_callD g_lshows (hr.mono (by omega)) tk (a_cons (e_nm 3) (a_cons (e_lstD a_nil) (a_cons (e_bin op_subU prim_sub (e_ix (ix_U (hu_of hr)) prim_ixU (e_nm 5) e_int (fun _ _ => rfl)) e_int) (a_cons (e_ix (ix_U (hu_of hr)) prim_ixU (e_nm 5) e_int (fun _ _ => rfl)) a_nil)))))))) (s_one (s_ret e_bl)) s_nil)
    (s_blk (i := 5) (j := 6) (Gf := popG 2 5) (s_asV (i := 6) sc.nd (e_callD g_llists (hr.mono (by omega)) tk (a_cons (e_ix (ix_U (hu_of hr)) prim_ixU (e_nm 5) e_int (fun _ _ => rfl)) a_nil))) (e_ix (ix_U (hu_of hr)) prim_ixU (e_nm 6) (e_callD g_lpick (hr.mono (by omega)) tk (a_cons (e_nm 2) (a_cons (e_callB cr_lenU prim_len (by rfl) m_len PySem.boot_len (a_cons (e_nm 6) a_nil)) a_nil))) (fun _ _ => rfl)) (s_one (s_end (s_if (t_cmp (op_neU hr.units) prim_eq (e_callB cr_lenU prim_len (by rfl) m_len PySem.boot_len (a_cons (e_lc (own := [("one", 8)]) (tgNm 8) rfl sc.nd (i_seq (e_callD g_llists (hr.mono (by omega)) tk (a_cons (e_ix (ix_U (hu_of hr)) prim_ixU (e_nm 5) e_int (fun _ _ => rfl)) a_nil))) (blkOk_by (by rfl)) (fun _ _ _ _ _ => (pg_name sc.nd rfl (by first | exact .inl rfl | exact .inr rfl))) (fun _ _ _ _ _ => (pts_1 (t_cmp (op_nonD (hu_of hr)) prim_nonD e_non (e_nm 8) (by rfl)))) (fun _ _ _ _ _ => (e_nm 8))) a_nil)) e_int (nomark _)) (s_one (s_ret e_bl)) s_nil))))) s_nil))))))))))))))))
    (s_one (s_ret e_bl))))
theorem all_mk {l : PySem.W.OpenLaw} {w : World} {K : PySem.W.Frag} {h : Heap} {mg : Str → Option Value} {fa : Addr} (X : K.In h) (G : h.Ns mainGlobals mg) (hfa : mg "law" = some (.ref fa))
    {f0 : Addr} {od0 an0 : Option Addr} {sl0 : Array (Option Value)} {oc0 kV0 dc0 pm0 cd0 ct0 : Value}
    (a0 : PySem.W.nsIn K mainGlobals "_law_lists" = some (some (.ref f0))) (l0 : K.lookup f0 = some ⟨oc0, od0, .func (PySem.W.fnOf "_law_lists" "_law_lists" (defArgs st_llists) (defBody st_llists) (defScope st_llists) .none kV0 dc0 pm0 an0 cd0 ct0), sl0⟩) (c0 : PySem.W.codeIn K cd0 "_law_lists" = true) (k0 : PySem.W.keepIn K (.ref f0) = true)
    {f1 : Addr} {od1 an1 : Option Addr} {sl1 : Array (Option Value)} {oc1 kV1 dc1 pm1 cd1 ct1 : Value}
    (a1 : PySem.W.nsIn K mainGlobals "_law_pick" = some (some (.ref f1))) (l1 : K.lookup f1 = some ⟨oc1, od1, .func (PySem.W.fnOf "_law_pick" "_law_pick" (defArgs st_lpick) (defBody st_lpick) (defScope st_lpick) .none kV1 dc1 pm1 an1 cd1 ct1), sl1⟩) (c1 : PySem.W.codeIn K cd1 "_law_pick" = true) (k1 : PySem.W.keepIn K (.ref f1) = true)
    {f2 : Addr} {od2 an2 : Option Addr} {sl2 : Array (Option Value)} {oc2 kV2 dc2 pm2 cd2 ct2 : Value}
    (a2 : PySem.W.nsIn K mainGlobals "_law_whole" = some (some (.ref f2))) (l2 : K.lookup f2 = some ⟨oc2, od2, .func (PySem.W.fnOf "_law_whole" "_law_whole" (defArgs st_lwhole) (defBody st_lwhole) (defScope st_lwhole) .none kV2 dc2 pm2 an2 cd2 ct2), sl2⟩) (c2 : PySem.W.codeIn K cd2 "_law_whole" = true) (k2 : PySem.W.keepIn K (.ref f2) = true)
    {f3 : Addr} {od3 an3 : Option Addr} {sl3 : Array (Option Value)} {oc3 kV3 dc3 pm3 cd3 ct3 : Value}
    (a3 : PySem.W.nsIn K mainGlobals "_law_touching" = some (some (.ref f3))) (l3 : K.lookup f3 = some ⟨oc3, od3, .func (PySem.W.fnOf "_law_touching" "_law_touching" (defArgs st_ltouching) (defBody st_ltouching) (defScope st_ltouching) .none kV3 dc3 pm3 an3 cd3 ct3), sl3⟩) (c3 : PySem.W.codeIn K cd3 "_law_touching" = true) (k3 : PySem.W.keepIn K (.ref f3) = true)
    {f4 : Addr} {od4 an4 : Option Addr} {sl4 : Array (Option Value)} {oc4 kV4 dc4 pm4 cd4 ct4 : Value}
    (a4 : PySem.W.nsIn K mainGlobals "_law_shows" = some (some (.ref f4))) (l4 : K.lookup f4 = some ⟨oc4, od4, .func (PySem.W.fnOf "_law_shows" "_law_shows" (defArgs st_lshows) (defBody st_lshows) (defScope st_lshows) .none kV4 dc4 pm4 an4 cd4 ct4), sl4⟩) (c4 : PySem.W.codeIn K cd4 "_law_shows" = true) (k4 : PySem.W.keepIn K (.ref f4) = true)
    {f5 : Addr} {od5 an5 : Option Addr} {sl5 : Array (Option Value)} {oc5 kV5 dc5 pm5 cd5 ct5 : Value}
    (a5 : PySem.W.nsIn K mainGlobals "_law_missed" = some (some (.ref f5))) (l5 : K.lookup f5 = some ⟨oc5, od5, .func (PySem.W.fnOf "_law_missed" "_law_missed" (defArgs st_lmissed) (defBody st_lmissed) (defScope st_lmissed) .none kV5 dc5 pm5 an5 cd5 ct5), sl5⟩) (c5 : PySem.W.codeIn K cd5 "_law_missed" = true) (k5 : PySem.W.keepIn K (.ref f5) = true)
    {f6 : Addr} {od6 an6 : Option Addr} {sl6 : Array (Option Value)} {oc6 kV6 dc6 pm6 cd6 ct6 : Value}
    (a6 : PySem.W.nsIn K mainGlobals "missed_of" = some (some (.ref f6))) (l6 : K.lookup f6 = some ⟨oc6, od6, .func (PySem.W.fnOf "missed_of" "missed_of" (defArgs st_missed_of) (defBody st_missed_of) (defScope st_missed_of) .none kV6 dc6 pm6 an6 cd6 ct6), sl6⟩) (c6 : PySem.W.codeIn K cd6 "missed_of" = true) (k6 : PySem.W.keepIn K (.ref f6) = true)
    {f7 : Addr} {od7 an7 : Option Addr} {sl7 : Array (Option Value)} {oc7 kV7 dc7 pm7 cd7 ct7 : Value}
    (a7 : PySem.W.nsIn K mainGlobals "touching" = some (some (.ref f7))) (l7 : K.lookup f7 = some ⟨oc7, od7, .func (PySem.W.fnOf "touching" "touching" (defArgs st_touching) (defBody st_touching) (defScope st_touching) .none kV7 dc7 pm7 an7 cd7 ct7), sl7⟩) (c7 : PySem.W.codeIn K cd7 "touching" = true) (k7 : PySem.W.keepIn K (.ref f7) = true)
    {f8 : Addr} {od8 an8 : Option Addr} {sl8 : Array (Option Value)} {oc8 kV8 dc8 pm8 cd8 ct8 : Value}
    (a8 : PySem.W.nsIn K mainGlobals "pins_ahead" = some (some (.ref f8))) (l8 : K.lookup f8 = some ⟨oc8, od8, .func (PySem.W.fnOf "pins_ahead" "pins_ahead" (defArgs st_pins_ahead) (defBody st_pins_ahead) (defScope st_pins_ahead) .none kV8 dc8 pm8 an8 cd8 ct8), sl8⟩) (c8 : PySem.W.codeIn K cd8 "pins_ahead" = true) (k8 : PySem.W.keepIn K (.ref f8) = true)
    {f9 : Addr} {od9 an9 : Option Addr} {sl9 : Array (Option Value)} {oc9 kV9 dc9 pm9 cd9 ct9 : Value}
    (a9 : PySem.W.nsIn K mainGlobals "tightest" = some (some (.ref f9))) (l9 : K.lookup f9 = some ⟨oc9, od9, .func (PySem.W.fnOf "tightest" "tightest" (defArgs st_tightest) (defBody st_tightest) (defScope st_tightest) .none kV9 dc9 pm9 an9 cd9 ct9), sl9⟩) (c9 : PySem.W.codeIn K cd9 "tightest" = true) (k9 : PySem.W.keepIn K (.ref f9) = true)
    {f10 : Addr} {od10 an10 : Option Addr} {sl10 : Array (Option Value)} {oc10 kV10 dc10 pm10 cd10 ct10 : Value}
    (a10 : PySem.W.nsIn K mainGlobals "tree_for" = some (some (.ref f10))) (l10 : K.lookup f10 = some ⟨oc10, od10, .func (PySem.W.fnOf "tree_for" "tree_for" (defArgs st_tree_for) (defBody st_tree_for) (defScope st_tree_for) .none kV10 dc10 pm10 an10 cd10 ct10), sl10⟩) (c10 : PySem.W.codeIn K cd10 "tree_for" = true) (k10 : PySem.W.keepIn K (.ref f10) = true)
    {f11 : Addr} {od11 an11 : Option Addr} {sl11 : Array (Option Value)} {oc11 kV11 dc11 pm11 cd11 ct11 : Value}
    (a11 : PySem.W.nsIn K mainGlobals "pins_within" = some (some (.ref f11))) (l11 : K.lookup f11 = some ⟨oc11, od11, .func (PySem.W.fnOf "pins_within" "pins_within" (defArgs st_pins_within) (defBody st_pins_within) (defScope st_pins_within) .none kV11 dc11 pm11 an11 cd11 ct11), sl11⟩) (c11 : PySem.W.codeIn K cd11 "pins_within" = true) (k11 : PySem.W.keepIn K (.ref f11) = true)
    {f12 : Addr} {od12 an12 : Option Addr} {sl12 : Array (Option Value)} {oc12 kV12 dc12 pm12 cd12 ct12 : Value}
    (a12 : PySem.W.nsIn K mainGlobals "least" = some (some (.ref f12))) (l12 : K.lookup f12 = some ⟨oc12, od12, .func (PySem.W.fnOf "least" "least" (defArgs st_least) (defBody st_least) (defScope st_least) .none kV12 dc12 pm12 an12 cd12 ct12), sl12⟩) (c12 : PySem.W.codeIn K cd12 "least" = true) (k12 : PySem.W.keepIn K (.ref f12) = true)
    {f13 : Addr} {od13 an13 : Option Addr} {sl13 : Array (Option Value)} {oc13 kV13 dc13 pm13 cd13 ct13 : Value}
    (a13 : PySem.W.nsIn K mainGlobals "_law_text" = some (some (.ref f13))) (l13 : K.lookup f13 = some ⟨oc13, od13, .func (PySem.W.fnOf "_law_text" "_law_text" (defArgs st_ltext) (defBody st_ltext) (defScope st_ltext) .none kV13 dc13 pm13 an13 cd13 ct13), sl13⟩) (c13 : PySem.W.codeIn K cd13 "_law_text" = true) (k13 : PySem.W.keepIn K (.ref f13) = true)
    {f14 : Addr} {od14 an14 : Option Addr} {sl14 : Array (Option Value)} {oc14 kV14 dc14 pm14 cd14 ct14 : Value}
    (a14 : PySem.W.nsIn K mainGlobals "_law_reel" = some (some (.ref f14))) (l14 : K.lookup f14 = some ⟨oc14, od14, .func (PySem.W.fnOf "_law_reel" "_law_reel" (defArgs st_lreel) (defBody st_lreel) (defScope st_lreel) .none kV14 dc14 pm14 an14 cd14 ct14), sl14⟩) (c14 : PySem.W.codeIn K cd14 "_law_reel" = true) (k14 : PySem.W.keepIn K (.ref f14) = true)
    {f15 : Addr} {od15 an15 : Option Addr} {sl15 : Array (Option Value)} {oc15 kV15 dc15 pm15 cd15 ct15 : Value}
    (a15 : PySem.W.nsIn K mainGlobals "law" = some (some (.ref f15))) (l15 : K.lookup f15 = some ⟨oc15, od15, .func (PySem.W.fnOf "law" "law" (defArgs st_law) (defBody st_law) (defScope st_law) .none kV15 dc15 pm15 an15 cd15 ct15), sl15⟩) (c15 : PySem.W.codeIn K cd15 "law" = true) (k15 : PySem.W.keepIn K (.ref f15) = true)
    (z0 : PySem.W.nsIn K mainGlobals "all" = some none)
    (z1 : PySem.W.nsIn K mainGlobals "any" = some none)
    (z2 : PySem.W.nsIn K mainGlobals "bool" = some none)
    (z3 : PySem.W.nsIn K mainGlobals "int" = some none)
    (z4 : PySem.W.nsIn K mainGlobals "isinstance" = some none)
    (z5 : PySem.W.nsIn K mainGlobals "len" = some none)
    (z6 : PySem.W.nsIn K mainGlobals "list" = some none)
    (z7 : PySem.W.nsIn K mainGlobals "max" = some none)
    (z8 : PySem.W.nsIn K mainGlobals "min" = some none)
    (z9 : PySem.W.nsIn K mainGlobals "range" = some none)
    (z10 : PySem.W.nsIn K mainGlobals "set" = some none)
    (z11 : PySem.W.nsIn K mainGlobals "sorted" = some none)
    (z12 : PySem.W.nsIn K mainGlobals "str" = some none)
    (z13 : PySem.W.nsIn K mainGlobals "tuple" = some none)
    {tk0 : Tok} (q0 : PySem.W.nsIn K mainGlobals "MOST_SIGNS" = some (some (.int 12 tk0)))
    : ∃ fd : FuncData, (∀ (s : Shared) (v : Value), BindsTo s fd ⟨[v], []⟩ [("script", v)]) ∧ ∀ base : Heap, K.In base → base.Ns mainGlobals mg → FnOk l.prog w K mg base (L2.CX l.prog w) 18 fa fd ["script"] (spD K [false] phi_law_k10_v2) := by
  have e := hfa.symm.trans (PySem.W.mg_of X G a15)
  cases e
  have m_all := PySem.W.mg_none_of X G z0
  have m_any := PySem.W.mg_none_of X G z1
  have m_bool := PySem.W.mg_none_of X G z2
  have m_int := PySem.W.mg_none_of X G z3
  have m_isinstance := PySem.W.mg_none_of X G z4
  have m_len := PySem.W.mg_none_of X G z5
  have m_list := PySem.W.mg_none_of X G z6
  have m_max := PySem.W.mg_none_of X G z7
  have m_min := PySem.W.mg_none_of X G z8
  have m_range := PySem.W.mg_none_of X G z9
  have m_set := PySem.W.mg_none_of X G z10
  have m_sorted := PySem.W.mg_none_of X G z11
  have m_str := PySem.W.mg_none_of X G z12
  have m_tuple := PySem.W.mg_none_of X G z13
  have c_MOST_SIGNS : ∃ t, mg "MOST_SIGNS" = some (.int 12 t) := ⟨_, PySem.W.mg_of X G q0⟩
  have F0 := fun_mk (st := st_llists) l0 c0 k0
  have F1 := fun_mk (st := st_lpick) l1 c1 k1
  have F2 := fun_mk (st := st_lwhole) l2 c2 k2
  have F3 := fun_mk (st := st_ltouching) l3 c3 k3
  have F4 := fun_mk (st := st_lshows) l4 c4 k4
  have F5 := fun_mk (st := st_lmissed) l5 c5 k5
  have F6 := fun_mk (st := st_missed_of) l6 c6 k6
  have F7 := fun_mk (st := st_touching) l7 c7 k7
  have F8 := fun_mk (st := st_pins_ahead) l8 c8 k8
  have F9 := fun_mk (st := st_tightest) l9 c9 k9
  have F10 := fun_mk (st := st_tree_for) l10 c10 k10
  have F11 := fun_mk (st := st_pins_within) l11 c11 k11
  have F12 := fun_mk (st := st_least) l12 c12 k12
  have F13 := fun_mk (st := st_ltext) l13 c13 k13
  have F14 := fun_mk (st := st_lreel) l14 c14 k14
  have F15 := fun_mk (st := st_law) l15 c15 k15
  refine ⟨PySem.W.fnOf "law" "law" (defArgs st_law) (defBody st_law) (defScope st_law) .none kV15 dc15 pm15 an15 cd15 ct15, fun s v => .of_eq rfl, fun base _ _ => ?_⟩
  have g_llists := ok_llists (P := l.prog) (w := w) (base := base)    F0 (PySem.W.mg_of X G a0)
  have g_lpick := ok_lpick (P := l.prog) (w := w) (base := base)    F1 (PySem.W.mg_of X G a1)
  have g_lwhole := ok_lwhole (P := l.prog) (w := w) (base := base) m_bool m_int m_isinstance   F2 (PySem.W.mg_of X G a2)
  have g_ltouching := ok_ltouching (P := l.prog) (w := w) (base := base) m_any m_len m_list m_max m_range   F3 (PySem.W.mg_of X G a3)
  have g_lshows := ok_lshows (P := l.prog) (w := w) (base := base) m_all m_any m_isinstance m_len m_list m_str m_tuple  g_lwhole g_ltouching F4 (PySem.W.mg_of X G a4)
  have g_lmissed := ok_lmissed (P := l.prog) (w := w) (base := base) m_any m_len m_range m_sorted   F5 (PySem.W.mg_of X G a5)
  have g_missed_of := ok_missed_of (P := l.prog) (w := w) (base := base) m_len m_list m_range   F6 (PySem.W.mg_of X G a6)
  have g_touching := ok_touching (P := l.prog) (w := w) (base := base) m_len m_range m_sorted   F7 (PySem.W.mg_of X G a7)
  have g_pins_ahead := ok_pins_ahead (P := l.prog) (w := w) (base := base) m_int m_len m_range   F8 (PySem.W.mg_of X G a8)
  have g_tightest := ok_tightest (P := l.prog) (w := w) (base := base) m_len m_range  g_missed_of g_touching g_pins_ahead F9 (PySem.W.mg_of X G a9)
  have g_tree_for := ok_tree_for (P := l.prog) (w := w) (base := base)   g_tightest F10 (PySem.W.mg_of X G a10)
  have g_pins_within := ok_pins_within (P := l.prog) (w := w) (base := base)   g_tightest F11 (PySem.W.mg_of X G a11)
  have g_least := ok_least (P := l.prog) (w := w) (base := base) m_len m_sorted m_tuple c_MOST_SIGNS g_tree_for g_pins_within F12 (PySem.W.mg_of X G a12)
  have g_ltext := ok_ltext (P := l.prog) (w := w) (base := base) m_len m_range  g_lpick F13 (PySem.W.mg_of X G a13)
  have g_lreel := ok_lreel (P := l.prog) (w := w) (base := base) m_len m_range   F14 (PySem.W.mg_of X G a14)
  exact ok_law m_all m_isinstance m_len m_list m_max m_min m_range m_set m_sorted m_tuple  g_llists g_lpick g_lshows g_lmissed g_lwhole g_least g_ltext g_lreel F15
end PyD.k10

end

section
set_option maxHeartbeats 2000000
namespace PyD.S
open PySem PySem.Spec L2 PyD.S
theorem two64 : (2 : Int) ^ 64 = 18446744073709551616 := rfl
theorem mulOk_r {a b : Int} (h : b < 18446744073709551616) (h' : -18446744073709551616 < b) : mulOk a b := .inr ⟨by rw [two64]; exact h', by rw [two64]; exact h⟩
theorem mulOk_l {a b : Int} (h : a < 18446744073709551616) (h' : -18446744073709551616 < a) : mulOk a b := .inl ⟨by rw [two64]; exact h', by rw [two64]; exact h⟩
theorem log_ok {m : Int} (h0 : 0 < m) (h : m ≤ 1000000000) : m.natAbs.log2 ≤ 8000 := by
  have h1 : m.natAbs < 2 ^ 30 := by omega
  have h2 : m.natAbs ≠ 0 := by omega
  exact Nat.le_trans (Nat.le_of_lt ((Nat.log2_lt h2).mpr h1)) (by decide)
noncomputable def Lt (c : Nat) : Prop := 97 ≤ c ∧ c ≤ 122
noncomputable def Lts (l : List Nat) : Prop := ∀ c ∈ l, Lt c
theorem Lts.ok {l : List Nat} (h : Lts l) : okT l := fun c hc => by have := h c hc; unfold Lt at this; omega
theorem Lts.app {a b : List Nat} (h : Lts a) (h' : Lts b) : Lts (a ++ b) := fun c hc => (List.mem_append.mp hc).elim (h c) (h' c)
theorem Lts.take {a : List Nat} (n : Nat) (h : Lts a) : Lts (a.take n) := fun c hc => h c (List.mem_of_mem_take hc)
theorem Lts.drop {a : List Nat} (n : Nat) (h : Lts a) : Lts (a.drop n) := fun c hc => h c (List.mem_of_mem_drop hc)
theorem Lts.one {c : Nat} (h : Lt c) : Lts [c] := fun x hx => by rw [List.mem_singleton.mp hx]; exact h
theorem Lts.nil : Lts [] := fun x hx => by cases hx
theorem okT_nil : okT [] := fun x hx => by cases hx
noncomputable instance (l : List Nat) : Decidable (Lts l) := by unfold Lts Lt; infer_instance
noncomputable instance (l : List Nat) : Decidable (okT l) := by unfold okT; infer_instance
theorem bi_mk {b : Bool} {p q : Prop} (h : b = true → p) (h' : b = false → q) : bi b p q := ⟨h, h'⟩
theorem mxmn {a b n : Int} (h : a ≤ b) : a ≤ maxI a (minI b n) ∧ maxI a (minI b n) ≤ b := by
  unfold maxI minI
  split <;> split at * <;> omega
theorem okT.at {l : List Nat} {i c : Nat} (h : okT l) (e : l[i]? = some c) : c < 1114112 := h c (List.mem_of_getElem? e)
theorem okL_of {α : Type} {o : Option α} {a : α} {k : α → Prop} (h : o = some a) (hk : k a) : okL o k := by rw [h]; exact hk
theorem mul_tx {l : List Nat} {n : Int} : mulVD [.str (tx l), .int n] = if l.length ≤ 1000 ∧ -1000 ≤ n ∧ n ≤ 1000 then some (false, .str (tx (List.replicate n.toNat l).flatten)) else none := by
  simp only [mulVD, mulD, tx_len, tx_list]
  rfl
theorem at_last {α : Type} {l : List α} (h : l ≠ []) : atI l (-1) = l.getLast? := by
  have hl : 0 < l.length := List.length_pos_iff.mpr h
  unfold atI ixN
  have h1 : ¬ (0 : Int) ≤ -1 := by omega
  rw [if_neg h1, if_pos (by omega)]
  simp only [Option.bind_some]
  rw [List.getLast?_eq_getElem?]
  congr 1
  omega
theorem join_txs {ls : List (List Nat)} (h : ∀ l ∈ ls, l.length = 1) (hl : ls.length ≤ 16777216) : joinD [.str (tx []), .lst (ls.map dtx)] = some (false, .str (tx ls.flatten)) := by
  rw [join_lst, if_pos (by rw [sum_ones h]; simp; omega), joinL_nil]
end PyD.S

end

section
set_option maxHeartbeats 2000000
namespace PyD.S
open PySem PySem.Spec L2 PyD.S PyProof.Rows
noncomputable abbrev T := List Nat
noncomputable def leT (a b : T) : Bool := !decide (b < a)
theorem leT_iff {a b : T} : leT a b = true ↔ a ≤ b := by simp [leT, List.not_lt]
theorem leT_trans (a b c : T) (h : leT a b = true) (h' : leT b c = true) : leT a c = true := leT_iff.mpr (List.le_trans (leT_iff.mp h) (leT_iff.mp h'))
theorem leT_total (a b : T) : (leT a b || leT b a) = true := by
  rw [Bool.or_eq_true, leT_iff, leT_iff]
  exact List.le_total a b
noncomputable def kT (x : T) : Key := .inr (tx x)
theorem le_kT (p q : T) : leT p q = PySem.W.dataLe false pyK (kT p) (kT q) := by
  show _ = !(PyProof.Rows.listOrd PyProof.Rows.itemOrd).blt (PySem.W.keyToks (.str (tx q))) (PySem.W.keyToks (.str (tx p)))
  have e : ∀ p : T, PySem.W.keyToks (.str (tx p)) = [.inr p] := fun p => by
    show [Sum.inr (tx p).cps.toList] = _
    rw [tx_list]
  rw [e, e]
  show _ = !PyProof.Rows.lexLt PyProof.Rows.itemOrd [.inr q] [.inr p]
  have l2 : ∀ x y : T, PyProof.Rows.itemOrd.blt (.inr x) (.inr y) = decide (x < y) := fun _ _ => rfl
  simp only [PyProof.Rows.lex_cons, l2, PyProof.Rows.lexLt, Bool.and_false, Bool.or_false]
  rfl
theorem sort_keys {kvs : List (Key × D)} {ks : List T} (h : kvs.map (·.1) = ks.map kT) : sortUD [.dic kvs] = some (true, .lst ((ks.mergeSort leT).map dtx)) := by
  unfold sortUD
  have c : PySem.W.AllAlike ((kvs.map (·.1)).map pyK) := by
    rw [h]
    intro d hd d' hd'
    obtain ⟨p, hp, rfl⟩ := List.mem_map.mp hd
    obtain ⟨p', hp', rfl⟩ := List.mem_map.mp hd'
    obtain ⟨q, _, rfl⟩ := List.mem_map.mp hp
    obtain ⟨q', _, rfl⟩ := List.mem_map.mp hp'
    rfl
  dsimp only
  rw [if_pos c, h]
  unfold sortK
  rw [← List.map_mergeSort (r := leT) (s := PySem.W.dataLe false pyK) (f := kT) (fun a _ b _ => le_kT a b), List.map_map]
  rfl
noncomputable def leN (a b : Nat) : Bool := decide (a ≤ b)
end PyD.S

end

namespace PyD.S
open PySem PySem.Spec L2
end PyD.S

namespace PyD.S
open PySem PySem.Spec L2
end PyD.S

section
set_option maxHeartbeats 2000000
namespace PyD.S
open PySem PySem.Spec L2
noncomputable def cutT (l : List Nat) (i j : Nat) : List Nat := (l.take j).drop i
noncomputable def prs (l : List Nat) (m n : Nat) : List (Key × D) := (List.range n).map fun a => (.inr (tx (cutT l a (a + m))), .bl true)
noncomputable def manyAt (l : List Nat) (m : Nat) : Nat := ((l.length : Int) - m + 1).toNat
theorem cut_nat (l : List Nat) (i m : Nat) : cutL l (some (i : Int)) (some ((i : Int) + (m : Int))) = cutT l i (i + m) := by
  rw [cut_mid (by omega) (by omega)]
  unfold cutT
  congr 1
noncomputable def addU (ks : List T) (x : T) : List T := if x ∈ ks then ks else ks ++ [x]
noncomputable def dicT (ks : List T) : List (Key × D) := ks.map fun x => (.inr (tx x), .bl true)
theorem kT_inj {a b : T} (h : (Sum.inr (tx a) : Key) = .inr (tx b)) : a = b := tx_inj (Sum.inr.inj h)
theorem put_dicT (ks : List T) (x : T) : putD (dicT ks) (.inr (tx x)) (.bl true) = dicT (addU ks x) := by
  unfold putD addU
  by_cases h : x ∈ ks
  · have e : ((dicT ks).any fun kv => decide (kv.1 = .inr (tx x))) = true := by
      rw [List.any_eq_true]
      exact ⟨(.inr (tx x), .bl true), List.mem_map.mpr ⟨x, h, rfl⟩, by simp⟩
    rw [if_pos h, if_pos e]
    unfold dicT
    rw [List.map_map]
    apply List.map_congr_left
    intro y _
    show (if (Sum.inr (tx y) : Key) = .inr (tx x) then _ else _) = _
    split
    · rename_i z
      rw [kT_inj z]
    · rfl
  · have e : ¬ ((dicT ks).any fun kv => decide (kv.1 = .inr (tx x))) = true := by
      rw [List.any_eq_true]
      rintro ⟨kv, hm, hk⟩
      obtain ⟨y, hy, rfl⟩ := List.mem_map.mp hm
      have := kT_inj (of_decide_eq_true hk)
      rw [← this] at h
      exact h hy
    rw [if_neg h, if_neg e]
    simp [dicT]
theorem cutT_Lts {l : T} {i j : Nat} (h : okT l) : okT (cutT l i j) := fun c hc => h c (List.mem_of_mem_take (List.mem_of_mem_drop hc))
noncomputable def pcs (l : T) (m : Nat) : Nat → List T
  | 0 => []
  | n + 1 => addU (pcs l m n) (cutT l n (n + m))
theorem mem_addU {ks : List T} {x y : T} : y ∈ addU ks x ↔ y ∈ ks ∨ y = x := by
  unfold addU
  split
  · rename_i h
    exact ⟨.inl, fun z => z.elim id fun e => e ▸ h⟩
  · simp
theorem nodup_addU {ks : List T} {x : T} (h : ks.Nodup) : (addU ks x).Nodup := by
  unfold addU
  split
  · exact h
  · rename_i hx
    rw [List.nodup_append]
    refine ⟨h, by simp, fun a ha b hb => ?_⟩
    rw [List.mem_singleton.mp hb]
    exact fun e => hx (e ▸ ha)
theorem pcs_mem {l : T} {m : Nat} {y : T} : ∀ {n : Nat}, y ∈ pcs l m n ↔ ∃ a, a < n ∧ y = cutT l a (a + m)
  | 0 => by simp [pcs]
  | n + 1 => by
    unfold pcs
    rw [mem_addU, pcs_mem]
    constructor
    · rintro (⟨a, ha, e⟩ | e)
      · exact ⟨a, by omega, e⟩
      · exact ⟨n, by omega, e⟩
    · rintro ⟨a, ha, e⟩
      by_cases h : a = n
      · exact .inr (h ▸ e)
      · exact .inl ⟨a, by omega, e⟩
noncomputable def pcsT (l : T) (m : Nat) : List T := pcs l m (manyAt l m)
theorem pcs_len {l : T} {m : Nat} : ∀ n : Nat, (pcs l m n).length ≤ n
  | 0 => Nat.le_refl _
  | n + 1 => by
    unfold pcs addU
    have := pcs_len (l := l) (m := m) n
    split
    · omega
    · simp; omega
theorem dicT_len (ks : List T) : (dicT ks).length = ks.length := by simp [dicT]
end PyD.S

end

namespace PyD.S
open PySem PySem.Spec L2
end PyD.S

namespace PyD.S
open PySem PySem.Spec L2
end PyD.S

set_option hygiene false in
local macro_rules | `(tactic| walk_at "k1be157fd") => `(tactic| simp -dsimp -implicitDefEqProofs only [is_nn, is_in, is_sn, is_tn, is_ln, is_bn, os_endA, os_endO, os_endG, os_endP, os_endD, os_endS, os_endFr, os_endWh, os_bod, endK_nx, endK_rt, endK_bk, endK_ct, endK_exc, bodK_nx, bodK_rt, bodK_bk, bodK_ct, bodK_exc, frM_t, frM_f, frM_n, wpM_t, wpM_f, wpM_n, ok_c, ok_nm, nmK_v, nmK_o, ok_mv, mvK_v, mvK_o, ok_dm, dmK_v, dmK_o, ok_nil, ok_cons, ok_one, ok_two, ok_op, ok_tstB, ok_tstF, ok_not, bi_true, bi_false, bi_dec, bj_true, bj_false, bj_not, bi_not_dec, ok_and, ok_or, ok_ifF, ok_andF, ok_orF, ok_notF, ok_tup, ok_lst, ok_dic, ok_bm, intR_int, ok_prtN, ok_prtS, ok_sl, callK_ret, ok_call, ok_itA, ok_lc, ok_ch, ok_mut, mutG, shK_sh, shK2_sh, ordB, ownK_o, os_sk, os_bk, os_ct, seqK_nx, seqK_rt, seqK_bk, seqK_ct, seqK_exc, os_seq, os_dr, os_rt, vK_sh, vK_fr, os_asV, os_asO, os_asG, os_asP, os_st, oK_fr, ok_gNm, ok_gTp, ok_gNms0, ok_gNms1, os_fr, ok_run, defK_nx, defK_sh, defK_fr, loopK_nx, loopK_ct, loopK_bk, loopK_rt, okL_some, okL_map, okL_if, okL_ifo, rsls, rsl, stos, stoD, mkR, blD, free_eq, frS_e, frS_v, frS_o, nxK_nx, List.getElem?_cons_zero, List.getElem?_cons_succ, List.set_cons_zero, List.set_cons_succ, List.length_cons, List.length_nil, Nat.zero_add, Nat.reduceAdd, mkE, slIn, List.replicate, List.cons_append, List.nil_append, outsOf, pick, lentOk, nodupB, slotsOf, borrows, putBack, resFlat, add_tx, add_lst, add_tup, add_int, sub_int, mulV_int, mod_int, fdv_int, pow_int, neg_int, eq_int, eqOp_eq, ne_false, ne_true, tx_list, len_tx, len_lst, len_tup, len_scr, len_dic, ix_lst, ix_tup, ix_tx, ix_scr, at_0, at_1, at_2, set_lst, app_lst, ixN_30, ixN_31, ixN_32, ixN_20, ixN_21, ixN_10, sl_tx, sl_lst, sl_tup, sl_scr, true_and, and_true, ordD, Bool.not_false, Bool.not_true, Bool.and_true, Bool.true_and, Bool.or_true, Bool.true_or, List.elem, Bool.false_eq_true, if_true, if_false, isLst, isStr, isDic, int_bl, int_int, list_lst, list_tup, list_scr, tuple_lst, tuple_tup, max2_int, min2_int, isi_int, isi_bl, isi_str, isi_tup, isi_lst, isi_non, isi_dic, ty_ii, ty_ib, ty_is, ty_it, ty_il, ty_bi, ty_bb, ty_bs, ty_bt, ty_bL, ty_si, ty_sb, ty_ss, ty_st, ty_sl, ty_ti, ty_tb, ty_ts, ty_tt, ty_tl, ty_li, ty_lb, ty_ls, ty_lt, ty_ll, ty_ni, ty_nb, ty_ns, ty_nt, ty_nl, rg1, rg2, rg3, it_lst, it_tup, it_scr, it_str, enum_lst, zip_lst, zip_tup, rev_lst, rev_tup, tru_int, tru_bl, tru_lst, tru_tup, wipeE, resE, List.all_cons, List.all_nil, Bool.and_eq_true, dtx, yesT_ok, and_self])

set_option hygiene false in
local macro_rules | `(tactic| walk_at "keb648c07") => `(tactic| simp -dsimp -implicitDefEqProofs only [os_if, os_endIf, is_nn, is_in, is_sn, is_tn, is_ln, is_bn, os_endA, os_endO, os_endG, os_endP, os_endD, os_endS, os_endFr, os_endWh, os_bod, endK_nx, endK_rt, endK_bk, endK_ct, endK_exc, bodK_nx, bodK_rt, bodK_bk, bodK_ct, bodK_exc, frM_t, frM_f, frM_n, wpM_t, wpM_f, wpM_n, ok_c, ok_nm, nmK_v, nmK_o, ok_mv, mvK_v, mvK_o, ok_dm, dmK_v, dmK_o, ok_nil, ok_cons, ok_one, ok_two, ok_op, ok_tstB, ok_tstF, ok_not, bi_true, bi_false, bi_dec, bj_true, bj_false, bj_not, bi_not_dec, ok_and, ok_or, ok_ifF, ok_andF, ok_orF, ok_notF, ok_tup, ok_lst, ok_dic, ok_bm, intR_int, ok_prtN, ok_prtS, ok_sl, callK_ret, ok_call, ok_itA, ok_lc, ok_ch, ok_mut, mutG, shK_sh, shK2_sh, ordB, ownK_o, os_sk, os_bk, os_ct, seqK_nx, seqK_rt, seqK_bk, seqK_ct, seqK_exc, os_seq, os_dr, os_rt, vK_sh, vK_fr, os_asV, os_asO, os_asG, os_asP, os_st, oK_fr, ok_gNm, ok_gTp, ok_gNms0, ok_gNms1, os_fr, ok_run, defK_nx, defK_sh, defK_fr, loopK_nx, loopK_ct, loopK_bk, loopK_rt, okL_some, okL_map, okL_if, okL_ifo, rsls, rsl, stos, stoD, mkR, blD, free_eq, frS_e, frS_v, frS_o, nxK_nx, List.getElem?_cons_zero, List.getElem?_cons_succ, List.set_cons_zero, List.set_cons_succ, List.length_cons, List.length_nil, Nat.zero_add, Nat.reduceAdd, mkE, slIn, List.replicate, List.cons_append, List.nil_append, outsOf, pick, lentOk, nodupB, slotsOf, borrows, putBack, resFlat, add_tx, add_lst, add_tup, add_int, sub_int, mulV_int, mod_int, fdv_int, pow_int, neg_int, eq_int, eqOp_eq, ne_false, ne_true, tx_list, len_tx, len_lst, len_tup, len_scr, len_dic, ix_lst, ix_tup, ix_tx, ix_scr, at_0, at_1, at_2, set_lst, app_lst, ixN_30, ixN_31, ixN_32, ixN_20, ixN_21, ixN_10, sl_tx, sl_lst, sl_tup, sl_scr, true_and, and_true, ordD, Bool.not_false, Bool.not_true, Bool.and_true, Bool.true_and, Bool.or_true, Bool.true_or, List.elem, Bool.false_eq_true, if_true, if_false, isLst, isStr, isDic, int_bl, int_int, list_lst, list_tup, list_scr, tuple_lst, tuple_tup, max2_int, min2_int, isi_int, isi_bl, isi_str, isi_tup, isi_lst, isi_non, isi_dic, ty_ii, ty_ib, ty_is, ty_it, ty_il, ty_bi, ty_bb, ty_bs, ty_bt, ty_bL, ty_si, ty_sb, ty_ss, ty_st, ty_sl, ty_ti, ty_tb, ty_ts, ty_tt, ty_tl, ty_li, ty_lb, ty_ls, ty_lt, ty_ll, ty_ni, ty_nb, ty_ns, ty_nt, ty_nl, rg1, rg2, rg3, it_lst, it_tup, it_scr, it_str, enum_lst, zip_lst, zip_tup, rev_lst, rev_tup, tru_int, tru_bl, tru_lst, tru_tup, wipeE, resE, List.all_cons, List.all_nil, Bool.and_eq_true, dtx, yesT_ok, and_self])

set_option hygiene false in
local macro_rules | `(tactic| walk_at "ke44782de") => `(tactic| first | assumption | omega | exact rfl | exact mulOk_r (by omega) (by omega) | exact mulOk_l (by omega) (by omega) | exact log_ok (by omega) (by omega) | (simp only [List.length_append, List.length_cons, List.length_nil, List.length_take, List.length_drop, List.length_map, List.length_replicate, upL_len]; omega) | (refine And.intro ?_ ?_ <;> walk_at "ke44782de") | decide)

set_option hygiene false in
local macro_rules | `(tactic| walk_at "kbba2d153") => `(tactic| first
  | ((with_reducible refine take_ok ?_ ?_ ?_ fun p r hp hr0 hr1 => ?_); (focus assumption); (focus omega); (focus omega))
  | ((with_reducible refine pick_ok ?_ ?_ ?_ fun p r hp hr0 hr1 => ?_); (focus assumption); (focus omega); (focus omega))
  | ((with_reducible refine pick2_ok ?_ ?_ ?_ fun p r hp hr0 hr1 => ?_); (focus assumption); (focus omega); (focus omega))
  | ((with_reducible refine letter_ok ?_ ?_ ?_ fun p c hp hc => ?_); (focus assumption); (focus omega); (focus omega))
  | ((with_reducible refine signs_ok ?_ ?_ ?_ ?_ ?_ fun p l hp hl hc => ?_); (focus assumption); (focus omega); (focus omega); (focus omega); (focus omega))
  | ((with_reducible refine text_ok ?_ ?_ ?_ fun p l hp hl hc => ?_); (focus assumption); (focus omega); (focus omega))
  | ((with_reducible refine rtext_ok ?_ ?_ ?_ fun p l hp hl hc => ?_); (focus assumption); (focus omega); (focus omega))
  | ((with_reducible refine rtext2_ok ?_ ?_ ?_ fun p l hp hl hc => ?_); (focus assumption); (focus omega); (focus omega))
  | (with_reducible refine whole_ok ?_))

set_option hygiene false in
local macro_rules | `(tactic| walk_at "kfac690a7") => `(tactic| first | assumption | exact okT_nil | exact Lts.ok (by assumption) | decide)

set_option hygiene false in
local macro_rules | `(tactic| walk_at "k1b320420") => `(tactic| first
  | ((with_reducible refine And.intro ?_ ?_); (focus walk_at "ke44782de"))
  | walk_at "kbba2d153"
  | ((with_reducible refine okL_eqtx ?_ ?_ ?_); (focus walk_at "kfac690a7"); (focus walk_at "kfac690a7"))
  | ((with_reducible refine bj_t ?_ ?_); (focus (first | with_reducible rfl | omega)))
  | ((with_reducible refine bj_f ?_ ?_); (focus omega)))

set_option hygiene false in
local macro_rules | `(tactic| walk_at "kdae0d6be") => `(tactic| first
  | walk_at "k1be157fd"
  | walk_at "k1b320420")

set_option hygiene false in
local macro_rules | `(tactic| walk_at "k93490303") => `(tactic| repeat walk_at "kdae0d6be")

section
set_option maxHeartbeats 4000000
namespace PyD.S
open PySem PySem.Spec L2 PyD.S
noncomputable def dN (i : Nat) : D := .int i
noncomputable def cnt (ps : List Nat) (j : Nat) : Nat := ((List.range j).filter fun i => decide (i ∈ ps)).length
theorem cnt_succ (ps : List Nat) (j : Nat) : cnt ps (j + 1) = cnt ps j + if j ∈ ps then 1 else 0 := by
  unfold cnt
  rw [List.range_succ, List.filter_append, List.length_append]
  by_cases h : j ∈ ps <;> simp [h]
theorem cnt_mono (ps : List Nat) (a : Nat) : ∀ b, cnt ps a ≤ cnt ps (a + b)
  | 0 => Nat.le_refl _
  | b + 1 => by
    have := cnt_mono ps a b
    rw [← Nat.add_assoc, cnt_succ]
    split <;> omega
noncomputable def tch (ps : List Nat) (a m : Nat) : Prop := ∃ p, p ∈ ps ∧ a ≤ p ∧ p < a + m
theorem tch_iff {ps : List Nat} {a : Nat} : ∀ {m : Nat}, cnt ps a < cnt ps (a + m) ↔ tch ps a m
  | 0 => ⟨fun h => absurd h (Nat.lt_irrefl _), fun ⟨p, _, h1, h2⟩ => by omega⟩
  | m + 1 => by
    rw [← Nat.add_assoc, cnt_succ]
    have ih := tch_iff (ps := ps) (a := a) (m := m)
    have hm := cnt_mono ps a m
    by_cases h : a + m ∈ ps
    · rw [if_pos h]
      exact ⟨fun _ => ⟨a + m, h, by omega, by omega⟩, fun _ => by omega⟩
    · rw [if_neg h, Nat.add_zero, ih]
      constructor
      · rintro ⟨p, h1, h2, h3⟩
        exact ⟨p, h1, h2, by omega⟩
      · rintro ⟨p, h1, h2, h3⟩
        refine ⟨p, h1, h2, ?_⟩
        have : p ≠ a + m := fun e => h (e ▸ h1)
        omega
noncomputable def ahA (ps : List Nat) (n : Nat) : List D := (List.range (n + 1)).map fun j => D.int (cnt ps j)
theorem ahA_len (ps : List Nat) (n : Nat) : (ahA ps n).length = n + 1 := by simp [ahA]
theorem ahA_get {ps : List Nat} {n j : Nat} {x : D} (h : (ahA ps n)[j]? = some x) : x = .int (cnt ps j) := by
  unfold ahA at h
  rw [List.getElem?_map] at h
  obtain ⟨i, hi, rfl⟩ := Option.map_eq_some_iff.mp h
  obtain ⟨_, rfl⟩ := List.getElem?_eq_some_iff.mp hi
  simp
theorem ahA_last (ps : List Nat) (n : Nat) : atI (ahA ps n) (-1) = some (.int (cnt ps n)) := by
  rw [at_last (by intro z; have := ahA_len ps n; rw [z] at this; simp at this)]
  unfold ahA
  rw [List.range_succ, List.map_append]
  simp
theorem in_dN {i : Nat} {ps : List Nat} : inUD false [.int i, .tup (ps.map dN)] = some (false, .bl (decide (i ∈ ps))) := by
  show inOp false [D.int (i : Int), .tup (ps.map dN)] = _
  have h : (ps.map dN).all flatS = true := by
    rw [List.all_eq_true]
    intro x hx
    obtain ⟨j, _, rfl⟩ := List.mem_map.mp hx
    rfl
  have h2 : ((ps.map dN).any fun y => eqS y (.int i)) = decide (i ∈ ps) := by
    rw [Bool.eq_iff_iff, List.any_eq_true, decide_eq_true_iff]
    constructor
    · rintro ⟨x, hx, e⟩
      obtain ⟨j, hj, rfl⟩ := List.mem_map.mp hx
      have e : ((j : Int) == (i : Int)) = true := e
      have : j = i := by
        have := eq_of_beq e
        omega
      exact this ▸ hj
    · intro hi
      exact ⟨dN i, List.mem_map.mpr ⟨i, hi, rfl⟩, by simp [dN, eqS]⟩
  simp only [inOp, h, h2, flatS, and_self, if_true, ne_false]
theorem ahead_ok {l : T} {ps : List Nat} {k : Out → Prop} (hl : l.length ≤ 5000) (h : k (.ret true (.lst (ahA ps l.length)) [.str (tx l), .tup (ps.map dN)])) : okO (phi_pins_ahead [.str (tx l), .tup (ps.map dN)]) k := by
  unfold phi_pins_ahead b_pins_ahead
  walk_at "k93490303"
  refine os_ix (fun i en => en = [.v (.str (tx l)), .v (.tup (ps.map dN)), .o false (.lst (ahA ps i)), .e]) rfl ?_ ?_
  · rintro i d hd en rfl
    obtain ⟨rfl, hlt⟩ := upL_get hd
    walk_at "k93490303"
    refine okL_of (ahA_last ps i) ?_
    rw [Int.zero_add]
    walk_at "k93490303"
    refine okL_of in_dN ?_
    walk_at "k93490303"
    refine ⟨by rw [ahA_len]; omega, ?_⟩
    have e : ahA ps (i + 1) = ahA ps i ++ [.int (cnt ps (i + 1))] := by
      unfold ahA
      rw [List.range_succ (n := i + 1), List.map_append]
      rfl
    rw [e, cnt_succ]
    by_cases hi : i ∈ ps <;> simp [hi]
  · rintro en rfl
    rw [upL_len, show ((l.length : Int)).toNat = l.length by omega]
    walk_at "k93490303"
    exact h
theorem val_dicT {ks : List T} {x : T} : valD (dicT ks) (.inr (tx x)) = if x ∈ ks then some (.bl true) else none := by
  unfold valD
  split
  · rename_i hx
    cases e : (dicT ks).find? fun kv => decide (kv.1 = .inr (tx x)) with
    | none =>
      rw [List.find?_eq_none] at e
      exact absurd (by simp) (e (.inr (tx x), .bl true) (List.mem_map.mpr ⟨x, hx, rfl⟩))
    | some kv =>
      have hm := List.mem_of_find?_eq_some e
      obtain ⟨y, _, rfl⟩ := List.mem_map.mp hm
      rfl
  · rename_i hx
    have e : ((dicT ks).find? fun kv => decide (kv.1 = .inr (tx x))) = none := by
      rw [List.find?_eq_none]
      intro kv hm hk
      obtain ⟨y, hy, rfl⟩ := List.mem_map.mp hm
      have := kT_inj (of_decide_eq_true hk)
      exact hx (this ▸ hy)
    rw [e]
    rfl
theorem drop_dicT {ks : List T} {x : T} : dropD (dicT ks) (.inr (tx x)) = dicT (ks.filter fun y => decide (y ≠ x)) := by
  unfold dropD dicT
  rw [List.filter_map]
  congr 1
  apply List.filter_congr
  intro y _
  show decide ((Sum.inr (tx y) : Key) ≠ .inr (tx x)) = _
  by_cases h : y = x
  · simp [h]
  · have : (Sum.inr (tx y) : Key) ≠ .inr (tx x) := fun z => h (kT_inj z)
    simp [h, this]
theorem pop_dicT {ks : List T} {x : T} : ∃ d, popD2 (.dic (dicT ks)) [.str (tx x), .non] = some (.dic (dicT (ks.filter fun y => decide (y ≠ x))), d) := by
  unfold popD2
  show ∃ d, (match valD (dicT ks) (.inr (tx x)) with
    | some d => some (D.dic (dropD (dicT ks) (.inr (tx x))), d)
    | none => some (.dic (dicT ks), .non)) = _
  rw [val_dicT]
  by_cases h : x ∈ ks
  · rw [if_pos h, drop_dicT]
    exact ⟨_, rfl⟩
  · rw [if_neg h]
    refine ⟨.non, ?_⟩
    have e : (ks.filter fun y => decide (y ≠ x)) = ks := by
      rw [List.filter_eq_self]
      intro y hy
      exact decide_eq_true fun e => h (e ▸ hy)
    rw [e]
theorem in_dicT {ks : List T} {x : T} {n : Bool} : inUD n [.str (tx x), .dic (dicT ks)] = some (false, .bl ((decide (x ∈ ks)) != n)) := by
  show some (false, D.bl ((valD (dicT ks) (.inr (tx x))).isSome != n)) = _
  rw [val_dicT]
  by_cases h : x ∈ ks <;> simp [h]
theorem list_dicT {ks : List T} : listD [.dic (dicT ks)] = some (true, .lst (ks.map dtx)) := by
  simp [listD, dicT, dtx, Function.comp_def]
noncomputable def msd (l : T) (ps : List Nat) (m : Nat) (x : T) : Prop := (∃ a, a < manyAt l m ∧ x = cutT l a (a + m)) ∧ ∀ a, a < manyAt l m → x = cutT l a (a + m) → ¬ tch ps a m
theorem missed_ok {l : T} {ps : List Nat} {m : Nat} {k : Out → Prop} (hl : l.length ≤ 5000) (hm : m ≤ 100000) (h : ∀ ms : List T, ms.Nodup → ms.length ≤ l.length + 1 → (∀ x, x ∈ ms ↔ msd l ps m x) → k (.ret true (.lst (ms.map dtx)) [.str (tx l), .lst (ahA ps l.length), .int m])) :
    okO (phi_missed_of [.str (tx l), .lst (ahA ps l.length), .int m]) k := by
  unfold phi_missed_of b_missed_of
  walk_at "k93490303"
  have hah := ahA_len ps l.length
  refine os_ix (fun i en => ∃ ms ts : List T, en = [.v (.str (tx l)), .v (.lst (ahA ps l.length)), .v (.int m), .o false (.dic (dicT ms)), .o false (.dic (dicT ts)), .e, .e] ∧ ms.Nodup ∧ ms.length ≤ i ∧ ts.length ≤ i ∧
      (∀ x, x ∈ ts ↔ ∃ a, a < i ∧ x = cutT l a (a + m) ∧ tch ps a m) ∧ ∀ x, x ∈ ms ↔ (∃ a, a < i ∧ x = cutT l a (a + m)) ∧ ∀ a, a < i → x = cutT l a (a + m) → ¬ tch ps a m) ⟨[], [], rfl, by simp, by simp, by simp, by simp, by simp⟩ ?_ ?_
  · rintro i d hd en ⟨ms, ts, rfl, hnd, hml, htl, hts, hms⟩
    obtain ⟨rfl, hlt⟩ := upL_get hd
    have hi : i + m ≤ l.length := by omega
    walk_at "k1be157fd"
    rw [Int.zero_add, cut_nat]
    walk_at "keb648c07"
    refine ⟨by omega, okL_at (by omega) (by rw [hah]; omega) fun u hu => ?_⟩
    obtain rfl := ahA_get hu
    walk_at "keb648c07"
    refine okL_at (by omega) (by rw [hah]; omega) fun v hv => ?_
    obtain rfl := ahA_get hv
    rw [show ((i : Int) + (m : Int)).toNat = i + m by omega, show ((i : Int)).toNat = i by omega]
    walk_at "k1be157fd"
    generalize hx : cutT l i (i + m) = x
    refine bj_mk (fun h1 => ?_) (fun h1 => ?_)
    · have h1 : tch ps i m := tch_iff.mp (by omega)
      walk_at "k1be157fd"
      rw [set_dic (k := .inr (tx x)) rfl, okL_if, put_dicT]
      refine ⟨by rw [dicT_len]; omega, ?_⟩
      walk_at "k1be157fd"
      obtain ⟨d, hpop⟩ := pop_dicT (ks := ms) (x := x)
      refine okL_of hpop ?_
      walk_at "k1be157fd"
      refine ⟨_, _, rfl, hnd.filter _, Nat.le_trans (List.length_filter_le _ _) (by omega), ?_, fun y => ?_, fun y => ?_⟩
      · unfold addU
        split
        · omega
        · simp; omega
      · rw [mem_addU, hts]
        constructor
        · rintro (⟨a, ha, e, t⟩ | e)
          · exact ⟨a, by omega, e, t⟩
          · exact ⟨i, by omega, by rw [e, hx], h1⟩
        · rintro ⟨a, ha, e, t⟩
          by_cases hai : a = i
          · exact .inr (by rw [e, hai, hx])
          · exact .inl ⟨a, by omega, e, t⟩
      · rw [List.mem_filter, hms, decide_eq_true_iff]
        constructor
        · rintro ⟨⟨⟨a, ha, e⟩, hn⟩, hne⟩
          refine ⟨⟨a, by omega, e⟩, fun b hb e2 => ?_⟩
          by_cases hbi : b = i
          · exact absurd (by rw [e2, hbi, hx]) hne
          · exact hn b (by omega) e2
        · rintro ⟨⟨a, ha, e⟩, hn⟩
          have hne : y ≠ x := fun z => hn i (by omega) (by rw [z, hx]) h1
          have hai : a ≠ i := fun z => hne (by rw [e, z, hx])
          exact ⟨⟨⟨a, by omega, e⟩, fun b hb e2 => hn b (by omega) e2⟩, hne⟩
    · have h1 : ¬ tch ps i m := fun z => by have := tch_iff.mpr z; omega
      walk_at "keb648c07"
      refine okL_of in_dicT ?_
      walk_at "keb648c07"
      have ts1 : ∀ y, y ∈ ts ↔ ∃ a, a < i + 1 ∧ y = cutT l a (a + m) ∧ tch ps a m := fun y => by
        rw [hts]
        constructor
        · rintro ⟨a, ha, e, t⟩
          exact ⟨a, by omega, e, t⟩
        · rintro ⟨a, ha, e, t⟩
          have hai : a ≠ i := fun z => h1 (z ▸ t)
          exact ⟨a, by omega, e, t⟩
      refine bj_mk (fun h2 => ?_) (fun h2 => ?_)
      · walk_at "k1be157fd"
        refine ⟨ms, ts, rfl, hnd, by omega, by omega, ts1, fun y => ?_⟩
        rw [hms]
        obtain ⟨b, hb, eb, tb⟩ := (hts x).mp h2
        constructor
        · rintro ⟨⟨a, ha, e⟩, hn⟩
          refine ⟨⟨a, by omega, e⟩, fun c hc e2 => ?_⟩
          by_cases hci : c = i
          · rw [hci]; exact h1
          · exact hn c (by omega) e2
        · rintro ⟨⟨a, ha, e⟩, hn⟩
          have hai : a ≠ i := fun z => hn b (by omega) (by rw [e, z, hx]; exact eb) tb
          exact ⟨⟨a, by omega, e⟩, fun c hc e2 => hn c (by omega) e2⟩
      · walk_at "k1be157fd"
        rw [set_dic (k := .inr (tx x)) rfl, okL_if, put_dicT]
        refine ⟨by rw [dicT_len]; omega, ?_⟩
        walk_at "k1be157fd"
        refine ⟨_, ts, rfl, nodup_addU hnd, ?_, by omega, ts1, fun y => ?_⟩
        · unfold addU
          split
          · omega
          · simp; omega
        · rw [mem_addU, hms]
          constructor
          · rintro (⟨⟨a, ha, e⟩, hn⟩ | e)
            · refine ⟨⟨a, by omega, e⟩, fun c hc e2 => ?_⟩
              by_cases hci : c = i
              · rw [hci]; exact h1
              · exact hn c (by omega) e2
            · refine ⟨⟨i, by omega, by rw [e, hx]⟩, fun c hc e2 => ?_⟩
              by_cases hci : c = i
              · rw [hci]; exact h1
              · exact fun t => h2 ((hts x).mpr ⟨c, by omega, by rw [← e, e2], t⟩)
          · rintro ⟨⟨a, ha, e⟩, hn⟩
            by_cases hai : a = i
            · exact .inr (by rw [e, hai, hx])
            · exact .inl ⟨⟨a, by omega, e⟩, fun c hc e2 => hn c (by omega) e2⟩
  · rintro en ⟨ms, ts, rfl, hnd, hml, htl, hts, hms⟩
    rw [upL_len] at hml hts hms
    walk_at "k1be157fd"
    rw [list_dicT]
    walk_at "k1be157fd"
    exact h ms hnd (by omega) hms
end PyD.S

end

section
set_option maxHeartbeats 4000000
namespace PyD.S
open PySem PySem.Spec L2 PyD.S PyProof.Rows
noncomputable def addN (ks : List Nat) (x : Nat) : List Nat := if x ∈ ks then ks else ks ++ [x]
noncomputable def kN (x : Nat) : Key := .inl (x : Int)
noncomputable def dicN (ks : List Nat) : List (Key × D) := ks.map fun x => (kN x, .bl true)
theorem kN_inj {a b : Nat} (h : kN a = kN b) : a = b := by
  have := Sum.inl.inj h
  omega
theorem put_dicN (ks : List Nat) (x : Nat) : putD (dicN ks) (kN x) (.bl true) = dicN (addN ks x) := by
  unfold putD addN
  by_cases h : x ∈ ks
  · have e : ((dicN ks).any fun kv => decide (kv.1 = kN x)) = true := by
      rw [List.any_eq_true]
      exact ⟨(kN x, .bl true), List.mem_map.mpr ⟨x, h, rfl⟩, by simp⟩
    rw [if_pos h, if_pos e]
    unfold dicN
    rw [List.map_map]
    apply List.map_congr_left
    intro y _
    show (if kN y = kN x then _ else _) = _
    split
    · rename_i z
      rw [kN_inj z]
    · rfl
  · have e : ¬ ((dicN ks).any fun kv => decide (kv.1 = kN x)) = true := by
      rw [List.any_eq_true]
      rintro ⟨kv, hm, hk⟩
      obtain ⟨y, hy, rfl⟩ := List.mem_map.mp hm
      have := kN_inj (of_decide_eq_true hk)
      rw [← this] at h
      exact h hy
    rw [if_neg h, if_neg e]
    simp [dicN]
theorem mem_addN {ks : List Nat} {x y : Nat} : y ∈ addN ks x ↔ y ∈ ks ∨ y = x := by
  unfold addN
  split
  · rename_i h
    exact ⟨.inl, fun z => z.elim id fun e => e ▸ h⟩
  · simp
theorem nodup_addN {ks : List Nat} {x : Nat} (h : ks.Nodup) : (addN ks x).Nodup := by
  unfold addN
  split
  · exact h
  · rename_i hx
    rw [List.nodup_append]
    refine ⟨h, by simp, fun a ha b hb => ?_⟩
    rw [List.mem_singleton.mp hb]
    exact fun e => hx (e ▸ ha)
theorem dicN_len (ks : List Nat) : (dicN ks).length = ks.length := by simp [dicN]
theorem le_kN (p q : Nat) : leN p q = PySem.W.dataLe false pyK (kN p) (kN q) := by
  show _ = !(PyProof.Rows.listOrd PyProof.Rows.itemOrd).blt (PySem.W.keyToks (.int q)) (PySem.W.keyToks (.int p))
  have e : ∀ p : Nat, PySem.W.keyToks (.int p) = [.inl (p : Int)] := fun p => rfl
  rw [e, e]
  show _ = !PyProof.Rows.lexLt PyProof.Rows.itemOrd [.inl (q : Int)] [.inl (p : Int)]
  have l2 : ∀ x y : Int, PyProof.Rows.itemOrd.blt (.inl x) (.inl y) = decide (x < y) := fun _ _ => rfl
  have l3 : ∀ x y : Int, itemLt (.inl x) (.inl y) = decide (x < y) := fun _ _ => rfl
  simp only [PyProof.Rows.lex_cons, l2, l3, PyProof.Rows.lexLt, Bool.and_false, Bool.or_false]
  unfold leN
  by_cases h : p ≤ q
  · rw [decide_eq_true h, decide_eq_false (by omega)]; rfl
  · rw [decide_eq_false h, decide_eq_true (by omega)]; rfl
theorem sort_dicN {ks : List Nat} : sortUD [.dic (dicN ks)] = some (true, .lst ((ks.mergeSort leN).map dN)) := by
  unfold sortUD
  have h : (dicN ks).map (·.1) = ks.map kN := by simp [dicN]
  have c : PySem.W.AllAlike (((dicN ks).map (·.1)).map pyK) := by
    rw [h]
    intro d hd d' hd'
    obtain ⟨p, hp, rfl⟩ := List.mem_map.mp hd
    obtain ⟨p', hp', rfl⟩ := List.mem_map.mp hd'
    obtain ⟨q, _, rfl⟩ := List.mem_map.mp hp
    obtain ⟨q', _, rfl⟩ := List.mem_map.mp hp'
    rfl
  dsimp only
  rw [if_pos c, h]
  unfold sortK
  rw [← List.map_mergeSort (r := leN) (s := PySem.W.dataLe false pyK) (f := kN) (fun a _ b _ => le_kN a b), List.map_map]
  rfl
theorem sort_tnats {ps : List Nat} : sortUD [.tup (ps.map dN)] = some (true, .lst ((ps.mergeSort leN).map dN)) := by
  have e : ps.map dN = (ps.map fun i : Nat => (i : Int)).map D.int := by rw [List.map_map]; rfl
  show (asInts (ps.map dN)).map _ = _
  rw [e, asInts_map]
  show some (true, D.lst ((sortK ((ps.map fun i : Nat => (i : Int)).map Sum.inl)).map dK)) = _
  rw [List.map_map, show ((Sum.inl : Int → Key) ∘ fun i : Nat => (i : Int)) = kN from rfl]
  unfold sortK
  rw [← List.map_mergeSort (r := leN) (s := PySem.W.dataLe false pyK) (f := kN) (fun a _ b _ => le_kN a b), List.map_map]
  rfl
theorem sortN_rising {ks : List Nat} (h : ks.Nodup) : (ks.mergeSort leN).Pairwise (· < ·) := by
  have h1 : (ks.mergeSort leN).Pairwise fun a b => leN a b = true := List.pairwise_mergeSort (fun a b c x y => by
    unfold leN at *
    have := of_decide_eq_true x
    have := of_decide_eq_true y
    exact decide_eq_true (by omega)) (fun a b => by
    unfold leN
    rw [Bool.or_eq_true, decide_eq_true_iff, decide_eq_true_iff]
    omega) _
  have h2 : (ks.mergeSort leN).Nodup := ((List.mergeSort_perm ks leN).nodup_iff).mpr h
  refine (h1.and h2).imp fun {a b} ⟨x, y⟩ => ?_
  have := of_decide_eq_true x
  have : a ≠ b := y
  omega
end PyD.S

end

section
set_option maxHeartbeats 2000000
namespace PyD.S
open PySem PySem.Spec L2 PyD.S StrLaws Builtin.Str
noncomputable def mAt (l x : List Nat) (hi i : Nat) : Bool := decide (i + x.length ≤ hi) && decide ((l.take (i + x.length)).drop i = x)
noncomputable def fstAt (l x : List Nat) (lo hi : Nat) : Option Nat := (List.range' lo (hi + 1 - lo)).find? (mAt l x hi)
theorem subAt_tx (l x : List Nat) (i : Nat) : subAt (tx l) (tx x) i = decide ((l.take (i + x.length)).drop i = x) := by
  unfold subAt
  rw [tx_len]
  show ((l.toArray.extract i (i + x.length)) == x.toArray) = _
  rw [List.extract_toArray]
  by_cases h : (l.take (i + x.length)).drop i = x
  · have e : (l.extract i (i + x.length)) = x := by
      rw [List.extract_eq_take_drop, ← List.drop_take]
      exact h
    rw [e]
    simp [h]
  · have e : ¬ (l.extract i (i + x.length)) = x := fun z => h (by
      rw [List.extract_eq_take_drop, ← List.drop_take] at z
      exact z)
    simp [h, e]
    intro z
    refine h ?_
    rw [List.drop_take, show i + x.length - i = x.length by omega]
    exact z
theorem occ_full (s sub : Str) (hi : Nat) : ∀ (l : List Nat) (st : Array Nat × Nat), ¬ st.fst.size < 1 → (forIn l st (occBody s sub hi 1)).run.fst = st.fst
  | [], st, _ => by simp
  | a :: l, st, h => by
    rw [List.forIn_cons]
    unfold occBody
    rw [if_neg (fun z => h z.1.1.1)]
    exact occ_full s sub hi l _ h
theorem occ_one (l x : List Nat) (hi : Nat) : ∀ (r : List Nat) (free : Nat), (∀ i ∈ r, free ≤ i) →
    (forIn r ((#[] : Array Nat), free) (occBody (tx l) (tx x) hi 1)).run.fst.toList = (r.find? (mAt l x hi)).toList
  | [], free, _ => by simp
  | a :: r, free, hf => by
    rw [List.forIn_cons, List.find?_cons]
    have ha : free ≤ a := hf a (List.mem_cons_self ..)
    cases hm : mAt l x hi a with
    | true =>
      unfold mAt at hm
      rw [Bool.and_eq_true, decide_eq_true_iff] at hm
      have c : (((#[] : Array Nat), free).fst.size < 1 ∧ ((#[] : Array Nat), free).snd ≤ a) ∧ a + (tx x).length ≤ hi := ⟨⟨by simp, ha⟩, by rw [tx_len]; exact hm.1⟩
      have e : occBody (tx l) (tx x) hi 1 a ((#[] : Array Nat), free) = pure (ForInStep.yield ((#[] : Array Nat).push a, a + (tx x).length)) := by
        unfold occBody
        rw [if_pos ⟨c, by rw [subAt_tx]; exact hm.2⟩]
      rw [e]
      show (forIn r ((#[] : Array Nat).push a, a + (tx x).length) (occBody (tx l) (tx x) hi 1)).run.fst.toList = _
      rw [occ_full _ _ _ _ _ (by simp)]
      simp
    | false =>
      have e : occBody (tx l) (tx x) hi 1 a ((#[] : Array Nat), free) = pure (ForInStep.yield ((#[] : Array Nat), free)) := by
        unfold occBody
        rw [if_neg]
        intro z
        rw [subAt_tx] at z
        unfold mAt at hm
        have z1 : a + x.length ≤ hi := by have := z.1.2; rw [tx_len] at this; exact this
        rw [z.2, decide_eq_true z1] at hm
        cases hm
      rw [e]
      exact occ_one l x hi r free fun i hi' => hf i (List.mem_cons_of_mem _ hi')
theorem occ_fst (l x : List Nat) (lo hi : Nat) : occurrences (tx l) (tx x) lo hi 1 = (fstAt l x lo hi).toList := by
  rw [occ_eq]
  exact occ_one l x hi _ lo fun i h => by
    have := List.mem_range'.mp h
    omega
noncomputable def intAt : Option Nat → Int
  | some i => (i : Int)
  | none => -1
theorem find_2 {l x : List Nat} : findD [.str (tx l), .str (tx x)] = some (false, .int (intAt (fstAt l x 0 l.length))) := by
  simp only [findD, Txt.find, occ_fst, tx_len]
  cases fstAt l x 0 l.length <;> rfl
theorem fstAt_none {l x : List Nat} {lo hi : Nat} (h : fstAt l x lo hi = none) (j : Nat) (hj : lo ≤ j) : mAt l x hi j = false := by
  by_cases h1 : j ≤ hi
  · unfold fstAt at h
    rw [List.find?_eq_none] at h
    have := h j (List.mem_range'_1.mpr ⟨hj, by omega⟩)
    simpa using this
  · unfold mAt
    rw [decide_eq_false (by omega)]
    rfl
end PyD.S

end

section
set_option maxHeartbeats 2000000
namespace PyD.S
open PySem PySem.Spec L2 PyD.S
noncomputable def Pq : Nat → D → Prop
  | 0, _ => False
  | _ + 1, .non => True
  | _ + 1, .int _ => True
  | _ + 1, .str s => ∃ l, s = tx l ∧ okT l
  | n + 1, .lst ds => ∀ x ∈ ds, Pq n x
  | n + 1, .tup ds => ∀ x ∈ ds, Pq n x
  | _ + 1, _ => False
theorem toPyL_all : ∀ {ds : List D}, (∀ x ∈ ds, ∃ p, toPy x = some p) → ∃ ps, toPyL ds = some ps
  | [], _ => ⟨[], rfl⟩
  | d :: ds, h => by
    obtain ⟨p, hp⟩ := h d (by simp)
    obtain ⟨ps, hps⟩ := toPyL_all (ds := ds) fun x hx => h x (by simp [hx])
    exact ⟨p :: ps, by rw [toPyL, hp, hps]⟩
theorem toPyL_mem : ∀ {ds : List D} {ps : List PyData}, toPyL ds = some ps → ∀ p ∈ ps, ∃ x ∈ ds, toPy x = some p
  | [], ps, h, p, hp => by cases h; cases hp
  | d :: ds, ps, h, p, hp => by
    rw [toPyL] at h
    cases e1 : toPy d with
    | none => rw [e1] at h; cases h
    | some q =>
      rw [e1] at h
      cases e2 : toPyL ds with
      | none => rw [e2] at h; cases h
      | some qs =>
        rw [e2] at h
        cases h
        rcases List.mem_cons.mp hp with rfl | hp
        · exact ⟨d, by simp, e1⟩
        · obtain ⟨x, hx, e⟩ := toPyL_mem e2 p hp
          exact ⟨x, by simp [hx], e⟩
theorem canAll : ∀ {ps : List PyData}, (∀ p ∈ ps, PyData.canLay0 p = true) → PyData.canLayAll0 ps = true
  | [], _ => rfl
  | p :: ps, h => by
    rw [PyData.canLayAll0, h p (by simp), canAll fun x hx => h x (by simp [hx])]
    rfl
theorem depAll {n : Nat} : ∀ {ps : List PyData}, (∀ p ∈ ps, PyData.depth p ≤ n) → PyData.depthAll ps ≤ n
  | [], _ => by simp [PyData.depthAll]
  | p :: ps, h => by
    have h1 := h p (by simp)
    have h2 := depAll (n := n) (ps := ps) fun x hx => h x (by simp [hx])
    rw [PyData.depthAll]
    omega
theorem Pq.py : ∀ {n : Nat} {d : D}, Pq n d → ∃ p, toPy d = some p ∧ PyData.canLay0 p = true ∧ p.depth ≤ n
  | 0, _, h => h.elim
  | n + 1, .non, _ => ⟨.none, rfl, rfl, by simp [PyData.depth]⟩
  | n + 1, .int i, _ => ⟨.int i, rfl, rfl, by simp [PyData.depth]⟩
  | n + 1, .bl i, h => h.elim
  | n + 1, .dic i, h => h.elim
  | n + 1, .obj _ _, h => h.elim
  | n + 1, .scr i, h => h.elim
  | n + 1, .exn _ _, h => h.elim
  | n + 1, .adr _ _, h => h.elim
  | n + 1, .ow _, h => h.elim
  | n + 1, .str s, ⟨l, e, h⟩ => ⟨.str s, rfl, by rw [PyData.canLay0, e]; exact strOk_tx.mpr h, by simp [PyData.depth]⟩
  | n + 1, .lst ds, h => by
    obtain ⟨ps, hps⟩ := toPyL_all (ds := ds) fun x hx => by
      obtain ⟨p, hp, _⟩ := Pq.py (h x hx)
      exact ⟨p, hp⟩
    have hall : ∀ p ∈ ps, PyData.canLay0 p = true ∧ p.depth ≤ n := fun p hp => by
      obtain ⟨x, hx, e⟩ := toPyL_mem hps p hp
      obtain ⟨q, hq, h1, h2⟩ := Pq.py (h x hx)
      rw [e] at hq
      cases hq
      exact ⟨h1, h2⟩
    refine ⟨.list ps, by rw [toPy, hps]; rfl, by rw [PyData.canLay0]; exact canAll fun p hp => (hall p hp).1, ?_⟩
    rw [PyData.depth]
    have := depAll fun p hp => (hall p hp).2
    omega
  | n + 1, .tup ds, h => by
    obtain ⟨ps, hps⟩ := toPyL_all (ds := ds) fun x hx => by
      obtain ⟨p, hp, _⟩ := Pq.py (h x hx)
      exact ⟨p, hp⟩
    have hall : ∀ p ∈ ps, PyData.canLay0 p = true ∧ p.depth ≤ n := fun p hp => by
      obtain ⟨x, hx, e⟩ := toPyL_mem hps p hp
      obtain ⟨q, hq, h1, h2⟩ := Pq.py (h x hx)
      rw [e] at hq
      cases hq
      exact ⟨h1, h2⟩
    refine ⟨.tuple ps, by rw [toPy, hps]; rfl, by rw [PyData.canLay0]; exact canAll fun p hp => (hall p hp).1, ?_⟩
    rw [PyData.depth]
    have := depAll fun p hp => (hall p hp).2
    omega
theorem eqvAll_iff {n : Nat} (ih : ∀ (d e : D) (p q : PyData), Pq n d → Pq n e → toPy d = some p → toPy e = some q → (PyData.eqv p q = true ↔ d = e)) : ∀ {ds es : List D} {ps qs : List PyData}, (∀ x ∈ ds, Pq n x) → (∀ x ∈ es, Pq n x) → toPyL ds = some ps → toPyL es = some qs →
    (PyData.eqvAll ps qs = true ↔ ds = es)
  | [], [], ps, qs, _, _, h1, h2 => by cases h1; cases h2; simp [PyData.eqvAll]
  | [], e :: es, ps, qs, _, k, h1, h2 => by
    cases h1
    obtain ⟨q, hq, _⟩ := Pq.py (k e (by simp))
    obtain ⟨qs', hqs⟩ := toPyL_all (ds := es) fun x hx => by
      obtain ⟨p, hp, _⟩ := Pq.py (k x (by simp [hx]))
      exact ⟨p, hp⟩
    rw [toPyL, hq, hqs] at h2
    cases h2
    simp [PyData.eqvAll]
  | d :: ds, [], ps, qs, k, _, h1, h2 => by
    cases h2
    obtain ⟨q, hq, _⟩ := Pq.py (k d (by simp))
    obtain ⟨qs', hqs⟩ := toPyL_all (ds := ds) fun x hx => by
      obtain ⟨p, hp, _⟩ := Pq.py (k x (by simp [hx]))
      exact ⟨p, hp⟩
    rw [toPyL, hq, hqs] at h1
    cases h1
    simp [PyData.eqvAll]
  | d :: ds, e :: es, ps, qs, k1, k2, h1, h2 => by
    obtain ⟨p, hp, _⟩ := Pq.py (k1 d (by simp))
    obtain ⟨ps', hps⟩ := toPyL_all (ds := ds) fun x hx => by
      obtain ⟨p, hp, _⟩ := Pq.py (k1 x (by simp [hx]))
      exact ⟨p, hp⟩
    obtain ⟨q, hq, _⟩ := Pq.py (k2 e (by simp))
    obtain ⟨qs', hqs⟩ := toPyL_all (ds := es) fun x hx => by
      obtain ⟨p, hp, _⟩ := Pq.py (k2 x (by simp [hx]))
      exact ⟨p, hp⟩
    rw [toPyL, hp, hps] at h1
    rw [toPyL, hq, hqs] at h2
    cases h1
    cases h2
    rw [PyData.eqvAll, Bool.and_eq_true, ih d e p q (k1 d (by simp)) (k2 e (by simp)) hp hq, eqvAll_iff ih (fun x hx => k1 x (by simp [hx])) (fun x hx => k2 x (by simp [hx])) hps hqs]
    simp
theorem eqv_iff : ∀ (n : Nat) (d e : D) (p q : PyData), Pq n d → Pq n e → toPy d = some p → toPy e = some q → (PyData.eqv p q = true ↔ d = e)
  | 0, _, _, _, _, h, _, _, _ => h.elim
  | n + 1, d, e, p, q, h1, h2, e1, e2 => by
    cases d with
    | bl _ => exact h1.elim
    | dic _ => exact h1.elim
    | obj _ _ => exact h1.elim
    | scr _ => exact h1.elim
    | exn _ _ => exact h1.elim
    | adr _ => exact h1.elim
    | ow _ => exact h1.elim
    | non =>
      cases e1
      cases e with
      | bl _ => exact h2.elim
      | dic _ => exact h2.elim
      | obj _ _ => exact h2.elim
      | scr _ => exact h2.elim
      | exn _ _ => exact h2.elim
      | adr _ => exact h2.elim
      | ow _ => exact h2.elim
      | non => cases e2; simp [PyData.eqv]
      | int _ => cases e2; simp [PyData.eqv]
      | str _ => cases e2; simp [PyData.eqv]
      | lst _ => rw [toPy] at e2; obtain ⟨qs, hq, rfl⟩ := Option.map_eq_some_iff.mp e2; simp [PyData.eqv]
      | tup _ => rw [toPy] at e2; obtain ⟨qs, hq, rfl⟩ := Option.map_eq_some_iff.mp e2; simp [PyData.eqv]
    | int i =>
      cases e1
      cases e with
      | bl _ => exact h2.elim
      | dic _ => exact h2.elim
      | obj _ _ => exact h2.elim
      | scr _ => exact h2.elim
      | exn _ _ => exact h2.elim
      | adr _ => exact h2.elim
      | ow _ => exact h2.elim
      | non => cases e2; simp [PyData.eqv]
      | int _ => cases e2; simp [PyData.eqv]
      | str _ => cases e2; simp [PyData.eqv]
      | lst _ => rw [toPy] at e2; obtain ⟨qs, hq, rfl⟩ := Option.map_eq_some_iff.mp e2; simp [PyData.eqv]
      | tup _ => rw [toPy] at e2; obtain ⟨qs, hq, rfl⟩ := Option.map_eq_some_iff.mp e2; simp [PyData.eqv]
    | str s =>
      cases e1
      cases e with
      | bl _ => exact h2.elim
      | dic _ => exact h2.elim
      | obj _ _ => exact h2.elim
      | scr _ => exact h2.elim
      | exn _ _ => exact h2.elim
      | adr _ => exact h2.elim
      | ow _ => exact h2.elim
      | non => cases e2; simp [PyData.eqv]
      | int _ => cases e2; simp [PyData.eqv]
      | str _ => cases e2; simp [PyData.eqv]
      | lst _ => rw [toPy] at e2; obtain ⟨qs, hq, rfl⟩ := Option.map_eq_some_iff.mp e2; simp [PyData.eqv]
      | tup _ => rw [toPy] at e2; obtain ⟨qs, hq, rfl⟩ := Option.map_eq_some_iff.mp e2; simp [PyData.eqv]
    | lst ds =>
      rw [toPy] at e1
      obtain ⟨ps, hp, rfl⟩ := Option.map_eq_some_iff.mp e1
      cases e with
      | bl _ => exact h2.elim
      | dic _ => exact h2.elim
      | obj _ _ => exact h2.elim
      | scr _ => exact h2.elim
      | exn _ _ => exact h2.elim
      | adr _ => exact h2.elim
      | ow _ => exact h2.elim
      | non => cases e2; simp [PyData.eqv]
      | int _ => cases e2; simp [PyData.eqv]
      | str _ => cases e2; simp [PyData.eqv]
      | lst es =>
        rw [toPy] at e2
        obtain ⟨qs, hq, rfl⟩ := Option.map_eq_some_iff.mp e2
        rw [PyData.eqv, eqvAll_iff (eqv_iff n) h1 h2 hp hq]
        simp
      | tup _ => rw [toPy] at e2; obtain ⟨qs, hq, rfl⟩ := Option.map_eq_some_iff.mp e2; simp [PyData.eqv]
    | tup ds =>
      rw [toPy] at e1
      obtain ⟨ps, hp, rfl⟩ := Option.map_eq_some_iff.mp e1
      cases e with
      | bl _ => exact h2.elim
      | dic _ => exact h2.elim
      | obj _ _ => exact h2.elim
      | scr _ => exact h2.elim
      | exn _ _ => exact h2.elim
      | adr _ => exact h2.elim
      | ow _ => exact h2.elim
      | non => cases e2; simp [PyData.eqv]
      | int _ => cases e2; simp [PyData.eqv]
      | str _ => cases e2; simp [PyData.eqv]
      | tup es =>
        rw [toPy] at e2
        obtain ⟨qs, hq, rfl⟩ := Option.map_eq_some_iff.mp e2
        rw [PyData.eqv, eqvAll_iff (eqv_iff n) h1 h2 hp hq]
        simp
      | lst _ => rw [toPy] at e2; obtain ⟨qs, hq, rfl⟩ := Option.map_eq_some_iff.mp e2; simp [PyData.eqv]
theorem okL_eqp {d e : D} {k : Bool → Prop} (h : Pq 20 d) (h' : Pq 20 e) (hk : ∀ b : Bool, (b = true ↔ d = e) → k b) : okL (eqD d e) k := by
  obtain ⟨p, hp, c1, d1⟩ := h.py
  obtain ⟨q, hq, c2, d2⟩ := h'.py
  have s1 : SeqAt.shaped p = true := by unfold SeqAt.shaped; rw [c1, decide_eq_true (by omega)]; rfl
  have s2 : SeqAt.shaped q = true := by unfold SeqAt.shaped; rw [c2, decide_eq_true (by omega)]; rfl
  have e : eqD d e = some (PyData.eqv p q) := by simp only [eqD, hp, hq, s1, s2, and_self, if_true]
  rw [e]
  exact hk _ (eqv_iff 20 d _ p q h h' hp hq)
open Classical in
theorem okL_eqd {d e : D} {k : Bool → Prop} (h : Pq 20 d) (h' : Pq 20 e) (hk : k (decide (d = e))) : okL (eqD d e) k :=
  okL_eqp h h' fun b hb => by
    have : b = decide (d = e) := by
      rw [Bool.eq_iff_iff, decide_eq_true_iff]
      exact hb
    rw [this]
    exact hk
theorem pq_txs {ls : List (List Nat)} (h : ∀ x ∈ ls, okT x) : Pq 20 (.lst (ls.map dtx)) := fun y hy => by
  obtain ⟨x, hx, rfl⟩ := List.mem_map.mp hy
  exact ⟨x, rfl, h x hx⟩
theorem dtx_inj {a b : List Nat} (h : dtx a = dtx b) : a = b := tx_inj (D.str.inj h)
theorem dtxs_inj : ∀ {a b : List (List Nat)}, a.map dtx = b.map dtx → a = b
  | [], [], _ => rfl
  | [], _ :: _, h => by cases h
  | _ :: _, [], h => by cases h
  | x :: a, y :: b, h => by
    rw [List.map_cons, List.map_cons, List.cons.injEq] at h
    rw [dtx_inj h.1, dtxs_inj h.2]
end PyD.S

end

section
set_option maxHeartbeats 4000000
namespace PyD.S
open PySem PySem.Spec L2 PyD.S
noncomputable def Sp (ps : List Nat) (i : Nat) : Prop := ps.Pairwise (· < ·) ∧ (∀ p ∈ ps, p < i) ∧ ps.length ≤ i
noncomputable def Pins (l : T) (ps : List Nat) : Prop := ps.Pairwise (· < ·) ∧ ∀ p ∈ ps, p < l.length
theorem rising_len : ∀ {ps : List Nat} {lo n : Nat}, ps.Pairwise (· < ·) → (∀ p ∈ ps, lo ≤ p ∧ p < n) → ps.length ≤ n - lo
  | [], _, _, _, _ => by simp
  | p :: ps, lo, n, h, hp => by
    obtain ⟨h1, h2⟩ := List.pairwise_cons.mp h
    have hp0 := hp p (by simp)
    have := rising_len (lo := p + 1) (n := n) h2 fun q hq => by
      have := h1 q hq
      have := hp q (by simp [hq])
      omega
    simp only [List.length_cons]
    omega
theorem Pins.len {l : T} {ps : List Nat} (h : Pins l ps) : ps.length ≤ l.length := by
  have := rising_len (lo := 0) (n := l.length) h.1 fun p hp => ⟨by omega, h.2 p hp⟩
  omega
theorem pq_nats (ps : List Nat) : Pq 20 (.lst (ps.map dN)) := fun y hy => by
  obtain ⟨x, hx, rfl⟩ := List.mem_map.mp hy
  trivial
end PyD.S

end

set_option hygiene false in
local macro_rules | `(tactic| walk_at "kc829736b") => `(tactic| first
  | walk_at "keb648c07"
  | walk_at "k1b320420")

set_option hygiene false in
local macro_rules | `(tactic| walk_at "kfb9d909a") => `(tactic| repeat walk_at "kc829736b")

section
set_option maxHeartbeats 8000000
namespace PyD.S
open PySem PySem.Spec L2 PyD.S
noncomputable def Tch (l x : T) (ts : List Nat) : Prop := ts.Pairwise (· < ·) ∧ ∀ q, q ∈ ts ↔ ∃ a, a + x.length ≤ l.length ∧ x = cutT l a (a + x.length) ∧ a ≤ q ∧ q < a + x.length
theorem nodup_lt {ks : List Nat} {n : Nat} (h : ks.Nodup) (h' : ∀ q ∈ ks, q < n) : ks.length ≤ n := by
  have := rising_len (lo := 0) (n := n) (sortN_rising h) fun q hq => ⟨Nat.zero_le _, h' q (List.mem_mergeSort.mp hq)⟩
  rw [List.length_mergeSort] at this
  omega
theorem cutT_okT {l : T} {i j : Nat} (h : okT l) : okT (cutT l i j) := fun c hc => h c (List.mem_of_mem_take (List.mem_of_mem_drop hc))
theorem touching_ok {l x : T} {k : Out → Prop} (hl : l.length ≤ 5000) (hc : okT l) (hx : okT x) (hxl : x.length ≤ l.length) (h : ∀ ts, Tch l x ts → ts.length ≤ l.length → k (.ret true (.lst (ts.map dN)) [.str (tx l), .str (tx x)])) : okO (phi_touching [.str (tx l), .str (tx x)]) k := by
  unfold phi_touching b_touching
  walk_at "k93490303"
  refine os_ix (fun i en => ∃ ks : List Nat, en = [.v (.str (tx l)), .v (.str (tx x)), .o false (.dic (dicN ks)), .e, .e] ∧ ks.Nodup ∧ (∀ q ∈ ks, q < l.length) ∧ ∀ q, q ∈ ks ↔ ∃ a, a < i ∧ x = cutT l a (a + x.length) ∧ a ≤ q ∧ q < a + x.length) ⟨[], rfl, by simp, by simp, by simp⟩ ?_ ?_
  · rintro i d hd en ⟨ks, rfl, hnd, hlt, hks⟩
    obtain ⟨rfl, hi⟩ := upL_get hd
    rw [Int.zero_add]
    walk_at "kfb9d909a"
    rw [cut_nat]
    refine okL_eqtx (cutT_okT hc) hx ?_
    walk_at "kfb9d909a"
    have hil : i + x.length ≤ l.length := by omega
    refine bj_mk (fun h1 => ?_) (fun h1 => ?_)
    · walk_at "kfb9d909a"
      refine os_ix (fun j en => ∃ ks2 : List Nat, en = [.v (.str (tx l)), .v (.str (tx x)), .o false (.dic (dicN ks2)), .v (.int i), .e] ∧ ks2.Nodup ∧ (∀ q ∈ ks2, q < l.length) ∧ ∀ q, q ∈ ks2 ↔ q ∈ ks ∨ (i ≤ q ∧ q < i + j)) ⟨ks, rfl, hnd, hlt, fun q => ⟨.inl, fun z => z.elim id fun z => by omega⟩⟩ ?_ ?_
      · rintro j d hd en ⟨ks2, rfl, hnd2, hlt2, hks2⟩
        obtain ⟨rfl, hj⟩ := upL_get hd
        have hlen := nodup_lt hnd2 hlt2
        rw [Int.zero_add]
        walk_at "keb648c07"
        rw [show (i : Int) + (j : Int) = ((i + j : Nat) : Int) by omega, set_dic (k := kN (i + j)) rfl, okL_if, put_dicN]
        refine ⟨by rw [dicN_len]; omega, ?_⟩
        walk_at "keb648c07"
        refine ⟨_, rfl, nodup_addN hnd2, fun q hq => ?_, fun q => ?_⟩
        · rcases mem_addN.mp hq with hq | hq
          · exact hlt2 q hq
          · omega
        · rw [mem_addN, hks2]
          by_cases hq : q ∈ ks
          · simp [hq]
          · simp only [hq, false_or]
            omega
      · rintro en ⟨ks2, rfl, hnd2, hlt2, hks2⟩
        rw [upL_len, show ((x.length : Int)).toNat = x.length by omega] at hks2
        walk_at "keb648c07"
        refine ⟨ks2, rfl, hnd2, hlt2, fun q => ?_⟩
        rw [hks2, hks]
        constructor
        · rintro (⟨a, h2, h3⟩ | h2)
          · exact ⟨a, by omega, h3⟩
          · exact ⟨i, by omega, h1.symm, h2⟩
        · rintro ⟨a, h2, h3, h4⟩
          by_cases e : a = i
          · subst e; exact .inr h4
          · exact .inl ⟨a, by omega, h3, h4⟩
    · walk_at "kfb9d909a"
      refine ⟨ks, rfl, hnd, hlt, fun q => ?_⟩
      rw [hks]
      constructor
      · rintro ⟨a, h2, h3⟩
        exact ⟨a, by omega, h3⟩
      · rintro ⟨a, h2, h3, h4⟩
        by_cases e : a = i
        · subst e; exact absurd h3.symm h1
        · exact ⟨a, by omega, h3, h4⟩
  · rintro en ⟨ks, rfl, hnd, hlt, hks⟩
    rw [upL_len] at hks
    walk_at "k93490303"
    refine okL_of sort_dicN ?_
    walk_at "k93490303"
    refine h _ ⟨sortN_rising hnd, fun q => ?_⟩ ?_
    · rw [List.mem_mergeSort, hks]
      constructor
      · rintro ⟨a, h1, h2⟩
        exact ⟨a, by omega, h2⟩
      · rintro ⟨a, h1, h2⟩
        exact ⟨a, by omega, h2⟩
    · rw [List.length_mergeSort]
      exact nodup_lt hnd hlt
end PyD.S

end

section
set_option maxHeartbeats 8000000
namespace PyD.S
open PySem PySem.Spec L2 PyD.S
noncomputable def MP (l : T) (ps : List Nat) (x : T) (ts : List Nat) : Prop := ∃ m, 1 ≤ m ∧ m ≤ l.length ∧ msd l ps m x ∧ Tch l x ts ∧ ts.length ≤ l.length
noncomputable def BT (l : T) (ps : List Nat) (P : Prop) (b : D) : Prop := (b = D.non ∧ P) ∨ ∃ x ts, b = .tup [.str (tx x), .lst (ts.map dN)] ∧ MP l ps x ts
theorem msd_len {l : T} {ps : List Nat} {m : Nat} {x : T} (hm : m ≤ l.length) (h : msd l ps m x) : x.length = m ∧ ∃ a, a + m ≤ l.length ∧ x = cutT l a (a + m) := by
  obtain ⟨⟨a, ha, e⟩, _⟩ := h
  have ha : a + m ≤ l.length := by unfold manyAt at ha; omega
  refine ⟨?_, a, ha, e⟩
  rw [e]
  unfold cutT
  rw [List.length_drop, List.length_take]
  omega
theorem tightest_ok {l : T} {ps : List Nat} {k : Out → Prop} (hl : l.length ≤ 5000) (hc : okT l) (h0 : (∀ m, 1 ≤ m → m ≤ l.length → ∀ x, ¬ msd l ps m x) → k (.ret false .non [.str (tx l), .tup (ps.map dN)])) (h1 : ∀ x ts, MP l ps x ts → k (.ret false (.tup [.str (tx x), .lst (ts.map dN)]) [.str (tx l), .tup (ps.map dN)])) : okO (phi_tightest [.str (tx l), .tup (ps.map dN)]) k := by
  unfold phi_tightest b_tightest
  walk_at "k93490303"
  refine ahead_ok hl ?_
  walk_at "k93490303"
  rw [show ((l.length : Int) + 1 - 1).toNat = l.length by omega]
  refine os_ix (fun i en => ∃ b, en = [.v (.str (tx l)), .v (.tup (ps.map dN)), .v (.lst (ahA ps l.length)), .v b, .e, .e, .e] ∧ BT l ps (∀ m, 1 ≤ m → m ≤ i → ∀ x, ¬ msd l ps m x) b) ⟨_, rfl, .inl ⟨rfl, fun m a b => by omega⟩⟩ ?_ ?_
  · rintro i d hd en ⟨b, rfl, hb⟩
    obtain ⟨rfl, hlt⟩ := upL_get hd
    rw [show (1 : Int) + (i : Int) = ((i + 1 : Nat) : Int) by omega]
    walk_at "k93490303"
    refine missed_ok hl (by omega) fun ms hnd hml hms => ?_
    walk_at "k93490303"
    refine os_ix (fun q en => ∃ b, en = [.v (.str (tx l)), .v (.tup (ps.map dN)), .v (.lst (ahA ps l.length)), .v b, .v (.int ((i + 1 : Nat) : Int)), .e, .e] ∧ BT l ps (q = 0 ∧ ∀ m, 1 ≤ m → m ≤ i → ∀ x, ¬ msd l ps m x) b) ⟨b, rfl, hb.imp (fun ⟨a, c⟩ => ⟨a, rfl, c⟩) id⟩ ?_ ?_
    · rintro q d hd en ⟨b, rfl, hb⟩
      rw [List.getElem?_map] at hd
      obtain ⟨x, hx, rfl⟩ := Option.map_eq_some_iff.mp hd
      have hm := (hms x).mp (List.mem_of_getElem? hx)
      obtain ⟨hxl, a, ha, hxe⟩ := msd_len (by omega) hm
      have hxc : okT x := by rw [hxe]; exact cutT_okT hc
      walk_at "k93490303"
      refine touching_ok hl hc hxc (by omega) fun ts ht htl => ?_
      have hmp : MP l ps x ts := ⟨i + 1, by omega, by omega, hm, ht, htl⟩
      rcases hb with ⟨rfl, rfl, hno⟩ | ⟨y, us, rfl, hmp2⟩
      · walk_at "kfb9d909a"
        exact ⟨_, rfl, .inr ⟨x, ts, rfl, hmp⟩⟩
      · walk_at "kfb9d909a"
        refine bj_mk (fun h3 => ?_) (fun h3 => ?_)
        · walk_at "kfb9d909a"
          exact ⟨_, rfl, .inr ⟨x, ts, rfl, hmp⟩⟩
        · walk_at "kfb9d909a"
          exact ⟨_, rfl, .inr ⟨y, us, rfl, hmp2⟩⟩
    · rintro en ⟨b, rfl, hb⟩
      walk_at "k93490303"
      refine ⟨b, rfl, hb.imp (fun ⟨e, e2, hno⟩ => ⟨e, fun m a c x hx => ?_⟩) id⟩
      rw [List.length_map] at e2
      by_cases hm : m = i + 1
      · subst hm
        have := (hms x).mpr hx
        rw [List.length_eq_zero_iff.mp e2] at this
        cases this
      · exact hno m a (by omega) x hx
  · rintro en ⟨b, rfl, hb⟩
    rw [upL_len] at hb
    walk_at "k93490303"
    rcases hb with ⟨rfl, hno⟩ | ⟨x, ts, rfl, hmp⟩
    · exact h0 hno
    · exact h1 x ts hmp
end PyD.S

end

section
set_option maxHeartbeats 8000000
namespace PyD.S
open PySem PySem.Spec L2 PyD.S
noncomputable def Hd (l : T) (ps : List Nat) : Prop := ∀ m, 1 ≤ m → m ≤ l.length → ∀ x, ¬ msd l ps m x
theorem tch.sub {ps qs : List Nat} {a m : Nat} (hs : ∀ p ∈ ps, p ∈ qs) (h : tch ps a m) : tch qs a m := by
  obtain ⟨p, h1, h2⟩ := h
  exact ⟨p, hs p h1, h2⟩
theorem Hd.sub {l : T} {ps qs : List Nat} (hs : ∀ p ∈ ps, p ∈ qs) (h : Hd l ps) : Hd l qs := fun m h1 h2 x ⟨hx, hno⟩ => h m h1 h2 x ⟨hx, fun a ha e t => hno a ha e (t.sub hs)⟩
theorem MP.more {l x : T} {ps qs ts : List Nat} (h : MP l ps x ts) (hh : Hd l (ps ++ qs)) : ∃ q, q ∈ qs ∧ q ∈ ts := by
  obtain ⟨m, h1, h2, h3, ⟨_, h4⟩, _⟩ := h
  have hxl := (msd_len h2 h3).1
  refine Classical.byContradiction fun hn => hh m h1 h2 x ⟨h3.1, fun a ha e t => ?_⟩
  obtain ⟨p, hp, h5, h6⟩ := t
  rcases List.mem_append.mp hp with hp | hp
  · exact h3.2 a ha e ⟨p, hp, h5, h6⟩
  · refine hn ⟨p, hp, (h4 p).mpr ⟨a, ?_, ?_, h5, by omega⟩⟩
    · unfold manyAt at ha; omega
    · rw [hxl]; exact e
noncomputable def dR : Option (List Nat) → D
  | none => .non
  | some rs => .tup (rs.map dN)
theorem dR_n : dR none = .non := rfl
theorem dR_s {rs : List Nat} : dR (some rs) = .tup (rs.map dN) := rfl
noncomputable def WI (l : T) (ps : List Nat) (j : Nat) : Option (List Nat) → Prop
  | none => ∀ qs : List Nat, qs.length ≤ j → ¬ Hd l (ps ++ qs)
  | some rs => ∃ qs, rs = ps ++ qs ∧ qs.length ≤ j ∧ (∀ q ∈ qs, q < l.length) ∧ Hd l rs
theorem Tch.lt {l x : T} {ts : List Nat} (h : Tch l x ts) : ∀ q ∈ ts, q < l.length := fun q hq => by
  obtain ⟨a, h1, _, h2, h3⟩ := (h.2 q).mp hq
  omega
theorem within_ok {l : T} (hl : l.length ≤ 5000) (hc : okT l) : ∀ (n j : Nat) (ps : List Nat) {k : Out → Prop}, j < n → ps.length + j ≤ 900 → (∀ r, WI l ps j r → k (.ret false (dR r) [.str (tx l), .tup (ps.map dN), .int j])) → okO (phiN_pins_within n [.str (tx l), .tup (ps.map dN), .int j]) k
  | 0, j, ps, k, hj, hps, h => by omega
  | n + 1, j, ps, k, hj, hps, h => by
    unfold phiN_pins_within b_pins_within
    have hpl : (ps.map dN).length = ps.length := List.length_map _
    walk_at "k93490303"
    refine tightest_ok hl hc (fun hh => ?_) fun x ts hmp => ?_
    · walk_at "kfb9d909a"
      exact h (some ps) ⟨[], by simp, by simp, by simp, hh⟩
    · have hnh : ¬ Hd l ps := by
        obtain ⟨m, h1, h2, h3, _⟩ := hmp
        exact fun z => z m h1 h2 x h3
      walk_at "kfb9d909a"
      refine bj_mk (fun h1 => ?_) (fun h1 => ?_)
      · walk_at "kfb9d909a"
        refine h none fun qs hq => ?_
        rw [List.eq_nil_of_length_eq_zero (show qs.length = 0 by omega), List.append_nil]
        exact hnh
      · walk_at "kfb9d909a"
        refine os_ix (fun i en => en = [.v (.str (tx l)), .v (.tup (ps.map dN)), .v (.int j), .v (.tup [.str (tx x), .lst (ts.map dN)]), .e, .e] ∧ ∀ i' q, i' < i → ts[i']? = some q → WI l (ps ++ [q]) (j - 1) none) ⟨rfl, fun i' q h2 => by omega⟩ ?_ ?_
        · rintro i d hd en ⟨rfl, hi⟩
          rw [List.getElem?_map] at hd
          obtain ⟨q, hq, rfl⟩ := Option.map_eq_some_iff.mp hd
          walk_at "kfb9d909a"
          have e1 : D.tup (ps.map dN ++ [dN q]) = .tup ((ps ++ [q]).map dN) := by rw [List.map_append]; rfl
          rw [e1, show (j : Int) - 1 = ((j - 1 : Nat) : Int) by omega]
          refine within_ok hl hc n (j - 1) (ps ++ [q]) (by omega) (by rw [List.length_append, List.length_singleton]; omega) fun r hr => ?_
          cases r with
          | none =>
            rw [dR_n]
            walk_at "kfb9d909a"
            refine fun i' q' h2 h3 => ?_
            by_cases e : i' = i
            · rw [e, hq] at h3
              cases h3
              exact hr
            · exact hi i' q' (by omega) h3
          | some rs =>
            rw [dR_s]
            walk_at "kfb9d909a"
            obtain ⟨qs, e2, h3, h4, h5⟩ := hr
            refine h (some rs) ⟨q :: qs, by rw [e2, List.append_assoc]; rfl, by simp only [List.length_cons]; omega, fun z hz => ?_, h5⟩
            rcases List.mem_cons.mp hz with rfl | hz
            · obtain ⟨_, _, _, _, ht, _⟩ := hmp
              exact ht.lt z (List.mem_of_getElem? hq)
            · exact h4 z hz
        · rintro en ⟨rfl, hi⟩
          rw [List.length_map] at hi
          walk_at "kfb9d909a"
          refine h none fun qs hq hh => ?_
          obtain ⟨q, h2, h3⟩ := hmp.more hh
          obtain ⟨i', hi'⟩ := List.getElem?_of_mem h3
          refine hi i' q (List.getElem?_eq_some_iff.mp hi').1 hi' (qs.erase q) (by rw [List.length_erase_of_mem h2]; omega) (hh.sub fun p hp => ?_)
          rcases List.mem_append.mp hp with hp | hp
          · simp [hp]
          · by_cases e : p = q
            · simp [e]
            · have := (List.mem_erase_of_ne e).mpr hp
              simp [this]
end PyD.S

end

namespace PyD.S
open PySem PySem.Spec L2
end PyD.S

namespace PyD.S
open PySem PySem.Spec L2
end PyD.S

section
set_option maxHeartbeats 8000000
namespace PyD.S
open PySem PySem.Spec L2 PyD.S
noncomputable def TR (l : T) : Nat → List Nat → D → Prop
  | 0, ps, d => ∃ x ts, MP l ps x ts ∧ d = .tup [.str (tx x), .lst []]
  | j + 1, ps, d => ∃ x ts, ∃ prs : List (Nat × D), MP l ps x ts ∧ prs.map Prod.fst = ts ∧ d = .tup [.str (tx x), .lst (prs.map fun p => .tup [dN p.1, p.2])] ∧ ∀ p ∈ prs, TR l j (ps ++ [p.1]) p.2
noncomputable def No (l : T) (ps : List Nat) (j : Nat) : Prop := ∀ qs : List Nat, qs.length ≤ j → ¬ Hd l (ps ++ qs)
theorem No.next {l : T} {ps : List Nat} {j q : Nat} (h : No l ps (j + 1)) : No l (ps ++ [q]) j := fun qs hq hh => h (q :: qs) (by simp; omega) (by rw [List.append_assoc] at hh; exact hh)
theorem No.here {l : T} {ps : List Nat} {j : Nat} (h : No l ps j) : ¬ Hd l ps := fun z => h [] (by simp) (by rw [List.append_nil]; exact z)
theorem Hd.all {l : T} {qs : List Nat} (h : ∀ q, q < l.length → q ∈ qs) : Hd l qs := fun m h1 h2 x hx => by
  obtain ⟨⟨a, ha, e⟩, hno⟩ := hx
  have ha2 : a + m ≤ l.length := by unfold manyAt at ha; omega
  exact hno a ha e ⟨a, h a (by omega), by omega, by omega⟩
theorem dedup : ∀ rs : List Nat, ∃ qs : List Nat, qs.Nodup ∧ (∀ x, x ∈ qs ↔ x ∈ rs) ∧ qs.length ≤ rs.length ∧ (qs.length = rs.length → rs.Nodup)
  | [] => ⟨[], by simp, by simp, by simp, by simp⟩
  | a :: r => by
    obtain ⟨qs, h1, h2, h3, h4⟩ := dedup r
    by_cases ha : a ∈ r
    · refine ⟨qs, h1, fun x => ?_, by simp only [List.length_cons]; omega, fun z => by simp only [List.length_cons] at z; omega⟩
      rw [h2, List.mem_cons]
      exact ⟨.inr, fun z => z.elim (fun e => e ▸ ha) id⟩
    · have ha2 : a ∉ qs := fun z => ha ((h2 a).mp z)
      refine ⟨a :: qs, List.nodup_cons.mpr ⟨ha2, h1⟩, fun x => by rw [List.mem_cons, List.mem_cons, h2], by simp only [List.length_cons]; omega, fun z => List.nodup_cons.mpr ⟨ha, h4 (by simp only [List.length_cons] at z; omega)⟩⟩
end PyD.S

end

set_option hygiene false in
local macro_rules | `(tactic| walk_at "ka57b6db6") => `(tactic| simp -dsimp -implicitDefEqProofs only [ok_tupN, ok_ul, os_asX, xK_sh, xK_fr, ok_callCS, ok_callC1, ok_selI, ok_selF, owK_o, olK_o, ooK_o, inK_i, unK_o, rcK_eq, ok_mutC, os_stC, ok_dmC, ok_dmE, deK_v, deK_o, ok_rdC, ok_fldR, fnK_sh, fnK_fr, os_fldN, isK_ow, isK_non, ok_isnC, mkNK_obj, ok_mkN, ok_lstN, owns_nil, owns_fr, ok_orW, ok_lcN, ownD_fr, putC_ix, putC_fd, flatO_lst, flatO_tup, flatO_dic, flatO_non, flatO_str, flatO_int, dsk_lg, dsk_lp, dsk0, dsk1, dsk2, dsk3, dsk_ch, isd_say, isd_pt, isd_pp, isd_told, os_endC, os_endFN, sls_0, sls_1, chD_20, chD_21, List.take_succ_cons, List.take_zero, os_fld, os_endFl, fldK_o, ok_meth, ok_mk, mkK_obj, ok_chk, is_on, gro0, gro1, gro2, gro3, gro_s, gro_n, isg_put, isg_text, isg_many, isg_parts, isg_pins, isg_bound, str_int, str_str, isI_int, loopK_exc, os_rs, rsOK_sh, os_rsO, goneK_nx, goneK_rt, tryK_nx, tryK_rt, tryK_exc, os_try, os_endTr, exD_none, exD_some, exF_none, exF_some, callK_exc, defK_exc, isx_non, isxT_non, isv_non, okL_isx, okL_isxT, okL_isv, okL_fld, is_xn, subX, reduceCtorEq, decide_true, decide_false, Bool.or_self, Bool.or_false, Bool.false_or, List.any_cons, List.any_nil, is_nn, is_in, is_sn, is_tn, is_ln, is_bn, os_endA, os_endO, os_endG, os_endP, os_endD, os_endS, os_endFr, os_endWh, os_bod, endK_nx, endK_rt, endK_bk, endK_ct, endK_exc, bodK_nx, bodK_rt, bodK_bk, bodK_ct, bodK_exc, frM_t, frM_f, frM_n, wpM_t, wpM_f, wpM_n, ok_c, ok_nm, nmK_v, nmK_o, ok_mv, mvK_v, mvK_o, ok_dm, dmK_v, dmK_o, ok_nil, ok_cons, ok_one, ok_two, ok_op, ok_tstB, ok_tstF, ok_not, bi_true, bi_false, bi_dec, bj_true, bj_false, bj_not, bi_not_dec, ok_and, ok_or, ok_ifF, ok_andF, ok_orF, ok_notF, ok_tup, ok_lst, ok_dic, ok_bm, intR_int, ok_prtN, ok_prtS, ok_sl, callK_ret, ok_call, ok_itA, ok_lc, ok_ch, ok_mut, mutG, shK_sh, shK2_sh, ordB, ownK_o, os_sk, os_bk, os_ct, seqK_nx, seqK_rt, seqK_bk, seqK_ct, seqK_exc, os_seq, os_dr, os_rt, vK_sh, vK_fr, os_asV, os_asO, os_asG, os_asP, os_st, oK_fr, ok_gNm, ok_gTp, ok_gNms0, ok_gNms1, os_fr, ok_run, defK_nx, defK_sh, defK_fr, loopK_nx, loopK_ct, loopK_bk, loopK_rt, okL_some, okL_map, okL_if, okL_ifo, rsls, rsl, stos, stoD, mkR, blD, free_eq, frS_e, frS_v, frS_o, nxK_nx, List.getElem?_cons_zero, List.getElem?_cons_succ, List.set_cons_zero, List.set_cons_succ, List.length_cons, List.length_nil, Nat.zero_add, Nat.reduceAdd, mkE, slIn, List.replicate, List.cons_append, List.nil_append, outsOf, pick, lentOk, nodupB, slotsOf, borrows, putBack, resFlat, add_tx, add_lst, add_tup, add_int, sub_int, mulV_int, mod_int, fdv_int, pow_int, neg_int, eq_int, eqOp_eq, ne_false, ne_true, tx_list, len_tx, len_lst, len_tup, len_scr, len_dic, ix_lst, ix_tup, ix_tx, ix_scr, at_0, at_1, at_2, set_lst, app_lst, ixN_30, ixN_31, ixN_32, ixN_20, ixN_21, ixN_10, sl_tx, sl_lst, sl_tup, sl_scr, true_and, and_true, ordD, Bool.not_false, Bool.not_true, Bool.and_true, Bool.true_and, Bool.or_true, Bool.true_or, List.elem, Bool.false_eq_true, if_true, if_false, isLst, isStr, isDic, int_bl, int_int, list_lst, list_tup, list_scr, tuple_lst, tuple_tup, max2_int, min2_int, isi_int, isi_bl, isi_str, isi_tup, isi_lst, isi_non, isi_dic, ty_ii, ty_ib, ty_is, ty_it, ty_il, ty_bi, ty_bb, ty_bs, ty_bt, ty_bL, ty_si, ty_sb, ty_ss, ty_st, ty_sl, ty_ti, ty_tb, ty_ts, ty_tt, ty_tl, ty_li, ty_lb, ty_ls, ty_lt, ty_ll, ty_ni, ty_nb, ty_ns, ty_nt, ty_nl, rg1, rg2, rg3, it_lst, it_tup, it_scr, it_str, enum_lst, zip_lst, zip_tup, rev_lst, rev_tup, tru_int, tru_bl, tru_lst, tru_tup, wipeE, resE, List.all_cons, List.all_nil, Bool.and_eq_true, dtx, yesT_ok, and_self])

set_option hygiene false in
local macro_rules | `(tactic| walk_at "k83716674") => `(tactic| first
  | walk_at "ka57b6db6"
  | walk_at "k1b320420")

set_option hygiene false in
local macro_rules | `(tactic| walk_at "kcfa418b3") => `(tactic| repeat walk_at "k83716674")

set_option hygiene false in
local macro_rules | `(tactic| walk_at "k027bf9d4") => `(tactic| simp -dsimp -implicitDefEqProofs only [ok_tupN, ok_ul, os_asX, xK_sh, xK_fr, ok_callCS, ok_callC1, ok_selI, ok_selF, owK_o, olK_o, ooK_o, inK_i, unK_o, rcK_eq, ok_mutC, os_stC, ok_dmC, ok_dmE, deK_v, deK_o, ok_rdC, ok_fldR, fnK_sh, fnK_fr, os_fldN, isK_ow, isK_non, ok_isnC, mkNK_obj, ok_mkN, ok_lstN, owns_nil, owns_fr, ok_orW, ok_lcN, ownD_fr, putC_ix, putC_fd, flatO_lst, flatO_tup, flatO_dic, flatO_non, flatO_str, flatO_int, dsk_lg, dsk_lp, dsk0, dsk1, dsk2, dsk3, dsk_ch, isd_say, isd_pt, isd_pp, isd_told, os_endC, os_endFN, sls_0, sls_1, chD_20, chD_21, List.take_succ_cons, List.take_zero, os_fld, os_endFl, fldK_o, ok_meth, ok_mk, mkK_obj, ok_chk, is_on, gro0, gro1, gro2, gro3, gro_s, gro_n, isg_put, isg_text, isg_many, isg_parts, isg_pins, isg_bound, str_int, str_str, isI_int, loopK_exc, os_rs, rsOK_sh, os_rsO, goneK_nx, goneK_rt, tryK_nx, tryK_rt, tryK_exc, os_try, os_endTr, exD_none, exD_some, exF_none, exF_some, callK_exc, defK_exc, isx_non, isxT_non, isv_non, okL_isx, okL_isxT, okL_isv, okL_fld, is_xn, subX, reduceCtorEq, decide_true, decide_false, Bool.or_self, Bool.or_false, Bool.false_or, List.any_cons, List.any_nil, os_if, os_endIf, is_nn, is_in, is_sn, is_tn, is_ln, is_bn, os_endA, os_endO, os_endG, os_endP, os_endD, os_endS, os_endFr, os_endWh, os_bod, endK_nx, endK_rt, endK_bk, endK_ct, endK_exc, bodK_nx, bodK_rt, bodK_bk, bodK_ct, bodK_exc, frM_t, frM_f, frM_n, wpM_t, wpM_f, wpM_n, ok_c, ok_nm, nmK_v, nmK_o, ok_mv, mvK_v, mvK_o, ok_dm, dmK_v, dmK_o, ok_nil, ok_cons, ok_one, ok_two, ok_op, ok_tstB, ok_tstF, ok_not, bi_true, bi_false, bi_dec, bj_true, bj_false, bj_not, bi_not_dec, ok_and, ok_or, ok_ifF, ok_andF, ok_orF, ok_notF, ok_tup, ok_lst, ok_dic, ok_bm, intR_int, ok_prtN, ok_prtS, ok_sl, callK_ret, ok_call, ok_itA, ok_lc, ok_ch, ok_mut, mutG, shK_sh, shK2_sh, ordB, ownK_o, os_sk, os_bk, os_ct, seqK_nx, seqK_rt, seqK_bk, seqK_ct, seqK_exc, os_seq, os_dr, os_rt, vK_sh, vK_fr, os_asV, os_asO, os_asG, os_asP, os_st, oK_fr, ok_gNm, ok_gTp, ok_gNms0, ok_gNms1, os_fr, ok_run, defK_nx, defK_sh, defK_fr, loopK_nx, loopK_ct, loopK_bk, loopK_rt, okL_some, okL_map, okL_if, okL_ifo, rsls, rsl, stos, stoD, mkR, blD, free_eq, frS_e, frS_v, frS_o, nxK_nx, List.getElem?_cons_zero, List.getElem?_cons_succ, List.set_cons_zero, List.set_cons_succ, List.length_cons, List.length_nil, Nat.zero_add, Nat.reduceAdd, mkE, slIn, List.replicate, List.cons_append, List.nil_append, outsOf, pick, lentOk, nodupB, slotsOf, borrows, putBack, resFlat, add_tx, add_lst, add_tup, add_int, sub_int, mulV_int, mod_int, fdv_int, pow_int, neg_int, eq_int, eqOp_eq, ne_false, ne_true, tx_list, len_tx, len_lst, len_tup, len_scr, len_dic, ix_lst, ix_tup, ix_tx, ix_scr, at_0, at_1, at_2, set_lst, app_lst, ixN_30, ixN_31, ixN_32, ixN_20, ixN_21, ixN_10, sl_tx, sl_lst, sl_tup, sl_scr, true_and, and_true, ordD, Bool.not_false, Bool.not_true, Bool.and_true, Bool.true_and, Bool.or_true, Bool.true_or, List.elem, Bool.false_eq_true, if_true, if_false, isLst, isStr, isDic, int_bl, int_int, list_lst, list_tup, list_scr, tuple_lst, tuple_tup, max2_int, min2_int, isi_int, isi_bl, isi_str, isi_tup, isi_lst, isi_non, isi_dic, ty_ii, ty_ib, ty_is, ty_it, ty_il, ty_bi, ty_bb, ty_bs, ty_bt, ty_bL, ty_si, ty_sb, ty_ss, ty_st, ty_sl, ty_ti, ty_tb, ty_ts, ty_tt, ty_tl, ty_li, ty_lb, ty_ls, ty_lt, ty_ll, ty_ni, ty_nb, ty_ns, ty_nt, ty_nl, rg1, rg2, rg3, it_lst, it_tup, it_scr, it_str, enum_lst, zip_lst, zip_tup, rev_lst, rev_tup, tru_int, tru_bl, tru_lst, tru_tup, wipeE, resE, List.all_cons, List.all_nil, Bool.and_eq_true, dtx, yesT_ok, and_self])

set_option hygiene false in
local macro_rules | `(tactic| walk_at "k99cd6622") => `(tactic| first
  | walk_at "k027bf9d4"
  | walk_at "k1b320420")

set_option hygiene false in
local macro_rules | `(tactic| walk_at "k9de11942") => `(tactic| repeat walk_at "k99cd6622")

section
set_option maxHeartbeats 8000000
namespace PyD.S
open PySem PySem.Spec L2 PyD.S
noncomputable def TO (l : T) : Nat → List Nat → D → Prop
  | 0, ps, d => ∃ x ts, MP l ps x ts ∧ d = .ow (.tup [.str (tx x), .ow (.lst [])])
  | j + 1, ps, d => ∃ x ts, ∃ prs : List (Nat × D), MP l ps x ts ∧ prs.map Prod.fst = ts ∧ d = .ow (.tup [.str (tx x), .ow (.ow (.lst (prs.map fun p => .ow (.ow (.tup [dN p.1, .ow p.2])))))]) ∧ ∀ p ∈ prs, TO l j (ps ++ [p.1]) p.2
theorem treeforO_ok {l : T} (hl : l.length ≤ 900) (hc : okT l) : ∀ (n j : Nat) (ps : List Nat) {k : Out → Prop}, j < n → ps.length + j ≤ 900 → No l ps j → (∀ d, TO l j ps d → k (.ret true d [.str (tx l), .tup (ps.map dN), .int j])) → okO (phiN_tree_for_v2 n [.str (tx l), .tup (ps.map dN), .int j]) k
  | 0, j, ps, k, hj, _, _, _ => by omega
  | n + 1, j, ps, k, hj, hps, hno, h => by
    unfold phiN_tree_for_v2 b_tree_for_v2
    have hpl : (ps.map dN).length = ps.length := List.length_map _
    walk_at "kcfa418b3"
    refine tightest_ok (by omega) hc (fun hh => absurd hh hno.here) fun x ts hmp => ?_
    have htl : ts.length ≤ l.length := hmp.choose_spec.2.2.2.2
    walk_at "k9de11942"
    cases j with
    | zero =>
      walk_at "k9de11942"
      refine okL_of rfl ?_
      walk_at "k9de11942"
      exact h _ ⟨x, ts, hmp, rfl⟩
    | succ j =>
      refine bj_f (by omega) ?_
      walk_at "k9de11942"
      refine ok_lcNY (fun acc en => ∃ prs : List (Nat × D), acc = prs.map (fun p => .ow (.ow (.tup [dN p.1, .ow p.2]))) ∧ prs.map Prod.fst = ts.take acc.length ∧ (∀ p ∈ prs, TO l j (ps ++ [p.1]) p.2) ∧ en = [.v (.str (tx l)), .v (.tup (ps.map dN)), .v (.int ((j + 1 : Nat) : Int)), .v (.str (tx x)), .v (.lst (ts.map dN)), .e]) ⟨[], rfl, rfl, by simp, rfl⟩ (by rw [List.length_map]; omega) ?_ ?_
      · rintro i d hd acc en hi ⟨prs, ha, hpr, htr, rfl⟩
        rw [List.getElem?_map] at hd
        obtain ⟨q, hq, rfl⟩ := Option.map_eq_some_iff.mp hd
        subst hi
        walk_at "k9de11942"
        have e1 : D.tup (ps.map dN ++ [dN q]) = .tup ((ps ++ [q]).map dN) := by rw [List.map_append]; rfl
        rw [e1, show ((j + 1 : Nat) : Int) - 1 = (j : Int) by omega]
        refine treeforO_ok hl hc n j (ps ++ [q]) (by omega) (by rw [List.length_append, List.length_singleton]; omega) hno.next fun d hd => ?_
        walk_at "k9de11942"
        refine okL_of rfl ?_
        walk_at "k9de11942"
        refine ⟨prs ++ [(q, d)], by rw [List.map_append, ha]; rfl, ?_, fun p hp => ?_⟩
        · rw [List.map_append, hpr, List.length_append, List.length_singleton, List.take_succ, hq]
          rfl
        · rcases List.mem_append.mp hp with hp | hp
          · exact htr p hp
          · rw [List.mem_singleton.mp hp]
            exact hd
      · rintro acc en hlen ⟨prs, rfl, hpr, htr, rfl⟩
        rw [List.length_map] at hlen
        rw [List.length_map, hlen, List.length_map, List.take_length] at hpr
        walk_at "k9de11942"
        refine okL_of rfl ?_
        walk_at "k9de11942"
        exact h _ ⟨x, ts, prs, hmp, hpr, rfl, htr⟩
end PyD.S

end

namespace PyD.S
open PySem PySem.Spec L2
end PyD.S

namespace PyD.S
open PySem PySem.Spec L2
noncomputable def b_ltext_v3 : En → Fl :=
  (seqF (asV 2 (opF ixUD (two (lstF (consF (cF (.str (tx [97]))) (consF (cF (.str (tx [97, 98]))) (consF (cF (.str (tx [98, 97, 99]))) (consF (cF (.str (tx [122, 121, 120, 119]))) nilF))))) (callF [true, false] phi_lpick (consF (nmF 0) (consF (cF (.int 4)) nilF))))))
  (seqF (ifS (tstF (opF ixUD (two (nmF 0) (cF (.int 1))))) (asV 2 (cF (.str (tx [113, 97, 122, 119, 115, 120, 101, 100, 99, 114, 102, 118, 116, 103, 98, 121, 104, 110, 117, 106, 109, 105, 107, 111, 108, 112])))) skF)
  (seqF (asV 3 (callF [true, false] phi_lpick (consF (nmF 0) (consF (opF addD (two (nmF 1) (cF (.int 1)))) nilF))))
  (seqF (asV 4 (callF [true, false] phi_lpick (consF (nmF 0) (consF (cF (.int 5)) nilF))))
  (seqF (asV 5 (lcF (itA rg1D (consF (opF addD (two (cF (.int 1)) (callF [true, false] phi_lpick (consF (nmF 0) (consF (cF (.int 5)) nilF))))) nilF)) (gNm 10) yesT (opF ixUD (two (nmF 2) (callF [true, false] phi_lpick (consF (nmF 0) (consF (opF lenD (consF (nmF 2) nilF)) nilF))))) [10]))
  (seqF (asV 6 (bmF isStr joinD (cF (.str (tx []))) (consF (nmF 5) nilF)))
  (seqF (endF [false, false, false, false, false, true] (ifS (tstB (opF (eqOp false) (two (nmF 4) (cF (.int 1))))) (asV 6 (opF mulVD (two (nmF 6) (opF addD (two (nmF 1) (cF (.int 1))))))) skF))
  (seqF (endF [false, false, false, false, false, false, false, true] (ifS (tstB (opF (eqOp false) (two (nmF 4) (cF (.int 2))))) (seqF (endF [false, false, false, false, false, false, true] (asP 7 8 (consF (nmF 6) (consF (opF ixUD (two (nmF 2) (opF negD (one (cF (.int 1)))))) nilF))))
  (seqF (endF [false, false, false, false, false, false, false, false, true] (whF (tstB (opF ltD (two (opF lenD (consF (nmF 7) nilF)) (nmF 3)))) (asP 7 8 (consF (opF addD (two (nmF 7) (nmF 8))) (consF (nmF 7) nilF))) 100000))
  (asV 6 (nmF 7)))) skF))
  (seqF (whF (andT (tstB (opF gtD (two (nmF 4) (cF (.int 2))))) (tstB (opF ltD (two (opF lenD (consF (nmF 6) nilF)) (nmF 3))))) (bodF [false, false, false, false, false, false, false, false, false, true]
  (seqF (asV 9 (callF [true, false] phi_lpick (consF (nmF 0) (consF (opF lenD (consF (nmF 6) nilF)) nilF))))
  (asV 6 (opF addD (two (opF addD (two (nmF 6) (slF slD (nmF 6) (some (nmF 9)) (some (opF addD (two (opF addD (two (nmF 9) (cF (.int 1)))) (callF [true, false] phi_lpick (consF (nmF 0) (consF (cF (.int 6)) nilF))))))))) (opF ixUD (two (nmF 2) (callF [true, false] phi_lpick (consF (nmF 0) (consF (opF lenD (consF (nmF 2) nilF)) nilF)))))))))) 100000)
  (seqF (endF [false, false, true, false, true] (whF (andT (tstB (opF (eqOp false) (two (nmF 4) (cF (.int 0))))) (tstB (opF ltD (two (opF lenD (consF (nmF 6) nilF)) (nmF 3))))) (asV 6 (opF addD (two (nmF 6) (opF ixUD (two (nmF 2) (callF [true, false] phi_lpick (consF (nmF 0) (consF (opF lenD (consF (nmF 2) nilF)) nilF)))))))) 100000))
  (rtF (slF slD (nmF 6) none (some (nmF 3))))))))))))))
noncomputable def phi_ltext_v3 : List D → Out := runF [true, false] 9 b_ltext_v3
end PyD.S

section
set_option maxHeartbeats 4000000
namespace PyD.S
open PySem PySem.Spec L2 PyD.S
noncomputable def Reel2 (d : D) : Prop := ∃ (i : Int) (f : Bool), d = .lst [.int i, .bl f]
theorem pick2_ok {p : D} {m : Int} {k : Out → Prop} (hp : Reel2 p) (hm : 0 < m) (hm2 : m ≤ 1000000000) (h : ∀ p' r, Reel2 p' → 0 ≤ r → r < m → k (.ret false (.int r) [p', .int m])) : okO (phi_lpick [p, .int m]) k := by
  obtain ⟨i, f, rfl⟩ := hp
  unfold phi_lpick b_lpick
  walk_at "k1be157fd"
  refine ⟨hm, ⟨hm, log_ok hm (by omega)⟩, ?_⟩
  exact h _ _ ⟨_, _, rfl⟩ (Int.emod_nonneg _ (by omega)) (Int.emod_lt_of_pos _ hm)
theorem rtext2_ok {p : D} {m : Int} {k : Out → Prop} (hp : Reel2 p) (hm : 0 ≤ m) (hm2 : m ≤ 900) (h : ∀ p' l, Reel2 p' → (l.length : Int) ≤ m → Lts l → k (.ret false (.str (tx l)) [p', .int m])) : okO (phi_ltext_v3 [p, .int m]) k := by
  unfold phi_ltext_v3 b_ltext_v3
  walk_at "k93490303"
  refine okL_atMem hr0 (by simpa using hr1) fun x hx => ?_
  obtain ⟨ls, rfl, hls, hln, hlm⟩ : ∃ ls, x = .str (tx ls) ∧ Lts ls ∧ ls ≠ [] ∧ ls.length ≤ 26 := by
    simp only [List.mem_cons, List.not_mem_nil, or_false] at hx
    rcases hx with rfl | rfl | rfl | rfl <;> exact ⟨_, rfl, by decide, by simp, by decide⟩
  clear hx
  have hlp : 0 < ls.length := List.length_pos_iff.mpr hln
  walk_at "k1be157fd"
  refine os_cut (fun en => ∃ ls, en = [.o true p, .v (.int m), .v (.str (tx ls)), .e, .e, .e, .e, .e, .e, .e, .e] ∧ Lts ls ∧ 0 < ls.length ∧ ls.length ≤ 26) ?_ ?_
  · obtain ⟨i, f, rfl⟩ := hp
    walk_at "keb648c07"
    refine bi_mk (fun h1 => ?_) (fun h1 => ?_)
    · walk_at "k93490303"
      exact ⟨_, rfl, by decide, by decide, by decide⟩
    · walk_at "k93490303"
      exact ⟨ls, rfl, hls, hlp, hlm⟩
  clear hls hln hlm hlp ls
  rintro en ⟨ls, rfl, hls⟩
  obtain ⟨hls, hlp, hlm⟩ := hls
  walk_at "k1be157fd"
  refine pick2_ok hp (by omega) (by omega) fun p many hp hm0 hm1 => ?_
  walk_at "k1be157fd"
  refine pick2_ok hp (by omega) (by omega) fun p way hp hw0 hw1 => ?_
  walk_at "k93490303"
  refine ok_lcY (fun acc en => ∃ p' us, Reel2 p' ∧ acc = us.map dtx ∧ (∀ l ∈ us, ∃ c, l = [c] ∧ Lt c) ∧ en = [.o true p', .v (.int m), .v (.str (tx ls)), .v (.int many), .v (.int way), .e, .e, .e, .e, .e, .e]) ⟨p, [], hp, rfl, by simp, rfl⟩ (by rw [upL_len]; omega) ?_ ?_
  · rintro i d - acc en - ⟨p', us, hp', rfl, hl, rfl⟩
    walk_at "k93490303"
    refine okL_atMem (by omega) (by omega) fun c hc => ?_
    walk_at "k1be157fd"
    refine ⟨p, us ++ [[c]], hp, by simp [dtx], ?_, rfl⟩
    intro l hl'
    rcases List.mem_append.mp hl' with z | z
    · exact hl l z
    · exact ⟨c, by simpa using z, hls c hc⟩
  rintro acc en hlen ⟨p, us, hp, rfl, hus, rfl⟩
  have h1 : ∀ l ∈ us, l.length = 1 := fun l z => by obtain ⟨c, rfl, _⟩ := hus l z; rfl
  have hlen : us.length = (1 + r).toNat := by rw [upL_len] at hlen; simpa using hlen
  walk_at "k93490303"
  rw [join_txs h1 (by omega)]
  have hc : Lts us.flatten := by
    intro c hc
    obtain ⟨l, h2, h3⟩ := List.mem_flatten.mp hc
    obtain ⟨c', rfl, h4⟩ := hus l h2
    rw [List.mem_singleton.mp h3]
    exact h4
  have hl : us.flatten.length = us.length := by rw [List.length_flatten, sum_ones h1]
  revert hc hl
  generalize us.flatten = l
  intro hc hl
  walk_at "k93490303"
  refine os_cut (fun en => ∃ l, en = [.o true p, .v (.int m), .v (.str (tx ls)), .v (.int many), .v (.int way), .e, .v (.str (tx l)), .e, .e, .e, .e] ∧ Lts l ∧ 1 ≤ l.length ∧ l.length ≤ 5000) ?_ ?_
  · walk_at "keb648c07"
    refine bj_mk (fun hw => ?_) (fun hw => ?_)
    · walk_at "k93490303"
      rw [mul_tx, okL_if]
      walk_at "k93490303"
      refine ⟨_, rfl, fun c hc' => ?_, ?_⟩
      · obtain ⟨a, ha, hb⟩ := List.mem_flatten.mp hc'
        rw [(List.mem_replicate.mp ha).2] at hb
        exact hc c hb
      · rw [rep_len]
        have h2 : 1 ≤ (m + 1).toNat := by omega
        have h3 : (m + 1).toNat * l.length ≤ 901 * 5 := Nat.mul_le_mul (by omega) (by omega)
        have h4 : 1 * 1 ≤ (m + 1).toNat * l.length := Nat.mul_le_mul h2 (by omega)
        omega
    · walk_at "k93490303"
      exact ⟨l, rfl, hc, by omega, by omega⟩
  clear hl hc l
  rintro en ⟨l, rfl, hc, hl0, hl1⟩
  walk_at "k1be157fd"
  refine os_cut (fun en => ∃ l, en = [.o true p, .v (.int m), .v (.str (tx ls)), .v (.int many), .v (.int way), .e, .v (.str (tx l)), .e, .e, .e, .e] ∧ Lts l ∧ 1 ≤ l.length ∧ l.length ≤ 5000) ?_ ?_
  · walk_at "keb648c07"
    refine bj_mk (fun hw => ?_) (fun hw => ?_)
    · walk_at "k93490303"
      have hln : ls ≠ [] := fun z => by rw [z] at hlp; simp at hlp
      rw [at_last hln]
      obtain ⟨c, hcl⟩ : ∃ c, ls.getLast? = some c := by
        cases e : ls.getLast? with
        | none => exact absurd (List.getLast?_eq_none_iff.mp e) hln
        | some c => exact ⟨c, rfl⟩
      have hcc : Lt c := hls c (List.mem_of_getLast? hcl)
      rw [hcl]
      walk_at "k93490303"
      refine os_while (fun z en => ∃ one other, z = (many - one.length).toNat ∧ en = [.o true p, .v (.int m), .v (.str (tx ls)), .v (.int many), .v (.int way), .e, .e, .v (.str (tx one)), .v (.str (tx other)), .e, .e] ∧ Lts one ∧ Lts other ∧ 1 ≤ other.length ∧ other.length ≤ one.length ∧ one.length ≤ 5000) 100000 _ _ (by omega) ⟨l, [c], rfl, rfl, hc, Lts.one hcc, by simp, by simpa using hl0, hl1⟩ ?_
      rintro z en ⟨one, other, rfl, rfl, h1, h2, h3, h4, h5⟩
      walk_at "k93490303"
      refine bj_mk (fun hlt => ?_) (fun hlt => ?_)
      · walk_at "k93490303"
        refine ⟨_, ?_, one ++ other, one, rfl, rfl, h1.app h2, h1, by omega, by simp, by simp only [List.length_append]; omega⟩
        simp only [List.length_append]
        omega
      · walk_at "k93490303"
        exact ⟨one, rfl, h1, by omega, h5⟩
    · walk_at "k93490303"
      exact ⟨l, rfl, hc, hl0, hl1⟩
  clear hl0 hl1 hc l
  rintro en ⟨l, rfl, hc, hl0, hl1⟩
  walk_at "k1be157fd"
  refine os_cut (fun en => ∃ p l, en = [.o true p, .v (.int m), .v (.str (tx ls)), .v (.int many), .v (.int way), .e, .v (.str (tx l)), .e, .e, .e, .e] ∧ Reel2 p ∧ Lts l ∧ 1 ≤ l.length ∧ l.length ≤ 5000) ?_ ?_
  · refine os_while (fun z en => ∃ p l, z = (many - l.length).toNat ∧ en = [.o true p, .v (.int m), .v (.str (tx ls)), .v (.int many), .v (.int way), .e, .v (.str (tx l)), .e, .e, .e, .e] ∧ Reel2 p ∧ Lts l ∧ 1 ≤ l.length ∧ l.length ≤ 5000) 100000 _ _ (by omega) ⟨p, l, rfl, rfl, hp, hc, hl0, hl1⟩ ?_
    clear hl0 hl1 hc l hp p
    rintro z en ⟨p, l, rfl, rfl, hp, hc, hl0, hl1⟩
    walk_at "k93490303"
    refine bj_mk (fun hw => ?_) (fun hw => ?_)
    · walk_at "k93490303"
      refine bj_mk (fun hlt => ?_) (fun hlt => ?_)
      · walk_at "k1be157fd"
        refine ⟨by omega, pick2_ok hp (by omega) (by omega) fun p a hp ha0 ha1 => ?_⟩
        walk_at "k1be157fd"
        refine pick2_ok hp (by omega) (by omega) fun p b hp hb0 hb1 => ?_
        walk_at "k1be157fd"
        rw [cut_mid (by omega) (by omega)]
        have hx : (List.drop a.toNat (List.take (a + 1 + b).toNat l)).length ≤ 6 := by
          rw [List.length_drop, List.length_take]
          omega
        walk_at "k93490303"
        refine okL_atMem (by omega) (by omega) fun c hcm => ?_
        have hl3 : (l ++ List.drop a.toNat (List.take (a + 1 + b).toNat l) ++ [c]).length ≤ l.length + 7 ∧ l.length < (l ++ List.drop a.toNat (List.take (a + 1 + b).toNat l) ++ [c]).length := by
          simp only [List.length_append, List.length_singleton]
          omega
        walk_at "k1be157fd"
        refine ⟨by simp only [List.length_append, List.length_singleton] at hl3 ⊢; omega, _, ?_, p, _, rfl, rfl, hp, (hc.app ((hc.take _).drop _)).app (Lts.one (hls c hcm)), by omega, by omega⟩
        omega
      · walk_at "k93490303"
        exact ⟨p, l, rfl, hp, hc, hl0, hl1⟩
    · walk_at "k93490303"
      exact ⟨p, l, rfl, hp, hc, hl0, hl1⟩
  clear hl0 hl1 hc l hp p
  rintro en ⟨p, l, rfl, hp, hc, hl0, hl1⟩
  walk_at "k1be157fd"
  refine os_while (fun z en => ∃ p l, z = (many - l.length).toNat ∧ en = [.o true p, .v (.int m), .v (.str (tx ls)), .v (.int many), .v (.int way), .e, .v (.str (tx l)), .e, .e, .e, .e] ∧ Reel2 p ∧ Lts l ∧ 1 ≤ l.length ∧ l.length ≤ 5000) 100000 _ _ (by omega) ⟨p, l, rfl, rfl, hp, hc, hl0, hl1⟩ ?_
  clear hl0 hl1 hc l hp p
  rintro z en ⟨p, l, rfl, rfl, hp, hc, hl0, hl1⟩
  have fin : l.length ≤ 16777216 ∧ k (.ret false (.str (tx (cutL l none (some many)))) [p, .int m]) := by
    rw [cut_to hm0]
    exact ⟨by omega, h p _ hp (by rw [List.length_take]; omega) (hc.take _)⟩
  walk_at "k93490303"
  refine bj_mk (fun hw => ?_) (fun hw => ?_)
  · walk_at "k93490303"
    refine bj_mk (fun hlt => ?_) (fun hlt => ?_)
    · walk_at "k93490303"
      refine okL_atMem (by omega) (by omega) fun c hcm => ?_
      walk_at "k1be157fd"
      refine ⟨by simp; omega, _, ?_, p, _, rfl, rfl, hp, hc.app (Lts.one (hls c hcm)), by simp, by simp; omega⟩
      simp only [List.length_append, List.length_singleton]
      omega
    · walk_at "k1be157fd"
      exact fin
  · walk_at "k1be157fd"
    exact fin
end PyD.S

end

section
set_option maxHeartbeats 4000000
namespace PyD.S
open PySem PySem.Spec L2 PyD.S
noncomputable def Reel (d : D) : Prop := ∃ (i : Int), d = .lst [.int i]
theorem pick_ok {p : D} {m : Int} {k : Out → Prop} (hp : Reel p) (hm : 0 < m) (hm2 : m ≤ 1000000000) (h : ∀ p' r, Reel p' → 0 ≤ r → r < m → k (.ret false (.int r) [p', .int m])) : okO (phi_lpick [p, .int m]) k := by
  obtain ⟨i, rfl⟩ := hp
  unfold phi_lpick b_lpick
  walk_at "k1be157fd"
  refine ⟨hm, ⟨hm, log_ok hm (by omega)⟩, ?_⟩
  exact h _ _ ⟨_, rfl⟩ (Int.emod_nonneg _ (by omega)) (Int.emod_lt_of_pos _ hm)
theorem reel_ok {ns : List Int} {j : Int} {k : Out → Prop} (h0 : 0 ≤ j) (h1 : j ≤ 1000) (h : ∀ p, Reel p → k (.ret true p [.scr ns, .int j])) : okO (phi_lreel [.scr ns, .int j]) k := by
  unfold phi_lreel b_lreel
  walk_at "k93490303"
  refine os_cut (fun en => ∃ i, en = [.v (.scr ns), .v (.int j), .v (.int i), .e, .e, .e]) ?_ ?_
  · walk_at "keb648c07"
    refine bj_mk (fun hl => ?_) (fun hl => ?_)
    · walk_at "k1be157fd"
      refine okL_at h0 hl fun x hx => ?_
      walk_at "k1be157fd"
      exact ⟨_, rfl⟩
    · walk_at "k1be157fd"
      exact ⟨_, rfl⟩
  · rintro en ⟨i, rfl⟩
    walk_at "kfb9d909a"
    refine bj_mk (fun hl => ?_) (fun hl => ?_)
    · walk_at "k93490303"
      exact h _ ⟨_, rfl⟩
    · walk_at "k93490303"
      generalize hst : (_ : Int) % 2147483423 = st
      have hst : 0 ≤ st ∧ st < 2147483423 := by omega
      refine os_ix (fun _ en => ∃ st f, (0 ≤ st ∧ st < 2147483423) ∧ en = [.v (.scr ns), .v (.int j), .e, .v (.int st), .v (.int f), .e]) ⟨_, _, hst, rfl⟩ ?_ ?_
      · rintro t d hd en ⟨st, f, hst, rfl⟩
        obtain ⟨rfl, hlt⟩ := upL_get hd
        walk_at "k93490303"
        exact ⟨_, _, ⟨Int.emod_nonneg (st * st + 70001 * st + 31 * (0 + (t : Int)) + 9) (by omega), Int.emod_lt_of_pos _ (by omega)⟩, rfl⟩
      · rintro en ⟨st, f, hst, rfl⟩
        walk_at "k93490303"
        exact h _ ⟨_, rfl⟩
theorem rtext_ok {p : D} {m : Int} {k : Out → Prop} (hp : Reel p) (hm : 0 ≤ m) (hm2 : m ≤ 900) (h : ∀ p' l, Reel p' → (l.length : Int) ≤ m → Lts l → k (.ret false (.str (tx l)) [p', .int m])) : okO (phi_ltext_v2 [p, .int m]) k := by
  unfold phi_ltext_v2 b_ltext_v2
  walk_at "k93490303"
  refine okL_atMem hr0 (by simpa using hr1) fun x hx => ?_
  obtain ⟨ls, rfl, hls, hln, hlm⟩ : ∃ ls, x = .str (tx ls) ∧ Lts ls ∧ ls ≠ [] ∧ ls.length ≤ 26 := by
    simp only [List.mem_cons, List.not_mem_nil, or_false] at hx
    rcases hx with rfl | rfl | rfl | rfl <;> exact ⟨_, rfl, by decide, by simp, by decide⟩
  clear hx
  have hlp : 0 < ls.length := List.length_pos_iff.mpr hln
  have hls : Lts ls ∧ 0 < ls.length ∧ ls.length ≤ 26 := ⟨hls, hlp, hlm⟩
  obtain ⟨hls, hlp, hlm⟩ := hls
  walk_at "k1be157fd"
  refine pick_ok hp (by omega) (by omega) fun p many hp hm0 hm1 => ?_
  walk_at "k1be157fd"
  refine pick_ok hp (by omega) (by omega) fun p way hp hw0 hw1 => ?_
  walk_at "k93490303"
  refine ok_lcY (fun acc en => ∃ p' us, Reel p' ∧ acc = us.map dtx ∧ (∀ l ∈ us, ∃ c, l = [c] ∧ Lt c) ∧ en = [.o true p', .v (.int m), .v (.str (tx ls)), .v (.int many), .v (.int way), .e, .e, .e, .e, .e, .e]) ⟨p, [], hp, rfl, by simp, rfl⟩ (by rw [upL_len]; omega) ?_ ?_
  · rintro i d - acc en - ⟨p', us, hp', rfl, hl, rfl⟩
    walk_at "k93490303"
    refine okL_atMem (by omega) (by omega) fun c hc => ?_
    walk_at "k1be157fd"
    refine ⟨p, us ++ [[c]], hp, by simp [dtx], ?_, rfl⟩
    intro l hl'
    rcases List.mem_append.mp hl' with z | z
    · exact hl l z
    · exact ⟨c, by simpa using z, hls c hc⟩
  rintro acc en hlen ⟨p, us, hp, rfl, hus, rfl⟩
  have h1 : ∀ l ∈ us, l.length = 1 := fun l z => by obtain ⟨c, rfl, _⟩ := hus l z; rfl
  have hlen : us.length = (1 + r).toNat := by rw [upL_len] at hlen; simpa using hlen
  walk_at "k93490303"
  rw [join_txs h1 (by omega)]
  have hc : Lts us.flatten := by
    intro c hc
    obtain ⟨l, h2, h3⟩ := List.mem_flatten.mp hc
    obtain ⟨c', rfl, h4⟩ := hus l h2
    rw [List.mem_singleton.mp h3]
    exact h4
  have hl : us.flatten.length = us.length := by rw [List.length_flatten, sum_ones h1]
  revert hc hl
  generalize us.flatten = l
  intro hc hl
  walk_at "k93490303"
  refine os_cut (fun en => ∃ l, en = [.o true p, .v (.int m), .v (.str (tx ls)), .v (.int many), .v (.int way), .e, .v (.str (tx l)), .e, .e, .e, .e] ∧ Lts l ∧ 1 ≤ l.length ∧ l.length ≤ 5000) ?_ ?_
  · walk_at "keb648c07"
    refine bj_mk (fun hw => ?_) (fun hw => ?_)
    · walk_at "k93490303"
      rw [mul_tx, okL_if]
      walk_at "k93490303"
      refine ⟨_, rfl, fun c hc' => ?_, ?_⟩
      · obtain ⟨a, ha, hb⟩ := List.mem_flatten.mp hc'
        rw [(List.mem_replicate.mp ha).2] at hb
        exact hc c hb
      · rw [rep_len]
        have h2 : 1 ≤ (m + 1).toNat := by omega
        have h3 : (m + 1).toNat * l.length ≤ 901 * 5 := Nat.mul_le_mul (by omega) (by omega)
        have h4 : 1 * 1 ≤ (m + 1).toNat * l.length := Nat.mul_le_mul h2 (by omega)
        omega
    · walk_at "k93490303"
      exact ⟨l, rfl, hc, by omega, by omega⟩
  clear hl hc l
  rintro en ⟨l, rfl, hc, hl0, hl1⟩
  walk_at "k1be157fd"
  refine os_cut (fun en => ∃ l, en = [.o true p, .v (.int m), .v (.str (tx ls)), .v (.int many), .v (.int way), .e, .v (.str (tx l)), .e, .e, .e, .e] ∧ Lts l ∧ 1 ≤ l.length ∧ l.length ≤ 5000) ?_ ?_
  · walk_at "keb648c07"
    refine bj_mk (fun hw => ?_) (fun hw => ?_)
    · walk_at "k93490303"
      have hln : ls ≠ [] := fun z => by rw [z] at hlp; simp at hlp
      rw [at_last hln]
      obtain ⟨c, hcl⟩ : ∃ c, ls.getLast? = some c := by
        cases e : ls.getLast? with
        | none => exact absurd (List.getLast?_eq_none_iff.mp e) hln
        | some c => exact ⟨c, rfl⟩
      have hcc : Lt c := hls c (List.mem_of_getLast? hcl)
      rw [hcl]
      walk_at "k93490303"
      refine os_while (fun z en => ∃ one other, z = (many - one.length).toNat ∧ en = [.o true p, .v (.int m), .v (.str (tx ls)), .v (.int many), .v (.int way), .e, .e, .v (.str (tx one)), .v (.str (tx other)), .e, .e] ∧ Lts one ∧ Lts other ∧ 1 ≤ other.length ∧ other.length ≤ one.length ∧ one.length ≤ 5000) 100000 _ _ (by omega) ⟨l, [c], rfl, rfl, hc, Lts.one hcc, by simp, by simpa using hl0, hl1⟩ ?_
      rintro z en ⟨one, other, rfl, rfl, h1, h2, h3, h4, h5⟩
      walk_at "k93490303"
      refine bj_mk (fun hlt => ?_) (fun hlt => ?_)
      · walk_at "k93490303"
        refine ⟨_, ?_, one ++ other, one, rfl, rfl, h1.app h2, h1, by omega, by simp, by simp only [List.length_append]; omega⟩
        simp only [List.length_append]
        omega
      · walk_at "k93490303"
        exact ⟨one, rfl, h1, by omega, h5⟩
    · walk_at "k93490303"
      exact ⟨l, rfl, hc, hl0, hl1⟩
  clear hl0 hl1 hc l
  rintro en ⟨l, rfl, hc, hl0, hl1⟩
  walk_at "k1be157fd"
  refine os_cut (fun en => ∃ p l, en = [.o true p, .v (.int m), .v (.str (tx ls)), .v (.int many), .v (.int way), .e, .v (.str (tx l)), .e, .e, .e, .e] ∧ Reel p ∧ Lts l ∧ 1 ≤ l.length ∧ l.length ≤ 5000) ?_ ?_
  · refine os_while (fun z en => ∃ p l, z = (many - l.length).toNat ∧ en = [.o true p, .v (.int m), .v (.str (tx ls)), .v (.int many), .v (.int way), .e, .v (.str (tx l)), .e, .e, .e, .e] ∧ Reel p ∧ Lts l ∧ 1 ≤ l.length ∧ l.length ≤ 5000) 100000 _ _ (by omega) ⟨p, l, rfl, rfl, hp, hc, hl0, hl1⟩ ?_
    clear hl0 hl1 hc l hp p
    rintro z en ⟨p, l, rfl, rfl, hp, hc, hl0, hl1⟩
    walk_at "k93490303"
    refine bj_mk (fun hw => ?_) (fun hw => ?_)
    · walk_at "k93490303"
      refine bj_mk (fun hlt => ?_) (fun hlt => ?_)
      · walk_at "k1be157fd"
        refine ⟨by omega, pick_ok hp (by omega) (by omega) fun p a hp ha0 ha1 => ?_⟩
        walk_at "k1be157fd"
        refine pick_ok hp (by omega) (by omega) fun p b hp hb0 hb1 => ?_
        walk_at "k1be157fd"
        rw [cut_mid (by omega) (by omega)]
        have hx : (List.drop a.toNat (List.take (a + 1 + b).toNat l)).length ≤ 6 := by
          rw [List.length_drop, List.length_take]
          omega
        walk_at "k93490303"
        refine okL_atMem (by omega) (by omega) fun c hcm => ?_
        have hl3 : (l ++ List.drop a.toNat (List.take (a + 1 + b).toNat l) ++ [c]).length ≤ l.length + 7 ∧ l.length < (l ++ List.drop a.toNat (List.take (a + 1 + b).toNat l) ++ [c]).length := by
          simp only [List.length_append, List.length_singleton]
          omega
        walk_at "k1be157fd"
        refine ⟨by simp only [List.length_append, List.length_singleton] at hl3 ⊢; omega, _, ?_, p, _, rfl, rfl, hp, (hc.app ((hc.take _).drop _)).app (Lts.one (hls c hcm)), by omega, by omega⟩
        omega
      · walk_at "k93490303"
        exact ⟨p, l, rfl, hp, hc, hl0, hl1⟩
    · walk_at "k93490303"
      exact ⟨p, l, rfl, hp, hc, hl0, hl1⟩
  clear hl0 hl1 hc l hp p
  rintro en ⟨p, l, rfl, hp, hc, hl0, hl1⟩
  walk_at "k1be157fd"
  refine os_while (fun z en => ∃ p l, z = (many - l.length).toNat ∧ en = [.o true p, .v (.int m), .v (.str (tx ls)), .v (.int many), .v (.int way), .e, .v (.str (tx l)), .e, .e, .e, .e] ∧ Reel p ∧ Lts l ∧ 1 ≤ l.length ∧ l.length ≤ 5000) 100000 _ _ (by omega) ⟨p, l, rfl, rfl, hp, hc, hl0, hl1⟩ ?_
  clear hl0 hl1 hc l hp p
  rintro z en ⟨p, l, rfl, rfl, hp, hc, hl0, hl1⟩
  have fin : l.length ≤ 16777216 ∧ k (.ret false (.str (tx (cutL l none (some many)))) [p, .int m]) := by
    rw [cut_to hm0]
    exact ⟨by omega, h p _ hp (by rw [List.length_take]; omega) (hc.take _)⟩
  walk_at "k93490303"
  refine bj_mk (fun hw => ?_) (fun hw => ?_)
  · walk_at "k93490303"
    refine bj_mk (fun hlt => ?_) (fun hlt => ?_)
    · walk_at "k93490303"
      refine okL_atMem (by omega) (by omega) fun c hcm => ?_
      walk_at "k1be157fd"
      refine ⟨by simp; omega, _, ?_, p, _, rfl, rfl, hp, hc.app (Lts.one (hls c hcm)), by simp, by simp; omega⟩
      simp only [List.length_append, List.length_singleton]
      omega
    · walk_at "k1be157fd"
      exact fin
  · walk_at "k1be157fd"
    exact fin
end PyD.S

end

section
set_option maxHeartbeats 8000000
namespace PyD.S
open PySem PySem.Spec L2 PyD.S
noncomputable def Is (ls l : List Nat) : Prop := ∀ c ∈ l, c ∈ ls
theorem Is.app {ls a b : List Nat} (h : Is ls a) (h' : Is ls b) : Is ls (a ++ b) := fun c hc => (List.mem_append.mp hc).elim (h c) (h' c)
theorem Is.take {ls a : List Nat} (n : Nat) (h : Is ls a) : Is ls (a.take n) := fun c hc => h c (List.mem_of_mem_take hc)
theorem Is.drop {ls a : List Nat} (n : Nat) (h : Is ls a) : Is ls (a.drop n) := fun c hc => h c (List.mem_of_mem_drop hc)
theorem Is.one {ls : List Nat} {c : Nat} (h : c ∈ ls) : Is ls [c] := fun x hx => by rw [List.mem_singleton.mp hx]; exact h
theorem Is.nil {ls : List Nat} : Is ls [] := fun x hx => by cases hx
theorem Is.lts {ls l : List Nat} (h : Is ls l) (hl : Lts ls) : Lts l := fun c hc => hl c (h c hc)
end PyD.S

end

section
set_option maxHeartbeats 4000000
namespace PyD.S
open PySem PySem.Spec L2 PyD.S
noncomputable def onl (l : List Nat) (e c : Nat) : Bool := decide (c ∈ l) && (List.range l.length).all fun i => !decide (l[i]? = some c) || decide (i % 2 = e)
noncomputable def pinE (ls l : List Nat) (e : Nat) : List Nat := ((List.range l.length).filter fun i => !decide (i % 2 = e)) ++ (ls.filter (onl l e)).map fun c => l.idxOf c
theorem cut_one {l : List Nat} {a c : Nat} (h : l[a]? = some c) : cutT l a (a + 1) = [c] := by
  unfold cutT
  rw [List.take_succ, h, Option.toList_some]
  have ha := (List.getElem?_eq_some_iff.mp h).1
  rw [List.drop_append_of_le_length (by rw [List.length_take]; omega), List.drop_eq_nil_of_le (by rw [List.length_take]; omega), List.nil_append]
theorem pinE_hold {ls l : List Nat} (hs : Is ls l) (e : Nat) (he : e < 2) : Hd l (pinE ls l e) := fun m hm hml x ⟨⟨a, ha, ex⟩, hno⟩ => by
  have ha : a + m ≤ l.length := by unfold manyAt at ha; omega
  have inP : ∀ i, i < l.length → i % 2 ≠ e → i ∈ pinE ls l e := fun i hi h => List.mem_append_left _ (List.mem_filter.mpr ⟨List.mem_range.mpr hi, by simpa using h⟩)
  by_cases h2 : 2 ≤ m
  · refine hno a (by unfold manyAt; omega) ex ?_
    by_cases h : a % 2 = e
    · exact ⟨a + 1, inP _ (by omega) (by omega), by omega, by omega⟩
    · exact ⟨a, inP _ (by omega) h, by omega, by omega⟩
  · have hm1 : m = 1 := by omega
    subst hm1
    have hal : a < l.length := by omega
    obtain ⟨c, hc⟩ : ∃ c, l[a]? = some c := ⟨_, List.getElem?_eq_getElem hal⟩
    have hcl : c ∈ l := List.mem_of_getElem? hc
    have ex2 := ex.trans (cut_one hc)
    have fin : ∀ i, l[i]? = some c → i ∈ pinE ls l e → False := fun i hi hp => by
      have hil := (List.getElem?_eq_some_iff.mp hi).1
      exact hno i (by unfold manyAt; omega) (ex2.trans (cut_one hi).symm) ⟨i, hp, by omega, by omega⟩
    cases ho : onl l e c with
    | true =>
      have hix := List.idxOf_lt_length_iff.mpr hcl
      have hge : l[l.idxOf c]? = some c := by rw [List.getElem?_eq_getElem hix, List.getElem_idxOf hix]
      exact fin _ hge (List.mem_append_right _ (List.mem_map.mpr ⟨c, List.mem_filter.mpr ⟨hs c hcl, ho⟩, rfl⟩))
    | false =>
      unfold onl at ho
      rw [decide_eq_true hcl, Bool.true_and, List.all_eq_false] at ho
      obtain ⟨i, hi, hn⟩ := ho
      have hi := List.mem_range.mp hi
      simp only [Bool.or_eq_true, Bool.not_eq_true', decide_eq_false_iff_not, decide_eq_true_eq, not_or, Classical.not_not] at hn
      exact fin i hn.1 (inP i hi hn.2)
theorem onl_two {l : List Nat} {c : Nat} (h0 : onl l 0 c = true) (h1 : onl l 1 c = true) : False := by
  unfold onl at h0 h1
  rw [Bool.and_eq_true, decide_eq_true_eq, List.all_eq_true] at h0 h1
  obtain ⟨i, hi⟩ := List.mem_iff_getElem?.mp h0.1
  have hil := (List.getElem?_eq_some_iff.mp hi).1
  have a := h0.2 i (List.mem_range.mpr hil)
  have b := h1.2 i (List.mem_range.mpr hil)
  simp only [hi, decide_true, Bool.not_true, Bool.false_or, decide_eq_true_eq] at a b
  omega
theorem two_filters {p q : Nat → Bool} (h : ∀ c, p c = true → q c = true → False) : ∀ ls : List Nat, (ls.filter p).length + (ls.filter q).length ≤ ls.length
  | [] => Nat.le_refl _
  | c :: ls => by
    have := two_filters h ls
    rw [List.filter_cons, List.filter_cons, List.length_cons]
    cases hp : p c with
    | true =>
      cases hq : q c with
      | true => exact (h c hp hq).elim
      | false => simp; omega
    | false =>
      cases hq : q c with
      | true => simp; omega
      | false => simp; omega
end PyD.S

end

namespace PyD.S
open PySem PySem.Spec L2
end PyD.S

namespace PyD.S
open PySem PySem.Spec L2
end PyD.S

namespace PyD.S
open PySem PySem.Spec L2
end PyD.S

section
set_option maxHeartbeats 8000000
namespace PyD.S
open PySem PySem.Spec L2 PyD.S
theorem rising_uniq {a b : List Nat} (h : a.Pairwise (· < ·)) (h' : b.Pairwise (· < ·)) (hm : ∀ x, x ∈ a ↔ x ∈ b) : a = b :=
  List.Perm.eq_of_pairwise (le := fun x y => x < y) (fun x y _ _ p q => by omega) h h' ((List.perm_ext_iff_of_nodup (h.imp fun {x y} z => by omega) (h'.imp fun {x y} z => by omega)).mpr hm)
theorem Tch.uniq {l x : T} {a b : List Nat} (h : Tch l x a) (h' : Tch l x b) : a = b := rising_uniq h.1 h'.1 fun q => by rw [h.2, h'.2]
theorem MP.free {l x : T} {ps ts : List Nat} (h : MP l ps x ts) : ∀ q ∈ ts, q ∉ ps := fun q hq hp => by
  obtain ⟨m, h1, h2, h3, ⟨_, h4⟩, _⟩ := h
  have hxl := (msd_len h2 h3).1
  obtain ⟨a, h5, h6, h7, h8⟩ := (h4 q).mp hq
  rw [hxl] at h5 h6 h8
  exact h3.2 a (by unfold manyAt; omega) h6 ⟨q, hp, h7, h8⟩
theorem MP.some {l x : T} {ps ts : List Nat} (h : MP l ps x ts) : ts ≠ [] ∧ 1 ≤ x.length ∧ x.length ≤ l.length ∧ Tch l x ts ∧ ts.length ≤ l.length := by
  obtain ⟨m, h1, h2, h3, ht, h5⟩ := h
  obtain ⟨hxl, a, ha, e⟩ := msd_len h2 h3
  refine ⟨fun z => ?_, by omega, by omega, ht, h5⟩
  have := (ht.2 a).mpr ⟨a, by omega, by rw [hxl]; exact e, Nat.le_refl _, by omega⟩
  rw [z] at this
  cases this
theorem MP.okT {l x : T} {ps ts : List Nat} (hc : okT l) (h : MP l ps x ts) : okT x := by
  obtain ⟨m, h1, h2, h3, ht, h5⟩ := h
  obtain ⟨hxl, a, ha, e⟩ := msd_len h2 h3
  rw [e]
  exact cutT_okT hc
theorem any_rep (n : Nat) : anyD [.lst (List.replicate n (D.bl false))] = some (false, .bl false) := by
  have e : List.replicate n (D.bl false) = (List.replicate n false).map D.bl := by simp
  rw [e]
  show (asBls ((List.replicate n false).map D.bl)).map _ = _
  rw [asBls_map]
  simp
theorem all_rep (n : Nat) (b : Bool) : allD [.lst (List.replicate n (D.bl b))] = some (false, .bl (b || n == 0)) := by
  have e : List.replicate n (D.bl b) = (List.replicate n b).map D.bl := by simp
  rw [e]
  show (asBls ((List.replicate n b).map D.bl)).map _ = _
  rw [asBls_map]
  cases n <;> cases b <;> simp
end PyD.S

end

section
set_option maxHeartbeats 8000000
namespace PyD.S
open PySem PySem.Spec L2 PyD.S
noncomputable def FP (l : T) (j : Nat) (rs : List Nat) : Prop := rs.length = j ∧ rs.Pairwise (· < ·) ∧ (∀ q ∈ rs, q < l.length) ∧ Hd l rs ∧ (∀ qs : List Nat, qs.length < j → ¬ Hd l qs)
theorem leastO_ok {l : T} {k : Out → Prop} (hl : l.length ≤ 12) (hc : okT l) (h0 : ∀ j rs, j = 0 → FP l j rs → k (.ret false (.tup [.int (j : Nat), .tup (rs.map dN), .non]) [.str (tx l)]))
    (h : ∀ j rs t, 1 ≤ j → FP l j rs → TO l (j - 1) [] t → k (.ret true (.ow (.tup [.int (j : Nat), .tup (rs.map dN), .ow t])) [.str (tx l)])) : okO (phi_least_v3 [.str (tx l)]) k := by
  unfold phi_least_v3 b_least_v3
  have e0 : D.tup [] = .tup (([] : List Nat).map dN) := rfl
  have z0 : D.int 0 = .int ((0 : Nat) : Int) := rfl
  have hpw : ∀ j, j ≤ 12 → ∀ {k : Out → Prop}, (∀ r, WI l [] j r → k (.ret false (dR r) [.str (tx l), .tup [], .int (j : Nat)])) → okO (phi_pins_within [.str (tx l), .tup [], .int (j : Nat)]) k := fun j hj k hk => within_ok (by omega) hc 14 j [] (by omega) (by simp; omega) hk
  have htf : ∀ j, j ≤ 12 → No l [] j → ∀ {k : Out → Prop}, (∀ d, TO l j [] d → k (.ret true d [.str (tx l), .tup [], .int (j : Nat)])) → okO (phi_tree_for_v2 [.str (tx l), .tup [], .int (j : Nat)]) k := fun j hj hno k hk => treeforO_ok (by omega) hc 14 j [] (by omega) (by simp; omega) hno hk
  walk_at "k9de11942"
  refine hpw 0 (by omega) fun r0 hr0 => ?_
  walk_at "k9de11942"
  refine os_while (fun z en => ∃ (j : Nat) (r : Option (List Nat)), z = 20 - j ∧ j ≤ 12 ∧ en = [.v (.str (tx l)), .v (.int (j : Nat)), .v (dR r)] ∧ WI l [] j r ∧ ∀ qs : List Nat, qs.length < j → ¬ Hd l qs) 100000 _ _ (by omega) ⟨0, r0, rfl, by omega, rfl, hr0, fun qs z => by omega⟩ ?_
  rintro z en ⟨j, r, rfl, hj, rfl, hr, hlo⟩
  cases r with
  | none =>
    have hno : No l [] j := hr
    have hjl : j < l.length := Classical.byContradiction fun z => hno (List.range l.length) (by rw [List.length_range]; omega) (Hd.all fun q hq => by simp; exact hq)
    rw [dR_n]
    walk_at "k9de11942"
    rw [show (j : Int) + 1 = ((j + 1 : Nat) : Int) by omega]
    refine hpw (j + 1) (by omega) fun r1 hr1 => ?_
    walk_at "k9de11942"
    refine ⟨20 - (j + 1), by omega, j + 1, r1, rfl, by omega, rfl, hr1, fun qs hq => ?_⟩
    have := hno qs (by omega)
    rw [List.nil_append] at this
    exact this
  | some rs =>
    obtain ⟨qs, e1, h2, h3, h4⟩ := hr
    rw [List.nil_append] at e1
    subst e1
    have hlen : rs.length = j := Classical.byContradiction fun z => hlo rs (by omega) h4
    have hnd : rs.Nodup := by
      obtain ⟨us, u1, u2, u3, u4⟩ := dedup rs
      exact u4 (Classical.byContradiction fun z => hlo us (by omega) (h4.sub fun p hp => (u2 p).mpr hp))
    rw [dR_s]
    walk_at "k9de11942"
    refine bj_mk (fun h5 => ?_) (fun h5 => ?_)
    · have hj0 : j = 0 := by omega
      subst hj0
      have hrs : rs = [] := List.eq_nil_of_length_eq_zero hlen
      subst hrs
      walk_at "k9de11942"
      exact h0 0 [] rfl ⟨rfl, by simp, by simp, h4, fun qs z => by omega⟩
    · walk_at "k9de11942"
      refine okL_of sort_tnats ?_
      walk_at "k9de11942"
      rw [show (j : Int) - 1 = ((j - 1 : Nat) : Int) by omega]
      refine htf (j - 1) (by omega) (fun qs hq => by rw [List.nil_append]; exact hlo qs (by omega)) fun d hd => ?_
      walk_at "k9de11942"
      refine okL_of rfl ?_
      walk_at "k9de11942"
      exact h j (rs.mergeSort leN) d (by omega) ⟨by rw [List.length_mergeSort]; exact hlen, sortN_rising hnd, fun q hq => h3 q (List.mem_mergeSort.mp hq), h4.sub fun p hp => List.mem_mergeSort.mpr hp, hlo⟩ hd
theorem stripL_map : ∀ ds : List D, stripL ds = ds.map strip
  | [] => by unfold stripL; rfl
  | d :: ds => by unfold stripL; rw [stripL_map ds]; rfl
theorem stripL_nats (rs : List Nat) : stripL (rs.map dN) = rs.map dN := by
  rw [stripL_map, List.map_map]
  refine List.map_congr_left fun q _ => ?_
  show strip (.int _) = _
  unfold strip
  rfl
theorem TO.tr {l : T} : ∀ {j : Nat} {ps : List Nat} {d : D}, TO l j ps d → TR l j ps (strip d)
  | 0, ps, d, h => by
    obtain ⟨x, ts, hm, rfl⟩ := h
    exact ⟨x, ts, hm, by simp only [strip, stripL]⟩
  | j + 1, ps, d, h => by
    obtain ⟨x, ts, prs, hm, hp, rfl, ht⟩ := h
    refine ⟨x, ts, prs.map fun p => (p.1, strip p.2), hm, by rw [List.map_map]; exact hp, ?_, fun p hp => ?_⟩
    · simp only [strip, stripL]
      rw [stripL_map, List.map_map, List.map_map]
      refine congrArg (fun z => D.tup [.str (tx x), .lst z]) (List.map_congr_left fun p _ => ?_)
      simp only [Function.comp, strip, stripL, dN]
    · obtain ⟨p', hp', rfl⟩ := List.mem_map.mp hp
      exact (ht p' hp').tr
theorem okCL_all : ∀ ds : List D, okCL ds = ds.all okCV
  | [] => by unfold okCL; rfl
  | d :: ds => by unfold okCL; rw [okCL_all ds]; rfl
theorem flatL_nats : ∀ rs : List Nat, flatL (rs.map dN) = true
  | [] => by unfold flatL; rfl
  | r :: rs => by
    rw [List.map_cons]
    unfold flatL
    rw [flatL_nats rs]
    rfl
theorem TO.ok {l : T} (hl : l.length ≤ 12) : ∀ {j : Nat} {ps : List Nat} {d : D}, TO l j ps d → okC d = true
  | 0, ps, d, h => by
    obtain ⟨x, ts, hm, rfl⟩ := h
    simp [okC, okCL, okCV, flatD, flatL]
  | j + 1, ps, d, h => by
    obtain ⟨x, ts, prs, hm, hp, rfl, ht⟩ := h
    have hlen : prs.length = ts.length := by rw [← hp, List.length_map]
    have := hm.some.2.2.2.2
    simp only [okC, okCL, okCV, flatD, Bool.true_and, Bool.and_true, Bool.and_eq_true, decide_eq_true_eq, List.length_map]
    refine ⟨by omega, ?_⟩
    rw [okCL_all, List.all_eq_true]
    rintro d hd
    obtain ⟨p, hp, rfl⟩ := List.mem_map.mp hd
    simp only [okC, okCL, okCV, flatD, dN, Bool.true_and, Bool.and_true]
    exact (ht p hp).ok hl
noncomputable def TB : Nat → Nat → Nat
  | 0, _ => 1
  | j + 1, m => 1 + m * TB j (m - 1)
theorem TB_le : ∀ j, j < 8 → ∀ m, m < 13 → TB j m ≤ 5000000 := by decide +kernel
theorem nLsL_le {c : Nat} : ∀ {ds : List D}, (∀ d ∈ ds, nLsV d ≤ c) → nLsL ds ≤ ds.length * c
  | [], _ => by unfold nLsL; simp
  | d :: ds, h => by
    unfold nLsL
    have h1 := h d (by simp)
    have h2 := nLsL_le (ds := ds) fun x hx => h x (by simp [hx])
    rw [List.length_cons, Nat.succ_mul]
    omega
theorem TO.n {l : T} : ∀ {j : Nat} {ps : List Nat} {d : D}, ps.Nodup → (∀ p ∈ ps, p < l.length) → TO l j ps d → nLs d ≤ TB j (l.length - ps.length)
  | 0, ps, d, hnd, hlt, h => by
    obtain ⟨x, ts, hm, rfl⟩ := h
    simp [nLs, nLsL, nLsV, TB]
  | j + 1, ps, d, hnd, hlt, h => by
    obtain ⟨x, ts, prs, hm, hp, rfl, ht⟩ := h
    have hfree := hm.free
    obtain ⟨_, _, _, ⟨hrise, htch⟩, _⟩ := hm.some
    have htn : ts.Nodup := hrise.imp fun h => by omega
    have htl : ∀ q ∈ ts, q < l.length := fun q hq => by
      obtain ⟨a, h1, _, h3, h4⟩ := (htch q).mp hq
      omega
    have hbig : (ps ++ ts).length ≤ l.length := nodup_lt (List.nodup_append.mpr ⟨hnd, htn, fun a ha b hb e => hfree b hb (by rw [← e]; exact ha)⟩) fun q hq => (List.mem_append.mp hq).elim (hlt q) (htl q)
    rw [List.length_append] at hbig
    have hlen : prs.length = ts.length := by rw [← hp, List.length_map]
    simp only [nLs, nLsL, nLsV, Nat.zero_add, Nat.add_zero]
    unfold TB
    refine Nat.add_le_add_left (Nat.le_trans (nLsL_le (c := TB j (l.length - ps.length - 1)) fun d hd => ?_) ?_) 1
    · obtain ⟨p, hpm, rfl⟩ := List.mem_map.mp hd
      have hpt : p.1 ∈ ts := by rw [← hp]; exact List.mem_map.mpr ⟨p, hpm, rfl⟩
      simp only [nLs, nLsL, nLsV, dN, Nat.zero_add, Nat.add_zero]
      have := (ht p hpm).n (by rw [List.nodup_append]; exact ⟨hnd, by simp, fun a ha b hb e => hfree p.1 hpt (by rw [List.mem_singleton] at hb; rw [← hb, ← e]; exact ha)⟩) fun q hq => (List.mem_append.mp hq).elim (hlt q) fun z => by rw [List.mem_singleton.mp z]; exact htl _ hpt
      rw [List.length_append, List.length_singleton] at this
      rw [Nat.sub_sub]
      exact this
    · rw [List.length_map]
      exact Nat.mul_le_mul_right _ (by omega)
theorem par_len12 : ∀ n, n < 13 → ∀ e, e < 2 → ((List.range n).filter fun i => !decide (i % 2 = e)).length ≤ 6 := by decide
theorem FP.le {ls l : List Nat} {j : Nat} {rs : List Nat} (hl : l.length ≤ 12) (h4 : ls.length ≤ 4) (hs : Is ls l) (h : FP l j rs) : j ≤ 8 := by
  have h1 := two_filters (p := onl l 0) (q := onl l 1) (fun c a b => onl_two a b) ls
  have h2 := par_len12 l.length (by omega)
  have e : ∀ e, (pinE ls l e).length = ((List.range l.length).filter fun i => !decide (i % 2 = e)).length + (ls.filter (onl l e)).length := fun e => by
    unfold pinE
    rw [List.length_append, List.length_map]
  refine Classical.byContradiction fun z => ?_
  by_cases h5 : (ls.filter (onl l 0)).length ≤ 2
  · exact h.2.2.2.2 (pinE ls l 0) (by rw [e]; have := h2 0 (by omega); omega) (pinE_hold hs 0 (by omega))
  · exact h.2.2.2.2 (pinE ls l 1) (by rw [e]; have := h2 1 (by omega); omega) (pinE_hold hs 1 (by omega))
end PyD.S

end

section
set_option maxHeartbeats 8000000
namespace PyD.S
open PySem PySem.Spec L2 PyD.S
noncomputable def LT : Nat → D → List Addr → Prop
  | 0, t, ls => ∃ (x : T) (a : Addr), okT x ∧ t = .tup [.str (tx x), .adr a (.lst [])] ∧ ls = [a]
  | j + 1, t, ls => ∃ (x : T) (a : Addr) (bs : List (Nat × D × List Addr)), okT x ∧ t = .tup [.str (tx x), .adr a (.lst (bs.map fun b => .tup [dN b.1, b.2.1]))] ∧ ls = a :: bs.flatMap (fun b => b.2.2) ∧ bs.length ≤ 900 ∧ ∀ b ∈ bs, LT j b.2.1 b.2.2
theorem lab_brs : ∀ {prs : List (Nat × D)} {dls : List D} {ls : List Addr}, LabL (prs.map fun p => .ow (.ow (.tup [dN p.1, .ow p.2]))) dls ls →
    ∃ bs : List (Nat × D × List Addr), dls = bs.map (fun b => .tup [dN b.1, b.2.1]) ∧ ls = bs.flatMap (fun b => b.2.2) ∧ bs.length = prs.length ∧ ∀ b ∈ bs, ∃ p ∈ prs, LabC p.2 b.2.1 b.2.2
  | [], dls, ls, h => by
    rw [List.map_nil] at h
    unfold LabL at h
    exact ⟨[], h.1, h.2, rfl, fun b hb => by cases hb⟩
  | p :: prs, dls, ls, h => by
    rw [List.map_cons] at h
    unfold LabL at h
    obtain ⟨dl, r, l1, l2, rfl, h1, h2, rfl⟩ := h
    obtain ⟨bs, rfl, rfl, h3, h4⟩ := lab_brs h2
    simp only [LabV, LabC, LabL, dN] at h1
    obtain ⟨ds, rfl, dl2, r2, k1, k2, rfl, ⟨rfl, rfl⟩, ⟨dl3, r3, k3, k4, rfl, h5, ⟨rfl, rfl⟩, rfl⟩, rfl⟩ := h1
    refine ⟨(p.1, dl3, k3) :: bs, rfl, by simp, by simp [h3], fun b hb => ?_⟩
    rcases List.mem_cons.mp hb with rfl | hb
    · exact ⟨p, by simp, h5⟩
    · obtain ⟨q, hq, hl⟩ := h4 b hb
      exact ⟨q, by simp [hq], hl⟩
theorem TO.lab {l : T} (hl : l.length ≤ 12) (hc : okT l) : ∀ {j : Nat} {ps : List Nat} {d dl : D} {ls : List Addr}, TO l j ps d → LabC d dl ls → LT j dl ls
  | 0, ps, d, dl, ls, h, hb => by
    obtain ⟨x, ts, hm, rfl⟩ := h
    simp only [LabC, LabL, LabV] at hb
    obtain ⟨ds, rfl, dl2, r2, k1, k2, rfl, ⟨rfl, rfl⟩, ⟨dl3, r3, k3, k4, rfl, ⟨a, rfl, rfl⟩, ⟨rfl, rfl⟩, rfl⟩, rfl⟩ := hb
    exact ⟨x, a, hm.okT hc, rfl, rfl⟩
  | j + 1, ps, d, dl, ls, h, hb => by
    obtain ⟨x, ts, prs, hm, hp, rfl, ht⟩ := h
    simp only [LabC, LabL, LabV] at hb
    obtain ⟨ds, rfl, dl2, r2, k1, k2, rfl, ⟨rfl, rfl⟩, ⟨dl3, r3, k3, k4, rfl, ⟨a, dls, l1, rfl, h5, rfl⟩, ⟨rfl, rfl⟩, rfl⟩, rfl⟩ := hb
    obtain ⟨bs, rfl, rfl, h3, h4⟩ := lab_brs h5
    have hlen : prs.length = ts.length := by rw [← hp, List.length_map]
    have := hm.some.2.2.2.2
    refine ⟨x, a, bs, hm.okT hc, rfl, by simp, by omega, fun b hb => ?_⟩
    obtain ⟨p, hp, hq⟩ := h4 b hb
    exact (ht p hp).lab hl hc hq
theorem flat_take {bs : List (Nat × D × List Addr)} {i : Nat} {b : Nat × D × List Addr} (h : bs[i]? = some b) : (bs.take (i + 1)).flatMap (fun b => b.2.2) = (bs.take i).flatMap (fun b => b.2.2) ++ b.2.2 := by
  rw [List.take_succ, h, List.flatMap_append]
  simp
theorem flat_le {bs : List (Nat × D × List Addr)} {i : Nat} {b : Nat × D × List Addr} (h : bs[i]? = some b) : ((bs.take i).flatMap (fun b => b.2.2)).length + b.2.2.length ≤ (bs.flatMap (fun b => b.2.2)).length := by
  have e := congrArg List.length (flat_take h)
  rw [List.length_append] at e
  have : bs.flatMap (fun b => b.2.2) = (bs.take (i + 1)).flatMap (fun b => b.2.2) ++ (bs.drop (i + 1)).flatMap (fun b => b.2.2) := by rw [← List.flatMap_append, List.take_append_drop]
  have := congrArg List.length this
  rw [List.length_append] at this
  omega
noncomputable def dA (c : Addr × D) : D := .adr c.1 c.2
theorem llab_ok : ∀ (n j : Nat) {t : D} {ls : List Addr} {k : Out → Prop}, j < n → LT j t ls → ls.length ≤ 16000000 → (∀ cs : List (Addr × D), cs.map Prod.fst = ls → k (.ret true (.lst (cs.map dA)) [t])) → okO (phiN_llists n [t]) k
  | 0, j, _, _, _, hj, _, _, _ => by omega
  | n + 1, 0, t, ls, k, hj, ht, hb, h => by
    obtain ⟨x, a, hx, rfl, rfl⟩ := ht
    unfold phiN_llists b_llists
    walk_at "k9de11942"
    refine okL_of rfl ?_
    walk_at "k9de11942"
    refine os_ix (fun _ en => en = [.v (.tup [.str (tx x), .adr a (.lst [])]), .o false (.lst ([(a, D.lst [])].map dA)), .e]) rfl ?_ ?_
    · rintro i d hd en rfl
      cases hd
    rintro en rfl
    walk_at "k9de11942"
    exact h [(a, .lst [])] rfl
  | n + 1, j + 1, t, ls, k, hj, ht, hb, h => by
    obtain ⟨x, a, bs, hx, rfl, rfl, hbl, ht⟩ := ht
    rw [List.length_cons] at hb
    unfold phiN_llists b_llists
    obtain ⟨t, ht0⟩ : ∃ t, t = D.tup [.str (tx x), .adr a (.lst (bs.map fun b => .tup [dN b.1, b.2.1]))] := ⟨_, rfl⟩
    walk_at "k9de11942"
    refine okL_of rfl ?_
    walk_at "k9de11942"
    rw [← ht0]
    refine os_ix (fun i en => ∃ cs : List (Addr × D), cs.map Prod.fst = a :: (bs.take i).flatMap (fun b => b.2.2) ∧ en = [.v t, .o false (.lst (cs.map dA)), .e]) ⟨[(a, .lst (bs.map fun b => .tup [dN b.1, b.2.1]))], rfl, rfl⟩ ?_ ?_
    · rintro i d hd en ⟨cs, hcs, rfl⟩
      rw [List.getElem?_map] at hd
      obtain ⟨b, hbi, rfl⟩ := Option.map_eq_some_iff.mp hd
      have hbm := List.mem_of_getElem? hbi
      have hfl := flat_le hbi
      walk_at "k9de11942"
      refine llab_ok n j (by omega) (ht b hbm) (by omega) fun cs2 hcs2 => ?_
      walk_at "k9de11942"
      have e1 : cs.length = 1 + ((bs.take i).flatMap (fun b => b.2.2)).length := by
        have := congrArg List.length hcs
        rw [List.length_map, List.length_cons] at this
        omega
      have e2 : cs2.length = b.2.2.length := by rw [← hcs2, List.length_map]
      refine okL_of (ext2_lst (by rw [List.length_map, List.length_map]; omega)) ?_
      walk_at "k9de11942"
      exact ⟨cs ++ cs2, by rw [List.map_append, hcs, hcs2, flat_take hbi]; rfl, by rw [List.map_append]⟩
    rintro en ⟨cs, hcs, rfl⟩
    rw [List.length_map, List.take_length] at hcs
    walk_at "k9de11942"
    rw [ht0]
    exact h cs hcs
end PyD.S

end

section
set_option maxHeartbeats 8000000
namespace PyD.S
open PySem PySem.Spec L2 PyD.S
noncomputable def TP (d : D) : Prop := ∃ p, toPy d = some p ∧ p.canLay0 = true ∧ PyData.eqv p .none = false
noncomputable def CN (ds : List D) (b : Bool) : Prop := ∃ ps, toPyL ds = some ps ∧ PyData.canLayAll0 ps = true ∧ (ps.any fun z => PyData.eqv z .none) = b
theorem CN.nil : CN [] false := ⟨[], by unfold toPyL; rfl, by unfold PyData.canLayAll0; rfl, rfl⟩
theorem CN.one : CN [.non] true := ⟨[.none], by simp only [toPyL, toPy], by simp only [PyData.canLayAll0, PyData.canLay0, Bool.and_self], by simp [PyData.eqv]⟩
theorem CN.cons {d : D} {ds : List D} {b : Bool} (h : TP d) (h2 : CN ds b) : CN (d :: ds) b := by
  obtain ⟨p, h1, h3, h4⟩ := h
  obtain ⟨ps, k1, k2, k3⟩ := h2
  refine ⟨p :: ps, ?_, ?_, ?_⟩
  · unfold toPyL
    rw [h1, k1]
  · unfold PyData.canLayAll0
    rw [h3, k2]
    rfl
  · rw [List.any_cons, h4, k3, Bool.false_or]
theorem CN.app {b : Bool} {es : List D} (h2 : CN es b) : ∀ {ds : List D}, (∀ d ∈ ds, TP d) → CN (ds ++ es) b
  | [], _ => h2
  | d :: ds, h => CN.cons (h d (by simp)) (CN.app h2 fun x hx => h x (by simp [hx]))
theorem TP.br {q : Nat} {d : D} (h : TP d) : TP (.tup [dN q, d]) := by
  obtain ⟨p, h1, h2, h3⟩ := h
  refine ⟨.tuple [.int q, p], ?_, ?_, ?_⟩
  · simp only [toPy, toPyL, dN, h1]
    rfl
  · simp only [PyData.canLay0, PyData.canLayAll0, h2, Bool.and_self]
  · simp [PyData.eqv]
theorem TP.tree {x : T} {ds : List D} {b : Bool} (hx : okT x) (h : CN ds b) : TP (.tup [.str (tx x), .lst ds]) := by
  obtain ⟨ps, h1, h2, h3⟩ := h
  refine ⟨.tuple [.str (tx x), .list ps], ?_, ?_, ?_⟩
  · simp only [toPy, toPyL, h1]
    rfl
  · simp only [PyData.canLay0, PyData.canLayAll0, h2, strOk_tx.mpr hx, Bool.and_self]
  · simp [PyData.eqv]
noncomputable def bhd (b a : Addr) : List D := if b = a then [.non] else []
theorem bhd_CN (b a : Addr) : CN (bhd b a) (decide (b = a)) := by
  unfold bhd
  by_cases h : b = a
  · rw [if_pos h, decide_eq_true h]; exact CN.one
  · rw [if_neg h, decide_eq_false h]; exact CN.nil
theorem appAL_map (a : Addr) : ∀ bs : List (Nat × D × List Addr), appAL a (bs.map fun b => .tup [dN b.1, b.2.1]) = bs.map fun b => .tup [dN b.1, appA a b.2.1]
  | [] => by rw [List.map_nil, List.map_nil]; unfold appAL; rfl
  | b :: bs => by
    rw [List.map_cons, List.map_cons]
    unfold appAL
    rw [appAL_map a bs]
    simp only [appA, appAL, dN]
theorem appA_tree {x : T} {a b : Addr} {ds : List D} : appA a (.tup [.str (tx x), .adr b (.lst ds)]) = .tup [.str (tx x), .lst (appAL a ds ++ bhd b a)] := by
  simp only [appA, appAL, bhd]
  by_cases h : b = a
  · rw [if_pos h, if_pos h]
  · rw [if_neg h, if_neg h, List.append_nil]
theorem LT.py (a : Addr) : ∀ {j : Nat} {t : D} {ls : List Addr}, LT j t ls → TP (appA a t)
  | 0, t, ls, h => by
    obtain ⟨x, b, hx, rfl, rfl⟩ := h
    rw [appA_tree]
    exact TP.tree hx (CN.app (bhd_CN b a) fun d hd => by unfold appAL at hd; cases hd)
  | j + 1, t, ls, h => by
    obtain ⟨x, b, bs, hx, rfl, rfl, hbl, ht⟩ := h
    rw [appA_tree, appAL_map]
    refine TP.tree hx (CN.app (bhd_CN b a) fun d hd => ?_)
    obtain ⟨c, hc, rfl⟩ := List.mem_map.mp hd
    exact TP.br (LT.py a (ht c hc))
noncomputable def dL (c : Addr × List D) : D := .lst c.2
theorem lapp_ok (a : Addr) : ∀ (n j : Nat) {t : D} {ls : List Addr} {k : Out → Prop}, j < n → LT j t ls → ls.length ≤ 16000000 → (∀ cs : List (Addr × List D), cs.map Prod.fst = ls → (∀ c ∈ cs, CN c.2 (decide (c.1 = a))) → k (.ret true (.lst (cs.map dL)) [appA a t])) → okO (phiN_llists n [appA a t]) k
  | 0, j, _, _, _, hj, _, _, _ => by omega
  | n + 1, 0, t, ls, k, hj, ht, hb, h => by
    obtain ⟨x, b, hx, rfl, rfl⟩ := ht
    have hcn := bhd_CN b a
    rw [appA_tree] at h ⊢
    rw [show appAL a [] = [] by unfold appAL; rfl, List.nil_append] at h ⊢
    obtain ⟨es, he⟩ : ∃ es, es = bhd b a := ⟨_, rfl⟩
    have hes : ∀ d ∈ es, d = .non := fun d hd => by
      rw [he] at hd
      unfold bhd at hd
      split at hd
      · exact List.mem_singleton.mp hd
      · cases hd
    rw [← he] at h hcn ⊢
    unfold phiN_llists b_llists
    walk_at "k9de11942"
    refine okL_of rfl ?_
    walk_at "k9de11942"
    refine os_ix (fun _ en => en = [.v (.tup [.str (tx x), .lst es]), .o false (.lst ([(b, es)].map dL)), .e]) rfl ?_ ?_
    · rintro i d hd en rfl
      obtain rfl := hes d (List.mem_of_getElem? hd)
      walk_at "k9de11942"
    rintro en rfl
    walk_at "k9de11942"
    exact h [(b, es)] rfl fun c hc => by rw [List.mem_singleton.mp hc]; exact hcn
  | n + 1, j + 1, t, ls, k, hj, ht, hb, h => by
    obtain ⟨x, b, bs, hx, rfl, rfl, hbl, ht⟩ := ht
    rw [List.length_cons] at hb
    have hcn := bhd_CN b a
    rw [appA_tree, appAL_map] at h ⊢
    obtain ⟨es, he⟩ : ∃ es, es = bhd b a := ⟨_, rfl⟩
    have hes : ∀ d ∈ es, d = .non := fun d hd => by
      rw [he] at hd
      unfold bhd at hd
      split at hd
      · exact List.mem_singleton.mp hd
      · cases hd
    rw [← he] at h hcn ⊢
    have hall : CN ((bs.map fun b => .tup [dN b.1, appA a b.2.1]) ++ es) (decide (b = a)) := CN.app hcn fun d hd => by
      obtain ⟨c, hc, rfl⟩ := List.mem_map.mp hd
      exact TP.br (LT.py a (ht c hc))
    obtain ⟨its, hits⟩ : ∃ its, its = (bs.map fun b => D.tup [dN b.1, appA a b.2.1]) ++ es := ⟨_, rfl⟩
    rw [← hits] at h hall ⊢
    unfold phiN_llists b_llists
    walk_at "k9de11942"
    refine okL_of rfl ?_
    walk_at "k9de11942"
    refine os_ix (fun i en => ∃ cs : List (Addr × List D), cs.map Prod.fst = b :: (bs.take i).flatMap (fun b => b.2.2) ∧ (∀ c ∈ cs, CN c.2 (decide (c.1 = a))) ∧ en = [.v (.tup [.str (tx x), .lst its]), .o false (.lst (cs.map dL)), .e]) ⟨[(b, its)], rfl, fun c hc => by rw [List.mem_singleton.mp hc]; exact hall, rfl⟩ ?_ ?_
    · rintro i d hd en ⟨cs, hcs, hcc, rfl⟩
      rw [hits] at hd
      by_cases hi : i < bs.length
      · rw [List.getElem?_append_left (by rw [List.length_map]; exact hi), List.getElem?_map] at hd
        obtain ⟨c, hbi, rfl⟩ := Option.map_eq_some_iff.mp hd
        have hbm := List.mem_of_getElem? hbi
        have hfl := flat_le hbi
        walk_at "k9de11942"
        refine lapp_ok a n j (by omega) (ht c hbm) (by omega) fun cs2 hcs2 hcc2 => ?_
        walk_at "k9de11942"
        have e1 : cs.length = 1 + ((bs.take i).flatMap (fun b => b.2.2)).length := by
          have := congrArg List.length hcs
          rw [List.length_map, List.length_cons] at this
          omega
        have e2 : cs2.length = c.2.2.length := by rw [← hcs2, List.length_map]
        refine okL_of (ext2_lst (by rw [List.length_map, List.length_map]; omega)) ?_
        walk_at "k9de11942"
        exact ⟨cs ++ cs2, by rw [List.map_append, hcs, hcs2, flat_take hbi]; rfl, fun y hy => (List.mem_append.mp hy).elim (hcc y) (hcc2 y), by rw [List.map_append]⟩
      · rw [List.getElem?_append_right (by rw [List.length_map]; omega)] at hd
        obtain rfl := hes d (List.mem_of_getElem? hd)
        walk_at "k9de11942"
        refine ⟨cs, ?_, hcc, rfl⟩
        rw [List.take_of_length_le (by omega)] at hcs ⊢
        exact hcs
    rintro en ⟨cs, hcs, hcc, rfl⟩
    rw [List.take_of_length_le (by rw [hits, List.length_append, List.length_map]; omega)] at hcs
    walk_at "k9de11942"
    exact h cs hcs hcc
theorem one_of {ls : List Addr} {a : Addr} (hn : ls.Nodup) (ha : a ∈ ls) : (ls.filter fun b => decide (b = a)).length = 1 := by
  induction ls with
  | nil => cases ha
  | cons b ls ih =>
    obtain ⟨h1, h2⟩ := List.nodup_cons.mp hn
    rw [List.filter_cons]
    by_cases h : b = a
    · rw [if_pos (decide_eq_true h), List.length_cons]
      have : ls.filter (fun b => decide (b = a)) = [] := List.filter_eq_nil_iff.mpr fun c hc e => h1 (by rw [h, ← of_decide_eq_true e]; exact hc)
      rw [this]
      rfl
    · rw [if_neg (by simpa using h)]
      rcases List.mem_cons.mp ha with z | z
      · exact absurd z.symm h
      · exact ih h2 z
end PyD.S

end

section
set_option maxHeartbeats 8000000
namespace PyD.S
open PySem PySem.Spec L2 PyD.S
theorem rtext10_ok {p : D} {m : Int} {k : Out → Prop} (hp : Reel p) (hm : 0 ≤ m) (hm2 : m ≤ 900) (h : ∀ p' l, Reel p' → (l.length : Int) ≤ m → (∃ ls : List Nat, ls.length ≤ 4 ∧ Lts ls ∧ Is ls l) → k (.ret false (.str (tx l)) [p', .int m])) : okO (phi_ltext_v2 [p, .int m]) k := by
  unfold phi_ltext_v2 b_ltext_v2
  walk_at "k93490303"
  refine okL_atMem hr0 (by simpa using hr1) fun x hx => ?_
  obtain ⟨ls, rfl, hlsL, hln, hlm⟩ : ∃ ls, x = .str (tx ls) ∧ Lts ls ∧ ls ≠ [] ∧ ls.length ≤ 4 := by
    simp only [List.mem_cons, List.not_mem_nil, or_false] at hx
    rcases hx with rfl | rfl | rfl | rfl <;> exact ⟨_, rfl, by decide, by simp, by decide⟩
  clear hx
  have hlp : 0 < ls.length := List.length_pos_iff.mpr hln
  have hls : ∀ c ∈ ls, c ∈ ls := fun _ h => h
  walk_at "k1be157fd"
  refine pick_ok hp (by omega) (by omega) fun p many hp hm0 hm1 => ?_
  walk_at "k1be157fd"
  refine pick_ok hp (by omega) (by omega) fun p way hp hw0 hw1 => ?_
  walk_at "k93490303"
  refine ok_lcY (fun acc en => ∃ p' us, Reel p' ∧ acc = us.map dtx ∧ (∀ l ∈ us, ∃ c, l = [c] ∧ c ∈ ls) ∧ en = [.o true p', .v (.int m), .v (.str (tx ls)), .v (.int many), .v (.int way), .e, .e, .e, .e, .e, .e]) ⟨p, [], hp, rfl, by simp, rfl⟩ (by rw [upL_len]; omega) ?_ ?_
  · rintro i d - acc en - ⟨p', us, hp', rfl, hl, rfl⟩
    walk_at "k93490303"
    refine okL_atMem (by omega) (by omega) fun c hc => ?_
    walk_at "k1be157fd"
    refine ⟨p, us ++ [[c]], hp, by simp [dtx], ?_, rfl⟩
    intro l hl'
    rcases List.mem_append.mp hl' with z | z
    · exact hl l z
    · exact ⟨c, by simpa using z, hls c hc⟩
  rintro acc en hlen ⟨p, us, hp, rfl, hus, rfl⟩
  have h1 : ∀ l ∈ us, l.length = 1 := fun l z => by obtain ⟨c, rfl, _⟩ := hus l z; rfl
  have hlen : us.length = (1 + r).toNat := by rw [upL_len] at hlen; simpa using hlen
  walk_at "k93490303"
  rw [join_txs h1 (by omega)]
  have hc : Is ls us.flatten := by
    intro c hc
    obtain ⟨l, h2, h3⟩ := List.mem_flatten.mp hc
    obtain ⟨c', rfl, h4⟩ := hus l h2
    rw [List.mem_singleton.mp h3]
    exact h4
  have hl : us.flatten.length = us.length := by rw [List.length_flatten, sum_ones h1]
  revert hc hl
  generalize us.flatten = l
  intro hc hl
  walk_at "k93490303"
  refine os_cut (fun en => ∃ l, en = [.o true p, .v (.int m), .v (.str (tx ls)), .v (.int many), .v (.int way), .e, .v (.str (tx l)), .e, .e, .e, .e] ∧ Is ls l ∧ 1 ≤ l.length ∧ l.length ≤ 5000) ?_ ?_
  · walk_at "keb648c07"
    refine bj_mk (fun hw => ?_) (fun hw => ?_)
    · walk_at "k93490303"
      rw [mul_tx, okL_if]
      walk_at "k93490303"
      refine ⟨_, rfl, fun c hc' => ?_, ?_⟩
      · obtain ⟨a, ha, hb⟩ := List.mem_flatten.mp hc'
        rw [(List.mem_replicate.mp ha).2] at hb
        exact hc c hb
      · rw [rep_len]
        have h2 : 1 ≤ (m + 1).toNat := by omega
        have h3 : (m + 1).toNat * l.length ≤ 901 * 5 := Nat.mul_le_mul (by omega) (by omega)
        have h4 : 1 * 1 ≤ (m + 1).toNat * l.length := Nat.mul_le_mul h2 (by omega)
        omega
    · walk_at "k93490303"
      exact ⟨l, rfl, hc, by omega, by omega⟩
  clear hl hc l
  rintro en ⟨l, rfl, hc, hl0, hl1⟩
  walk_at "k1be157fd"
  refine os_cut (fun en => ∃ l, en = [.o true p, .v (.int m), .v (.str (tx ls)), .v (.int many), .v (.int way), .e, .v (.str (tx l)), .e, .e, .e, .e] ∧ Is ls l ∧ 1 ≤ l.length ∧ l.length ≤ 5000) ?_ ?_
  · walk_at "keb648c07"
    refine bj_mk (fun hw => ?_) (fun hw => ?_)
    · walk_at "k93490303"
      have hln : ls ≠ [] := fun z => by rw [z] at hlp; simp at hlp
      rw [at_last hln]
      obtain ⟨c, hcl⟩ : ∃ c, ls.getLast? = some c := by
        cases e : ls.getLast? with
        | none => exact absurd (List.getLast?_eq_none_iff.mp e) hln
        | some c => exact ⟨c, rfl⟩
      have hcc : c ∈ ls := hls c (List.mem_of_getLast? hcl)
      rw [hcl]
      walk_at "k93490303"
      refine os_while (fun z en => ∃ one other, z = (many - one.length).toNat ∧ en = [.o true p, .v (.int m), .v (.str (tx ls)), .v (.int many), .v (.int way), .e, .e, .v (.str (tx one)), .v (.str (tx other)), .e, .e] ∧ Is ls one ∧ Is ls other ∧ 1 ≤ other.length ∧ other.length ≤ one.length ∧ one.length ≤ 5000) 100000 _ _ (by omega) ⟨l, [c], rfl, rfl, hc, Is.one hcc, by simp, by simpa using hl0, hl1⟩ ?_
      rintro z en ⟨one, other, rfl, rfl, h1, h2, h3, h4, h5⟩
      walk_at "k93490303"
      refine bj_mk (fun hlt => ?_) (fun hlt => ?_)
      · walk_at "k93490303"
        refine ⟨_, ?_, one ++ other, one, rfl, rfl, h1.app h2, h1, by omega, by simp, by simp only [List.length_append]; omega⟩
        simp only [List.length_append]
        omega
      · walk_at "k93490303"
        exact ⟨one, rfl, h1, by omega, h5⟩
    · walk_at "k93490303"
      exact ⟨l, rfl, hc, hl0, hl1⟩
  clear hl0 hl1 hc l
  rintro en ⟨l, rfl, hc, hl0, hl1⟩
  walk_at "k1be157fd"
  refine os_cut (fun en => ∃ p l, en = [.o true p, .v (.int m), .v (.str (tx ls)), .v (.int many), .v (.int way), .e, .v (.str (tx l)), .e, .e, .e, .e] ∧ Reel p ∧ Is ls l ∧ 1 ≤ l.length ∧ l.length ≤ 5000) ?_ ?_
  · refine os_while (fun z en => ∃ p l, z = (many - l.length).toNat ∧ en = [.o true p, .v (.int m), .v (.str (tx ls)), .v (.int many), .v (.int way), .e, .v (.str (tx l)), .e, .e, .e, .e] ∧ Reel p ∧ Is ls l ∧ 1 ≤ l.length ∧ l.length ≤ 5000) 100000 _ _ (by omega) ⟨p, l, rfl, rfl, hp, hc, hl0, hl1⟩ ?_
    clear hl0 hl1 hc l hp p
    rintro z en ⟨p, l, rfl, rfl, hp, hc, hl0, hl1⟩
    walk_at "k93490303"
    refine bj_mk (fun hw => ?_) (fun hw => ?_)
    · walk_at "k93490303"
      refine bj_mk (fun hlt => ?_) (fun hlt => ?_)
      · walk_at "k1be157fd"
        refine ⟨by omega, pick_ok hp (by omega) (by omega) fun p a hp ha0 ha1 => ?_⟩
        walk_at "k1be157fd"
        refine pick_ok hp (by omega) (by omega) fun p b hp hb0 hb1 => ?_
        walk_at "k1be157fd"
        rw [cut_mid (by omega) (by omega)]
        have hx : (List.drop a.toNat (List.take (a + 1 + b).toNat l)).length ≤ 6 := by
          rw [List.length_drop, List.length_take]
          omega
        walk_at "k93490303"
        refine okL_atMem (by omega) (by omega) fun c hcm => ?_
        have hl3 : (l ++ List.drop a.toNat (List.take (a + 1 + b).toNat l) ++ [c]).length ≤ l.length + 7 ∧ l.length < (l ++ List.drop a.toNat (List.take (a + 1 + b).toNat l) ++ [c]).length := by
          simp only [List.length_append, List.length_singleton]
          omega
        walk_at "k1be157fd"
        refine ⟨by simp only [List.length_append, List.length_singleton] at hl3 ⊢; omega, _, ?_, p, _, rfl, rfl, hp, (hc.app ((hc.take _).drop _)).app (Is.one (hls c hcm)), by omega, by omega⟩
        omega
      · walk_at "k93490303"
        exact ⟨p, l, rfl, hp, hc, hl0, hl1⟩
    · walk_at "k93490303"
      exact ⟨p, l, rfl, hp, hc, hl0, hl1⟩
  clear hl0 hl1 hc l hp p
  rintro en ⟨p, l, rfl, hp, hc, hl0, hl1⟩
  walk_at "k1be157fd"
  refine os_while (fun z en => ∃ p l, z = (many - l.length).toNat ∧ en = [.o true p, .v (.int m), .v (.str (tx ls)), .v (.int many), .v (.int way), .e, .v (.str (tx l)), .e, .e, .e, .e] ∧ Reel p ∧ Is ls l ∧ 1 ≤ l.length ∧ l.length ≤ 5000) 100000 _ _ (by omega) ⟨p, l, rfl, rfl, hp, hc, hl0, hl1⟩ ?_
  clear hl0 hl1 hc l hp p
  rintro z en ⟨p, l, rfl, rfl, hp, hc, hl0, hl1⟩
  have fin : l.length ≤ 16777216 ∧ k (.ret false (.str (tx (cutL l none (some many)))) [p, .int m]) := by
    rw [cut_to hm0]
    exact ⟨by omega, h p _ hp (by rw [List.length_take]; omega) ⟨ls, hlm, hlsL, hc.take _⟩⟩
  walk_at "k93490303"
  refine bj_mk (fun hw => ?_) (fun hw => ?_)
  · walk_at "k93490303"
    refine bj_mk (fun hlt => ?_) (fun hlt => ?_)
    · walk_at "k93490303"
      refine okL_atMem (by omega) (by omega) fun c hcm => ?_
      walk_at "k1be157fd"
      refine ⟨by simp; omega, _, ?_, p, _, rfl, rfl, hp, hc.app (Is.one (hls c hcm)), by simp, by simp; omega⟩
      simp only [List.length_append, List.length_singleton]
      omega
    · walk_at "k1be157fd"
      exact fin
  · walk_at "k1be157fd"
    exact fin
end PyD.S

end

namespace PyD.S
open PySem PySem.Spec L2 PyD.S
noncomputable def dO : Option (List Nat) → D
  | none => .non
  | some x => .str (tx x)
theorem dO_n : dO none = .non := rfl
end PyD.S

section
set_option maxHeartbeats 4000000
namespace PyD.S
open PySem PySem.Spec L2 PyD.S
noncomputable def FM (l : T) (ps : List Nat) : Option T → Prop
  | none => ∀ m, 1 ≤ m → m ≤ l.length → ∀ x, ¬ msd l ps m x
  | some x => ∃ m, 1 ≤ m ∧ m ≤ l.length ∧ msd l ps m x ∧ (∀ m', 1 ≤ m' → m' < m → ∀ y, ¬ msd l ps m' y) ∧ ∀ y, msd l ps m y → ¬ y < x
theorem FM.uniq {l : T} {ps : List Nat} : ∀ {r r' : Option T}, FM l ps r → FM l ps r' → r = r'
  | none, none, _, _ => rfl
  | none, some x, h, ⟨m, h1, h2, h3, _⟩ => absurd h3 (h m h1 h2 x)
  | some x, none, ⟨m, h1, h2, h3, _⟩, h => absurd h3 (h m h1 h2 x)
  | some x, some y, ⟨m, h1, h2, h3, h4, h5⟩, ⟨n, k1, k2, k3, k4, k5⟩ => by
    have e : m = n := by
      rcases Nat.lt_trichotomy m n with z | z | z
      · exact absurd h3 (k4 m h1 z x)
      · exact z
      · exact absurd k3 (h4 n k1 z y)
    subst e
    rw [List.le_antisymm (List.not_lt.mp (k5 x h3)) (List.not_lt.mp (h5 y k3))]
theorem msd_okT {l : T} {ps : List Nat} {m : Nat} {x : T} (hc : okT l) (h : msd l ps m x) : okT x := by
  obtain ⟨⟨a, _, rfl⟩, _⟩ := h
  exact cutT_Lts hc
theorem FM.okT {l : T} {ps : List Nat} {x : T} (hc : okT l) (h : FM l ps (some x)) : okT x := by
  obtain ⟨m, _, _, h3, _⟩ := h
  exact msd_okT hc h3
end PyD.S

end

section
set_option maxHeartbeats 4000000
namespace PyD.S
open PySem PySem.Spec L2 PyD.S
noncomputable def dicB (ks : List (T × Bool)) : List (Key × D) := ks.map fun p => (.inr (tx p.1), .bl p.2)
noncomputable def getB (ks : List (T × Bool)) (x : T) : Bool := ((ks.find? fun p => decide (p.1 = x)).map (·.2)).getD false
noncomputable def putB (ks : List (T × Bool)) (x : T) (b : Bool) : List (T × Bool) := if x ∈ ks.map (·.1) then ks.map fun p => if p.1 = x then (x, b) else p else ks ++ [(x, b)]
theorem find_dicB (ks : List (T × Bool)) (x : T) : (dicB ks).find? (fun kv => decide (kv.1 = .inr (tx x))) = (ks.find? fun p => decide (p.1 = x)).map fun p => (.inr (tx p.1), .bl p.2) := by
  unfold dicB
  rw [List.find?_map]
  congr 1
  apply congrArg (fun f => List.find? f ks)
  funext p
  show decide ((Sum.inr (tx p.1) : Key) = .inr (tx x)) = _
  by_cases h : p.1 = x
  · simp [h]
  · have : (Sum.inr (tx p.1) : Key) ≠ .inr (tx x) := fun z => h (kT_inj z)
    simp [h, this]
theorem get_dicB {ks : List (T × Bool)} {x : T} : getD2 [.dic (dicB ks), .str (tx x), .bl false] = some (false, .bl (getB ks x)) := by
  show (if flatD (.bl false) = true then some (false, (valD (dicB ks) (.inr (tx x))).getD (.bl false)) else none) = _
  rw [if_pos (show flatD (.bl false) = true from rfl)]
  unfold valD getB
  rw [find_dicB]
  cases ks.find? fun p => decide (p.1 = x) <;> rfl
theorem ix_dicB {ks : List (T × Bool)} {x : T} (h : x ∈ ks.map (·.1)) : ixUD [.dic (dicB ks), .str (tx x)] = some (false, .bl (getB ks x)) := by
  show (valD (dicB ks) (.inr (tx x))).map (fun d => (false, d)) = _
  unfold valD getB
  rw [find_dicB]
  cases e : ks.find? fun p => decide (p.1 = x) with
  | some p => rfl
  | none =>
    rw [List.find?_eq_none] at e
    obtain ⟨p, hp, rfl⟩ := List.mem_map.mp h
    exact absurd (by simp) (e p hp)
theorem put_dicB {ks : List (T × Bool)} {x : T} {b : Bool} : putD (dicB ks) (.inr (tx x)) (.bl b) = dicB (putB ks x b) := by
  unfold putD putB
  by_cases h : x ∈ ks.map (·.1)
  · have e : ((dicB ks).any fun kv => decide (kv.1 = .inr (tx x))) = true := by
      rw [List.any_eq_true]
      obtain ⟨p, hp, rfl⟩ := List.mem_map.mp h
      exact ⟨(.inr (tx p.1), .bl p.2), List.mem_map.mpr ⟨p, hp, rfl⟩, by simp⟩
    rw [if_pos h, if_pos e]
    unfold dicB
    rw [List.map_map, List.map_map]
    apply List.map_congr_left
    intro p _
    show (if (Sum.inr (tx p.1) : Key) = .inr (tx x) then _ else _) = _
    by_cases hp : p.1 = x
    · simp [hp]
    · have : (Sum.inr (tx p.1) : Key) ≠ .inr (tx x) := fun z => hp (kT_inj z)
      simp [hp, this]
  · have e : ¬ ((dicB ks).any fun kv => decide (kv.1 = .inr (tx x))) = true := by
      rw [List.any_eq_true]
      rintro ⟨kv, hm, hk⟩
      obtain ⟨p, hp, rfl⟩ := List.mem_map.mp hm
      have := kT_inj (of_decide_eq_true hk)
      exact h (List.mem_map.mpr ⟨p, hp, this⟩)
    rw [if_neg h, if_neg e]
    simp [dicB]
theorem put_keys {ks : List (T × Bool)} {x : T} {b : Bool} : (putB ks x b).map (·.1) = addU (ks.map (·.1)) x := by
  unfold putB addU
  by_cases h : x ∈ ks.map (·.1)
  · rw [if_pos h, if_pos h, List.map_map]
    apply List.map_congr_left
    intro p _
    show (if p.1 = x then (x, b) else p).1 = p.1
    split
    · rename_i e; exact e.symm
    · rfl
  · rw [if_neg h, if_neg h, List.map_append]
    rfl
theorem get_put {ks : List (T × Bool)} {x y : T} {b : Bool} : getB (putB ks x b) y = if y = x then b else getB ks y := by
  unfold getB putB
  by_cases h : x ∈ ks.map (·.1)
  · rw [if_pos h, List.find?_map]
    have e : ((fun p : T × Bool => decide (p.1 = y)) ∘ fun p : T × Bool => if p.1 = x then (x, b) else p) = fun p => decide (p.1 = y) := by
      funext p
      show decide ((if p.1 = x then (x, b) else p).1 = y) = _
      by_cases hp : p.1 = x <;> simp [hp]
    rw [e]
    by_cases hy : y = x
    · rw [if_pos hy, hy]
      obtain ⟨p, hp, hpx⟩ := List.mem_map.mp h
      cases e2 : ks.find? fun p => decide (p.1 = x) with
      | none =>
        rw [List.find?_eq_none] at e2
        exact absurd (by simp [hpx]) (e2 p hp)
      | some q =>
        have := List.find?_some e2
        have := of_decide_eq_true this
        simp [this]
    · rw [if_neg hy]
      cases e2 : ks.find? fun p => decide (p.1 = y) with
      | none => rfl
      | some q =>
        have := List.find?_some e2
        have := of_decide_eq_true this
        have hq : q.1 ≠ x := fun z => hy (this.symm.trans z)
        simp [hq]
  · rw [if_neg h, List.find?_append]
    by_cases hy : y = x
    · rw [if_pos hy, hy]
      have e2 : ks.find? (fun p => decide (p.1 = x)) = none := by
        rw [List.find?_eq_none]
        intro p hp hpx
        exact h (List.mem_map.mpr ⟨p, hp, of_decide_eq_true hpx⟩)
      rw [e2]
      simp
    · rw [if_neg hy]
      cases e2 : ks.find? fun p => decide (p.1 = y) with
      | none => simp [Ne.symm hy]
      | some q => rfl
theorem keys_dicB (ks : List (T × Bool)) : (dicB ks).map (·.1) = (ks.map (·.1)).map kT := by simp [dicB, kT, Function.comp_def]
theorem any_bls {bs : List Bool} : anyD [.lst (bs.map D.bl)] = some (false, .bl (bs.any id)) := by
  simp [anyD]
noncomputable def tchB (ps : List Nat) (a m : Nat) : Bool := (ps.map fun p => decide (a ≤ p ∧ p < a + m)).any id
theorem tchB_iff {ps : List Nat} {a m : Nat} : tchB ps a m = true ↔ tch ps a m := by
  unfold tchB tch
  rw [List.any_eq_true]
  constructor
  · rintro ⟨b, hb, e⟩
    obtain ⟨p, hp, rfl⟩ := List.mem_map.mp hb
    exact ⟨p, hp, of_decide_eq_true e⟩
  · rintro ⟨p, hp, h1, h2⟩
    exact ⟨_, List.mem_map.mpr ⟨p, hp, rfl⟩, decide_eq_true ⟨h1, h2⟩⟩
noncomputable def tbl (l : T) (ps : List Nat) (m : Nat) : Nat → List (T × Bool)
  | 0 => []
  | n + 1 => putB (tbl l ps m n) (cutT l n (n + m)) (getB (tbl l ps m n) (cutT l n (n + m)) || tchB ps n m)
theorem tbl_keys (l : T) (ps : List Nat) (m : Nat) : ∀ n, (tbl l ps m n).map (·.1) = pcs l m n
  | 0 => rfl
  | n + 1 => by
    unfold tbl pcs
    rw [put_keys, tbl_keys l ps m n]
theorem tbl_get (l : T) (ps : List Nat) (m : Nat) (x : T) : ∀ n, getB (tbl l ps m n) x = true ↔ ∃ a, a < n ∧ x = cutT l a (a + m) ∧ tch ps a m
  | 0 => by simp [tbl, getB]
  | n + 1 => by
    unfold tbl
    rw [get_put]
    by_cases h : x = cutT l n (n + m)
    · rw [if_pos h, Bool.or_eq_true, ← h, tbl_get l ps m x n, tchB_iff]
      constructor
      · rintro (⟨a, ha, e, t⟩ | t)
        · exact ⟨a, by omega, e, t⟩
        · exact ⟨n, by omega, h, t⟩
      · rintro ⟨a, ha, e, t⟩
        by_cases han : a = n
        · exact .inr (han ▸ t)
        · exact .inl ⟨a, by omega, e, t⟩
    · rw [if_neg h, tbl_get l ps m x n]
      constructor
      · rintro ⟨a, ha, e, t⟩
        exact ⟨a, by omega, e, t⟩
      · rintro ⟨a, ha, e, t⟩
        have han : a ≠ n := fun z => h (z ▸ e)
        exact ⟨a, by omega, e, t⟩
noncomputable def tblM (l : T) (ps : List Nat) (m : Nat) : List (T × Bool) := tbl l ps m (manyAt l m)
noncomputable def missL (l : T) (ps : List Nat) (m : Nat) : List T := ((pcsT l m).mergeSort leT).filter fun x => !getB (tblM l ps m) x
theorem missL_mem {l : T} {ps : List Nat} {m : Nat} {x : T} : x ∈ missL l ps m ↔ msd l ps m x := by
  unfold missL msd
  rw [List.mem_filter, List.mem_mergeSort, Bool.not_eq_true']
  have h := tbl_get l ps m x (manyAt l m)
  have h2 : x ∈ pcsT l m ↔ ∃ a, a < manyAt l m ∧ x = cutT l a (a + m) := pcs_mem
  rw [h2]
  constructor
  · rintro ⟨h1, h3⟩
    refine ⟨h1, fun a ha e t => ?_⟩
    have := h.mpr ⟨a, ha, e, t⟩
    unfold tblM at h3
    rw [h3] at this
    cases this
  · rintro ⟨h1, h3⟩
    refine ⟨h1, ?_⟩
    cases e : getB (tblM l ps m) x with
    | false => rfl
    | true =>
      obtain ⟨a, ha, e2, t⟩ := h.mp e
      exact absurd t (h3 a ha e2)
theorem missL_pw (l : T) (ps : List Nat) (m : Nat) : (missL l ps m).Pairwise fun x y => leT x y = true := (List.pairwise_mergeSort leT_trans leT_total _).filter _
theorem missL_head {l : T} {ps : List Nat} {m : Nat} {x : T} {r : List T} (h : missL l ps m = x :: r) : ∀ y, msd l ps m y → ¬ y < x := by
  intro y hy
  have hm := missL_mem.mpr hy
  have pw := missL_pw l ps m
  rw [h] at hm pw
  rcases List.mem_cons.mp hm with rfl | hm
  · exact List.lt_irrefl _
  · exact List.not_lt.mpr (leT_iff.mp (List.rel_of_pairwise_cons pw hm))
theorem manyAt_le (l : T) (m : Nat) : manyAt l m ≤ l.length + 1 := by unfold manyAt; omega
theorem lmissed_ok {l : T} {ps : List Nat} {k : Out → Prop} (hl : l.length ≤ 5000) (hps : ps.length ≤ 100000) (hc : okT l) (h : ∀ r, FM l ps r → k (.ret false (dO r) [.str (tx l), .tup (ps.map dN)])) : okO (phi_lmissed [.str (tx l), .tup (ps.map dN)]) k := by
  unfold phi_lmissed b_lmissed
  walk_at "k93490303"
  rw [show ((l.length : Int) + 1 - 1).toNat = l.length by omega]
  refine os_ix (fun i en => en = [.v (.str (tx l)), .v (.tup (ps.map dN)), .e, .e, .e, .e, .e, .e, .e] ∧ ∀ m, 1 ≤ m → m ≤ i → ∀ x, ¬ msd l ps m x) ⟨rfl, fun m h1 h2 => by omega⟩ ?_ ?_
  · rintro i d hd en ⟨rfl, hno⟩
    obtain ⟨rfl, hlt⟩ := upL_get hd
    rw [show (1 : Int) + (i : Int) = ((i + 1 : Nat) : Int) by omega]
    generalize hm : i + 1 = m
    walk_at "k93490303"
    refine os_ix (fun j en => en = [.v (.str (tx l)), .v (.tup (ps.map dN)), .v (.int m), .o false (.dic (dicB (tbl l ps m j))), .e, .e, .e, .e, .e]) rfl ?_ ?_
    · rintro j d hd en rfl
      obtain ⟨rfl, hlt2⟩ := upL_get hd
      walk_at "k1be157fd"
      rw [Int.zero_add, cut_nat]
      generalize hx : cutT l j (j + m) = x
      walk_at "k93490303"
      refine ok_lcY (fun acc en => acc = ((ps.take acc.length).map fun p => decide (j ≤ p ∧ p < j + m)).map D.bl ∧ en = [.v (.str (tx l)), .v (.tup (ps.map dN)), .v (.int m), .o false (.dic (dicB (tbl l ps m j))), .v (.int j), .e, .v (.str (tx x)), .e, .e]) ⟨rfl, rfl⟩ ?_ ?_ ?_
      · rw [List.length_map]; omega
      · rintro q d hd acc en hq ⟨ha, rfl⟩
        rw [List.getElem?_map] at hd
        obtain ⟨p, hp, rfl⟩ := Option.map_eq_some_iff.mp hd
        subst hq
        have e : ps.take (acc.length + 1) = ps.take acc.length ++ [p] := by
          rw [List.take_succ, hp]
          rfl
        have fin : ∀ b : Bool, b = decide (j ≤ p ∧ p < j + m) → acc ++ [D.bl b] = ((ps.take (acc ++ [D.bl b]).length).map fun p => decide (j ≤ p ∧ p < j + m)).map D.bl := fun b hb => by
          rw [List.length_append, List.length_singleton, e, List.map_append, List.map_append, ← ha, hb]
          rfl
        unfold dN
        walk_at "k93490303"
        refine bj_mk (fun h1 => ?_) (fun h1 => ?_)
        · walk_at "k93490303"
          refine fin _ ?_
          by_cases h2 : (p : Int) < (j : Int) + (m : Int)
          · rw [decide_eq_true h2, decide_eq_true (by omega)]
          · rw [decide_eq_false h2, decide_eq_false (by omega)]
        · walk_at "k93490303"
          refine fin _ ?_
          rw [decide_eq_false (by omega)]
      · rintro acc en hlen ⟨ha, rfl⟩
        rw [List.length_map] at hlen
        rw [hlen, List.take_length] at ha
        subst ha
        walk_at "k93490303"
        refine okL_of any_bls ?_
        rw [show (ps.map fun p => decide (j ≤ p ∧ p < j + m)).any id = tchB ps j m from rfl]
        walk_at "k1be157fd"
        refine okL_of get_dicB ?_
        walk_at "k1be157fd"
        have hkl : (dicB (tbl l ps m j)).length < 1000000 := by
          have := tbl_keys l ps m j
          have h2 := congrArg List.length this
          rw [List.length_map] at h2
          have := pcs_len (l := l) (m := m) j
          unfold dicB
          rw [List.length_map]
          omega
        have hput : ∀ b : Bool, b = (getB (tbl l ps m j) x || tchB ps j m) → dicB (putB (tbl l ps m j) x b) = dicB (tbl l ps m (j + 1)) := fun b hb => by
          rw [hb, ← hx]
          rfl
        refine bi_mk (fun hb => ?_) (fun hb => ?_)
        · walk_at "k1be157fd"
          rw [set_dic (k := .inr (tx x)) rfl, okL_if, put_dicB]
          refine ⟨hkl, ?_⟩
          walk_at "k93490303"
          rw [hput _ (by rw [hb]; rfl)]
        · walk_at "k1be157fd"
          rw [set_dic (k := .inr (tx x)) rfl, okL_if, put_dicB]
          refine ⟨hkl, ?_⟩
          walk_at "k93490303"
          rw [hput _ (by rw [hb]; rfl)]
    · rintro en rfl
      rw [upL_len, show tbl l ps m ((l.length : Int) - (m : Int) + 1).toNat = tblM l ps m from rfl]
      walk_at "k93490303"
      refine okL_of (sort_keys (ks := pcsT l m) (by rw [keys_dicB]; congr 1; exact tbl_keys l ps m _)) ?_
      walk_at "k93490303"
      refine ok_lcX (fun q acc en => acc = ((((pcsT l m).mergeSort leT).take q).filter fun x => !getB (tblM l ps m) x).map dtx ∧ en = [.v (.str (tx l)), .v (.tup (ps.map dN)), .e, .o false (.dic (dicB (tblM l ps m))), .e, .e, .e, .e, .e]) ⟨rfl, rfl⟩ ?_ ?_ ?_
      · rw [List.length_map, List.length_mergeSort]
        have := pcs_len (l := l) (m := m) (manyAt l m)
        have := manyAt_le l m
        unfold pcsT
        omega
      · rintro q d hd acc en hq ⟨rfl, rfl⟩
        rw [List.getElem?_map] at hd
        obtain ⟨x, hx, rfl⟩ := Option.map_eq_some_iff.mp hd
        have hmem : x ∈ (tblM l ps m).map (·.1) := by
          have := tbl_keys l ps m (manyAt l m)
          unfold tblM
          rw [this]
          exact List.mem_mergeSort.mp (List.mem_of_getElem? hx)
        have e : ((pcsT l m).mergeSort leT).take (q + 1) = ((pcsT l m).mergeSort leT).take q ++ [x] := by
          rw [List.take_succ, hx]
          rfl
        rw [e, List.filter_append, List.map_append]
        walk_at "k93490303"
        refine okL_of (ix_dicB hmem) ?_
        walk_at "k93490303"
        cases hb : getB (tblM l ps m) x with
        | true =>
          walk_at "k93490303"
          simp [hb]
        | false =>
          walk_at "k93490303"
          simp [hb, dtx]
      · rintro acc en - ⟨rfl, rfl⟩
        rw [show (((pcsT l m).mergeSort leT).take (((pcsT l m).mergeSort leT).map dtx).length) = (pcsT l m).mergeSort leT by rw [List.length_map, List.take_length]]
        rw [show (((pcsT l m).mergeSort leT).filter fun x => !getB (tblM l ps m) x) = missL l ps m from rfl]
        walk_at "kfb9d909a"
        refine okL_eqd (pq_txs fun x hx => msd_okT hc (missL_mem.mp hx)) (pq_txs (ls := []) (by simp)) ?_
        walk_at "kfb9d909a"
        refine bj_mk (fun h1 => ?_) (fun h1 => ?_)
        · have h1 : missL l ps m = [] := dtxs_inj (b := []) (D.lst.inj h1)
          walk_at "k93490303"
          refine fun m' hm1 hm2 x hx => ?_
          by_cases hmi : m' = m
          · rw [hmi, ← missL_mem, h1] at hx
            cases hx
          · exact hno m' hm1 (by omega) x hx
        · cases hms : missL l ps m with
          | nil => rw [hms] at h1; exact absurd rfl h1
          | cons x0 xs =>
            walk_at "k93490303"
            refine okL_of at_0 ?_
            walk_at "k93490303"
            exact h (some x0) ⟨m, by omega, by omega, missL_mem.mp (by rw [hms]; simp), fun m' h2 h3 => hno m' h2 (by omega), missL_head hms⟩
  · rintro en ⟨rfl, hno⟩
    rw [upL_len] at hno
    walk_at "k93490303"
    exact h none fun m h1 h2 => hno m h1 h2
end PyD.S

end

section
set_option maxHeartbeats 4000000
namespace PyD.S
open PySem PySem.Spec L2 PyD.S
theorem whole_ok {i : Int} {k : Out → Prop} (h : k (.ret false (.bl true) [.int i])) : okO (phi_lwhole [.int i]) k := by
  unfold phi_lwhole b_lwhole
  walk_at "kfb9d909a"
  exact h
end PyD.S

end

section
set_option maxHeartbeats 8000000
namespace PyD.S
open PySem PySem.Spec L2 PyD.S
noncomputable def stB (l x : T) (p : Nat) : Bool := (List.range (p + 1)).any fun s => decide (p < s + x.length) && decide (cutT l s (s + x.length) = x)
theorem cutT_len {l : T} {a b : Nat} : (cutT l a b).length = min b l.length - a := by
  unfold cutT
  rw [List.length_drop, List.length_take]
theorem stB_iff {l x : T} {p : Nat} (hx : 1 ≤ x.length) : stB l x p = true ↔ ∃ a, a + x.length ≤ l.length ∧ x = cutT l a (a + x.length) ∧ a ≤ p ∧ p < a + x.length := by
  unfold stB
  rw [List.any_eq_true]
  constructor
  · rintro ⟨s, hs, h⟩
    rw [Bool.and_eq_true, decide_eq_true_iff, decide_eq_true_iff] at h
    have hs := List.mem_range.mp hs
    refine ⟨s, ?_, h.2.symm, by omega, h.1⟩
    have := congrArg List.length h.2
    rw [cutT_len] at this
    omega
  · rintro ⟨a, h1, h2, h3, h4⟩
    exact ⟨a, List.mem_range.mpr (by omega), by rw [Bool.and_eq_true, decide_eq_true_iff, decide_eq_true_iff]; exact ⟨h4, h2.symm⟩⟩
theorem tch_list {l x : T} (hx : 1 ≤ x.length) : Tch l x ((List.range l.length).filter (stB l x)) := by
  refine ⟨(List.pairwise_lt_range).filter _, fun q => ?_⟩
  rw [List.mem_filter, stB_iff hx, List.mem_range]
  constructor
  · exact fun h => h.2
  · rintro ⟨a, h1, h2, h3, h4⟩
    exact ⟨by omega, a, h1, h2, h3, h4⟩
theorem ltouching_ok {l x : T} {k : Out → Prop} (hl : l.length ≤ 900) (hc : okT l) (hxo : okT x) (hx : 1 ≤ x.length) (hx2 : x.length ≤ l.length) (h : ∀ ts, Tch l x ts → ts.length ≤ l.length → k (.ret true (.lst (ts.map dN)) [.str (tx l), .str (tx x)])) : okO (phi_ltouching [.str (tx l), .str (tx x)]) k := by
  unfold phi_ltouching b_ltouching
  walk_at "k93490303"
  refine os_ix (fun i en => en = [.v (.str (tx l)), .v (.str (tx x)), .o false (.lst (((List.range i).filter (stB l x)).map dN)), .e, .e, .e]) rfl ?_ ?_
  · rintro i d hd en rfl
    obtain ⟨rfl, hlt⟩ := upL_get hd
    rw [Int.zero_add]
    have hfl : (((List.range i).filter (stB l x)).map dN).length ≤ i := by
      rw [List.length_map]
      exact Nat.le_trans (List.length_filter_le _ _) (by simp)
    walk_at "k93490303"
    obtain ⟨lo, hlo, hlo2⟩ : ∃ lo : Nat, maxI 0 ((i : Int) - (x.length : Int) + 1) = (lo : Int) ∧ lo = i + 1 - x.length := by
      refine ⟨i + 1 - x.length, ?_, rfl⟩
      unfold maxI
      split <;> omega
    have elr : lrgD [.int (lo : Nat), .int ((i : Int) + 1)] = some (true, .lst (upL (lo : Nat) (i + 1 - lo))) := by
      unfold lrgD
      show (if RgOk (lo : Int) ((i : Int) + 1) then some (upL (lo : Nat) (((i : Int) + 1) - (lo : Int)).toNat) else none).map _ = _
      rw [if_pos (RgOk.of_le (by omega) (by omega) (by omega) (by omega))]
      rw [show (((i : Int) + 1) - (lo : Int)).toNat = i + 1 - lo by omega]
      rfl
    rw [hlo]
    simp -dsimp -implicitDefEqProofs (disch := omega) only [elr, okL_some]
    walk_at "kfb9d909a"
    refine ok_lcY (fun acc en => acc = ((List.range acc.length).map fun j => decide (cutT l (lo + j) (lo + j + x.length) = x)).map D.bl ∧ en = [.v (.str (tx l)), .v (.str (tx x)), .o false (.lst (((List.range i).filter (stB l x)).map dN)), .v (.int (i : Nat)), .v (.lst (upL (lo : Nat) (i + 1 - lo))), .e]) ⟨rfl, rfl⟩ (by rw [upL_len]; omega) ?_ ?_
    · rintro q d hd acc en hq ⟨hac, rfl⟩
      obtain ⟨rfl, hlt2⟩ := upL_get hd
      subst hq
      rw [show (lo : Int) + (acc.length : Int) = ((lo + acc.length : Nat) : Int) by omega]
      walk_at "k93490303"
      rw [cut_nat]
      have hco : okT (cutT l (lo + acc.length) (lo + acc.length + x.length)) := cutT_okT hc
      refine okL_eqtx hco hxo ?_
      walk_at "k93490303"
      rw [List.length_append, List.length_singleton, List.range_succ, List.map_append, List.map_append, ← hac]
      rfl
    rintro acc en hlen ⟨hac, rfl⟩
    rw [upL_len] at hlen
    rw [hlen] at hac
    subst hac
    walk_at "kfb9d909a"
    refine okL_of any_bls ?_
    have hst : (((List.range (i + 1 - lo)).map fun j => decide (cutT l (lo + j) (lo + j + x.length) = x)).any id) = stB l x i := by
      rw [Bool.eq_iff_iff, List.any_map, List.any_eq_true, stB_iff hx]
      constructor
      · rintro ⟨j, hj, e⟩
        have hj := List.mem_range.mp hj
        have e : cutT l (lo + j) (lo + j + x.length) = x := of_decide_eq_true e
        refine ⟨lo + j, ?_, e.symm, by omega, by omega⟩
        have := congrArg List.length e
        rw [cutT_len] at this
        omega
      · rintro ⟨a, h1, h2, h3, h4⟩
        refine ⟨a - lo, List.mem_range.mpr (by omega), ?_⟩
        show decide (cutT l (lo + (a - lo)) (lo + (a - lo) + x.length) = x) = true
        rw [show lo + (a - lo) = a by omega]
        exact decide_eq_true h2.symm
    rw [hst]
    have hnext : ((List.range (i + 1)).filter (stB l x)).map dN = if stB l x i = true then ((List.range i).filter (stB l x)).map dN ++ [dN i] else ((List.range i).filter (stB l x)).map dN := by
      rw [List.range_succ, List.filter_append, List.map_append]
      cases hz : stB l x i <;> simp [hz]
    rw [hnext]
    cases stB l x i with
    | true =>
      walk_at "kfb9d909a"
      rfl
    | false =>
      walk_at "kfb9d909a"
      try rfl
  rintro en rfl
  rw [upL_len, show ((l.length : Nat) : Int).toNat = l.length by omega]
  walk_at "k93490303"
  exact h _ (tch_list hx) (Nat.le_trans (List.length_filter_le _ _) (by simp))
theorem in_dNl {i : Nat} {ps : List Nat} : inUD false [.int i, .lst (ps.map dN)] = some (false, .bl (decide (i ∈ ps))) := by
  show inOp false [D.int (i : Int), .lst (ps.map dN)] = _
  have h : (ps.map dN).all flatS = true := by
    rw [List.all_eq_true]
    intro x hx
    obtain ⟨j, _, rfl⟩ := List.mem_map.mp hx
    rfl
  have h2 : ((ps.map dN).any fun y => eqS y (.int i)) = decide (i ∈ ps) := by
    rw [Bool.eq_iff_iff, List.any_eq_true, decide_eq_true_iff]
    constructor
    · rintro ⟨x, hx, e⟩
      obtain ⟨j, hj, rfl⟩ := List.mem_map.mp hx
      have e : ((j : Int) == (i : Int)) = true := e
      have : j = i := by
        have := eq_of_beq e
        omega
      exact this ▸ hj
    · intro hi
      exact ⟨dN i, List.mem_map.mpr ⟨i, hi, rfl⟩, by simp [dN, eqS]⟩
  simp only [inOp, h, h2, flatS, and_self, if_true, ne_false]
theorem fst_at {l x : T} (ha : ∃ a, a + x.length ≤ l.length ∧ x = cutT l a (a + x.length)) : ∃ a : Nat, fstAt l x 0 l.length = some a := by
  obtain ⟨a, h1, h2⟩ := ha
  cases e : fstAt l x 0 l.length with
  | some a => exact ⟨a, rfl⟩
  | none =>
    have := fstAt_none e a (Nat.zero_le _)
    unfold mAt at this
    rw [show (l.take (a + x.length)).drop a = x from h2.symm] at this
    simp at this
    omega
theorem lshows_ok {l : T} (hl : l.length ≤ 900) (hc : okT l) : ∀ (n j : Nat) (ps : List Nat) (d : D) {k : Out → Prop}, j < n → ps.length + j ≤ 900 → TR l j ps d → k (.ret false (.bl true) [.str (tx l), .lst (ps.map dN), .int (j : Nat), d]) → okO (phiN_lshows n [.str (tx l), .lst (ps.map dN), .int (j : Nat), d]) k
  | 0, j, ps, d, k, hj, _, _, _ => by omega
  | n + 1, j, ps, d, k, hj, hps, ht, h => by
    unfold phiN_lshows b_lshows
    have hpl : (ps.map dN).length = ps.length := List.length_map _
    obtain ⟨x, ts, brs, hmp, hd, hj2⟩ : ∃ x ts brs, MP l ps x ts ∧ d = .tup [.str (tx x), .lst brs] ∧ ((j = 0 ∧ brs = []) ∨ ∃ (j' : Nat) (prs : List (Nat × D)), j = j' + 1 ∧ prs.map Prod.fst = ts ∧ brs = prs.map (fun p => .tup [dN p.1, p.2]) ∧ ∀ p ∈ prs, TR l j' (ps ++ [p.1]) p.2) := by
      cases j with
      | zero =>
        obtain ⟨x, ts, h1, h2⟩ := ht
        exact ⟨x, ts, _, h1, h2, .inl ⟨rfl, rfl⟩⟩
      | succ j =>
        obtain ⟨x, ts, prs, h1, h2, h3, h4⟩ := ht
        exact ⟨x, ts, _, h1, h3, .inr ⟨j, prs, rfl, h2, rfl, h4⟩⟩
    obtain ⟨hne, hx1, hx2, htc, htl⟩ := hmp.some
    have hxo := hmp.okT hc
    subst hd
    obtain ⟨fa, hfa⟩ := fst_at (l := l) (x := x) (by
      obtain ⟨q, r, rfl⟩ := List.exists_cons_of_ne_nil hne
      obtain ⟨a, h1, h2, _⟩ := (htc.2 q).mp (by simp)
      exact ⟨a, h1, h2⟩)
    have hsd : ∀ ds : List D, ∀ y : D, stoD (R.sh y) = some y := fun _ _ => rfl
    walk_at "kfb9d909a"
    refine bj_f (fun z => by rw [z] at hx1; simp at hx1) ?_
    walk_at "kfb9d909a"
    refine okL_of find_2 ?_
    rw [hfa]
    walk_at "kfb9d909a"
    refine bj_f (by show ¬ ((fa : Int) < 0); omega) ?_
    walk_at "kfb9d909a"
    with_reducible refine ltouching_ok (by omega) hc hxo hx1 hx2 fun ts2 ht2 htl2 => ?_
    have e1 := ht2.uniq htc
    subst e1
    walk_at "kfb9d909a"
    refine ok_lcY (fun acc en => acc = List.replicate acc.length (D.bl false) ∧ en = [.v (.str (tx l)), .v (.lst (ps.map dN)), .v (.int (j : Nat)), .v (.tup [.str (tx x), .lst brs]), .v (.lst (ts2.map dN)), .e, .e, .e]) ⟨rfl, rfl⟩ (by rw [List.length_map]; omega) ?_ ?_
    · rintro i d hd acc en hi ⟨ha, rfl⟩
      rw [List.getElem?_map] at hd
      obtain ⟨q, hq, rfl⟩ := Option.map_eq_some_iff.mp hd
      rw [show dN q = D.int (q : Nat) from rfl]
      walk_at "kfb9d909a"
      refine okL_of in_dNl ?_
      rw [decide_eq_false (hmp.free q (List.mem_of_getElem? hq))]
      walk_at "kfb9d909a"
      rw [List.length_append, List.length_singleton, List.replicate_succ', ← ha]
    rintro acc en hlen ⟨ha, rfl⟩
    rw [ha]
    clear ha hlen
    walk_at "kfb9d909a"
    refine okL_of (any_rep _) ?_
    walk_at "kfb9d909a"
    rcases hj2 with ⟨rfl, rfl⟩ | ⟨j', prs, rfl, hpf, rfl, htr⟩
    · refine bj_t (by simp) ?_
      walk_at "kfb9d909a"
      refine okL_eqd (pq_nats []) (pq_nats []) ?_
      walk_at "kfb9d909a"
      exact h
    · refine bj_f (by omega) ?_
      have hprl : prs.length = ts2.length := by rw [← hpf, List.length_map]
      walk_at "kfb9d909a"
      refine os_ix (fun _ en => en = [.v (.str (tx l)), .v (.lst (ps.map dN)), .v (.int ((j' + 1 : Nat) : Int)), .v (.tup [.str (tx x), .lst (prs.map fun p => .tup [dN p.1, p.2])]), .v (.lst (ts2.map dN)), .e, .e, .e]) rfl ?_ ?_
      · rintro i d hd en rfl
        rw [List.getElem?_map] at hd
        obtain ⟨q, hq, rfl⟩ := Option.map_eq_some_iff.mp hd
        rw [show dN q.1 = D.int (q.1 : Nat) from rfl]
        walk_at "kfb9d909a"
      rintro en rfl
      walk_at "kfb9d909a"
      refine ok_lcY (fun acc en => acc = ((prs.take acc.length).map Prod.fst).map dN ∧ en = [.v (.str (tx l)), .v (.lst (ps.map dN)), .v (.int ((j' + 1 : Nat) : Int)), .v (.tup [.str (tx x), .lst (prs.map fun p => .tup [dN p.1, p.2])]), .v (.lst (ts2.map dN)), .e, .e, .e]) ⟨rfl, rfl⟩ (by rw [List.length_map]; omega) ?_ ?_
      · rintro i d hd acc en hi ⟨ha, rfl⟩
        rw [List.getElem?_map] at hd
        obtain ⟨q, hq, rfl⟩ := Option.map_eq_some_iff.mp hd
        subst hi
        walk_at "kfb9d909a"
        rw [List.length_append, List.length_singleton, List.take_succ, hq, List.map_append, List.map_append, ← ha]
        rfl
      rintro acc en hlen ⟨ha, rfl⟩
      rw [hlen, List.length_map, List.take_length, hpf] at ha
      rw [ha]
      clear ha hlen
      walk_at "kfb9d909a"
      refine okL_eqd (pq_nats _) (pq_nats _) ?_
      walk_at "kfb9d909a"
      refine ok_lcY (fun acc en => acc = List.replicate acc.length (D.bl true) ∧ en = [.v (.str (tx l)), .v (.lst (ps.map dN)), .v (.int ((j' + 1 : Nat) : Int)), .v (.tup [.str (tx x), .lst (prs.map fun p => .tup [dN p.1, p.2])]), .e, .e, .e, .e]) ⟨rfl, rfl⟩ (by rw [List.length_map]; omega) ?_ ?_
      · rintro i d hd acc en hi ⟨ha, rfl⟩
        rw [List.getElem?_map] at hd
        obtain ⟨q, hq, rfl⟩ := Option.map_eq_some_iff.mp hd
        walk_at "kfb9d909a"
        have e1 : D.lst (ps.map dN ++ [dN q.1]) = .lst ((ps ++ [q.1]).map dN) := by rw [List.map_append]; rfl
        rw [e1, show ((j' + 1 : Nat) : Int) - 1 = ((j' : Nat) : Int) by omega]
        refine lshows_ok hl hc n j' (ps ++ [q.1]) q.2 (by omega) (by rw [List.length_append, List.length_singleton]; omega) (htr q (List.mem_of_getElem? hq)) ?_
        walk_at "kfb9d909a"
        rw [List.length_append, List.length_singleton, List.replicate_succ', ← ha]
      rintro acc en hlen ⟨ha, rfl⟩
      rw [ha]
      clear ha hlen
      walk_at "kfb9d909a"
      refine okL_of (all_rep _ true) ?_
      walk_at "kfb9d909a"
      exact h
end PyD.S

end

namespace PyD.S
open PySem PySem.Spec L2
end PyD.S

section
set_option maxHeartbeats 4000000
namespace PyD.S
open PySem PySem.Spec L2 PyD.S
end PyD.S

end

section
set_option maxHeartbeats 4000000
namespace PyD.S
open PySem PySem.Spec L2 PyD.S
noncomputable def zs (qs : List Nat) : List Int := qs.map fun n : Nat => (n : Int)
theorem zs_len (qs : List Nat) : (zs qs).length = qs.length := List.length_map _
theorem asInts_nats : ∀ qs : List Nat, asInts (qs.map dN) = some (zs qs)
  | [] => rfl
  | q :: qs => by
    have := asInts_nats qs
    show asInts (D.int (q : Int) :: qs.map dN) = some ((q : Int) :: zs qs)
    unfold asInts
    rw [this]
    rfl
end PyD.S

end

namespace PyD.S
open PySem PySem.Spec L2
end PyD.S

namespace PyD.S
open PySem PySem.Spec L2
end PyD.S

section
set_option maxHeartbeats 2000000
namespace PyD.S
open PySem PySem.Spec L2 PyD.S
noncomputable instance (c : Nat) : Decidable (Lt c) := by unfold Lt; infer_instance
noncomputable def As (l : List Nat) : Prop := ∀ c ∈ l, c < 128
theorem Lts.as {l : List Nat} (h : Lts l) : As l := fun c hc => by have := h c hc; unfold Lt at this; omega
theorem As.ok {l : List Nat} (h : As l) : okT l := fun c hc => by have := h c hc; omega
end PyD.S

end

namespace PyD.S
open PySem PySem.Spec L2
end PyD.S

namespace PyD.S
open PySem PySem.Spec L2
end PyD.S

section
set_option maxHeartbeats 2000000
namespace PyD.S
open PySem PySem.Spec L2 PyD.S
theorem ssort_eq {ns : List Int} : ns = ssort ns ↔ ns.Pairwise (· < ·) := by
  have hs : (ssort ns).Pairwise (· < ·) := by
    unfold ssort
    have h1 : ((dedI ns).mergeSort leI).Pairwise fun a b => leI a b = true := List.pairwise_mergeSort leI_trans leI_total _
    have h2 : ((dedI ns).mergeSort leI).Nodup := (List.mergeSort_perm _ _).nodup_iff.mpr (dedI_nodup ns)
    refine (h1.and h2).imp fun {a b} ⟨x, y⟩ => ?_
    unfold leI at x
    rw [decide_eq_true_eq] at x
    omega
  have hm : ∀ k, k ∈ ssort ns ↔ k ∈ ns := fun k => by
    unfold ssort
    rw [(List.mergeSort_perm _ _).mem_iff, dedI_mem]
  constructor
  · intro e
    rw [e]
    exact hs
  · intro h
    have p : ns.Perm (ssort ns) := (List.perm_ext_iff_of_nodup (h.imp fun z => Int.ne_of_lt z) (hs.imp fun z => Int.ne_of_lt z)).mpr fun k => (hm k).symm
    exact p.eq_of_pairwise (le := fun a b => a ≤ b) (fun a b _ _ x y => Int.le_antisymm x y) (h.imp fun z => Int.le_of_lt z) (hs.imp fun z => Int.le_of_lt z)
end PyD.S

end

section
set_option maxHeartbeats 8000000
namespace PyD.S
open PySem PySem.Spec L2 PyD.S
theorem zs_rise {rs : List Nat} (h : rs.Pairwise (· < ·)) : (zs rs).Pairwise (· < ·) := by
  unfold zs
  exact List.pairwise_map.mpr (h.imp fun h => by omega)
theorem zs_map (rs : List Nat) : (zs rs).map D.int = rs.map dN := by
  unfold zs
  rw [List.map_map]
  rfl
theorem lshows10_ok {l : T} {j : Nat} {d : D} {k : Out → Prop} (hl : l.length ≤ 900) (hc : okT l) (hj : j < 14) (ht : TR l j [] d) (h : k (.ret false (.bl true) [.str (tx l), .lst (([] : List Nat).map dN), .int (j : Nat), d])) : okO (phi_lshows [.str (tx l), .lst (([] : List Nat).map dN), .int (j : Nat), d]) k :=
  lshows_ok hl hc 14 j [] d hj (by simp; omega) ht h
theorem LT.pos {j : Nat} {t : D} {ls : List Addr} (h : LT j t ls) : 1 ≤ ls.length := by
  cases j with
  | zero => obtain ⟨x, a, _, _, rfl⟩ := h; simp
  | succ j => obtain ⟨x, a, bs, _, _, rfl, _⟩ := h; simp
theorem llab10_ok {j : Nat} {t : D} {ls : List Addr} {k : Out → Prop} (hj : j < 14) (h : LT j t ls) (hb : ls.length ≤ 16000000) (hk : ∀ cs : List (Addr × D), cs.map Prod.fst = ls → k (.ret true (.lst (cs.map dA)) [t])) : okO (phi_llists [t]) k := llab_ok 14 j hj h hb hk
theorem lapp10_ok (a : Addr) {j : Nat} {t : D} {ls : List Addr} {k : Out → Prop} (hj : j < 14) (h : LT j t ls) (hb : ls.length ≤ 16000000) (hk : ∀ cs : List (Addr × List D), cs.map Prod.fst = ls → (∀ c ∈ cs, CN c.2 (decide (c.1 = a))) → k (.ret true (.lst (cs.map dL)) [appA a t])) : okO (phi_llists [appA a t]) k := lapp_ok a 14 j hj h hb hk
theorem lpick10_ok {R m : Int} {k : Out → Prop} (hm : 0 < m) (hm2 : m ≤ 1000000000) (h : ∀ r, 0 ≤ r → r < m → k (.ret false (.int r) [.lst [.int (R.fdiv m)], .int m])) : okO (phi_lpick [.lst [.int R], .int m]) k := by
  unfold phi_lpick b_lpick
  walk_at "ka57b6db6"
  refine ⟨hm, ⟨hm, log_ok hm (by omega)⟩, ?_⟩
  have := h _ (Int.emod_nonneg R (by omega)) (Int.emod_lt_of_pos R hm)
  rw [Int.fdiv_eq_ediv_of_nonneg _ (by omega)] at this
  exact this
theorem drop_cons10 {es : List (Addr × List D)} {n : Nat} {d : D} {ds : List D} (h : (es.drop n).map dL = d :: ds) : ∃ e, es[n]? = some e ∧ d = dL e ∧ ds = (es.drop (n + 1)).map dL := by
  obtain ⟨e, r, h1, h2, h3⟩ := List.map_eq_cons_iff.mp h
  have hn : es[n]? = some e := by
    have := congrArg (fun l : List (Addr × List D) => l[0]?) h1
    simpa using this
  refine ⟨e, hn, h2.symm, ?_⟩
  rw [← h3, ← List.drop_drop, h1]
  rfl
theorem nonIn10 {ds : List D} {b : Bool} (h : CN ds b) : nonInD [.non, .lst ds] = some (false, .bl b) := by
  obtain ⟨ps, h1, h2, h3⟩ := h
  show (match toPyL ds with | some ps => if PyData.canLayAll0 ps = true then some (false, D.bl (ps.any fun z => PyData.eqv z .none)) else none | none => none) = _
  rw [h1]
  dsimp only
  rw [if_pos h2, h3]
theorem TR.tup {l : T} {j : Nat} {ps : List Nat} {d : D} (h : TR l j ps d) : ∃ y, d = .tup y := by
  cases j with
  | zero => obtain ⟨x, ts, _, rfl⟩ := h; exact ⟨_, rfl⟩
  | succ j => obtain ⟨x, ts, prs, _, _, rfl, _⟩ := h; exact ⟨_, rfl⟩
theorem ok_law_k10_v2 (ns : List Int) (hl : ns.length ≤ 63) : ∃ outs, phi_law_k10_v2 [.scr ns] = .ret false (.bl true) outs := by
  have : okO (phi_law_k10_v2 [.scr ns]) fun o => ∃ outs, o = .ret false (.bl true) outs := by
    unfold phi_law_k10_v2 b_law_k10_v2
    have hmx := mxmn (a := 2) (b := 4) (n := ns.length) (by omega)
    walk_at "kcfa418b3"
    refine os_ix (fun i en => en = [.v (.scr ns), .e, .e, .e, .e, .e, .e, .e, .e]) rfl ?_ ?_
    · rintro i d hd en rfl
      obtain ⟨rfl, hlt⟩ := upL_get hd
      rw [Int.zero_add]
      walk_at "kcfa418b3"
      refine reel_ok (by omega) (by omega) fun p hp => ?_
      walk_at "ka57b6db6"
      refine rtext10_ok (m := 12) hp (by omega) (by omega) fun p l hp hl12 ⟨ls, hl4, hls, his⟩ => ?_
      have hll := his.lts hls
      have hlo := hll.ok
      have hl12 : l.length ≤ 12 := by omega
      walk_at "kcfa418b3"
      refine os_ix (fun _ en => ∃ p, Reel p ∧ en = [.v (.scr ns), .e, .o false p, .v (.str (tx l)), .e, .e, .e, .e, .e]) ⟨p, hp, rfl⟩ ?_ ?_
      · rintro i2 d2 hd2 en ⟨p, hp, rfl⟩
        obtain ⟨rfl, hlt2⟩ := upL_get hd2
        rw [Int.zero_add]
        walk_at "kcfa418b3"
        refine leastO_ok hl12 hlo (fun j rs hj hF => ?_) fun j rs t hj hF ht => ?_
        · obtain ⟨R, rfl⟩ := hp
          have hrl := hF.1
          have hj8 := hF.le hl12 hl4 his
          have hstrip : strip .non = .non := by unfold strip; rfl
          walk_at "k9de11942"
          first | refine ok_thawV rfl ?_ | refine ok_thaw rfl hstrip rfl ?_
          walk_at "k9de11942"
          walk_at "k9de11942"
          first | refine ok_thawV rfl ?_ | refine ok_thaw rfl hstrip rfl ?_
          walk_at "k9de11942"
          refine bj_t (by rw [List.length_map]; omega) ?_
          walk_at "k9de11942"
          first | refine ok_thawV rfl ?_ | refine ok_thaw rfl hstrip rfl ?_
          walk_at "k9de11942"
          refine okL_of (ss_tup (asInts_nats rs) (by rw [zs_len]; omega)) ?_
          rw [← ssort_eq.mpr (zs_rise hF.2.1), zs_map]
          walk_at "ka57b6db6"
          refine okL_eqd (pq_nats _) (pq_nats _) ?_
          walk_at "k9de11942"
          first | refine ok_thawV rfl ?_ | refine ok_thaw rfl hstrip rfl ?_
          walk_at "k9de11942"
          refine ok_lcY (fun acc en => acc = List.replicate acc.length (D.bl true) ∧ en = [.v (.scr ns), .e, .o false (.lst [.int R]), .v (.str (tx l)), .e, .v (.tup [.int (j : Nat), .tup (rs.map dN), .non]), .e, .e, .e]) ⟨rfl, rfl⟩ (by rw [List.length_map]; omega) ?_ ?_
          · rintro i d hd acc en hi ⟨ha, rfl⟩
            rw [List.getElem?_map] at hd
            obtain ⟨q, hq, rfl⟩ := Option.map_eq_some_iff.mp hd
            have hql := hF.2.2.1 q (List.mem_of_getElem? hq)
            rw [show dN q = D.int (q : Nat) from rfl]
            walk_at "k9de11942"
            rw [decide_eq_true (by omega), List.length_append, List.length_singleton, List.replicate_succ', ← ha]
          rintro acc en hlen ⟨ha, rfl⟩
          walk_at "k9de11942"
          rw [ha]
          refine okL_of (all_rep _ _) ?_
          walk_at "k9de11942"
          first | refine ok_thawV rfl ?_ | refine ok_thaw rfl hstrip rfl ?_
          walk_at "k9de11942"
          refine lmissed_ok (by omega) (by omega) hlo fun r hr => ?_
          obtain rfl : r = none := hr.uniq (show FM l rs none from fun m h1 h2 x => hF.2.2.2.1 m h1 h2 x)
          rw [dO_n]
          walk_at "k9de11942"
          rw [decide_eq_true (by omega)]
          refine okL_of (show eqD (.bl true) (.bl true) = some true from rfl) ?_
          walk_at "k9de11942"
          first | refine ok_thawV rfl ?_ | refine ok_thaw rfl hstrip rfl ?_
          walk_at "k9de11942"
          exact ⟨_, ⟨R, rfl⟩, rfl⟩
        · obtain ⟨R, rfl⟩ := hp
          have hrl := hF.1
          have hj8 := hF.le hl12 hl4 his
          have hTR := ht.tr
          obtain ⟨y, hy⟩ := hTR.tup
          rw [hy] at hTR
          have hstrip : strip (.ow (.tup [.int (j : Nat), .tup (rs.map dN), .ow t])) = .tup [.int (j : Nat), .tup (rs.map dN), .tup y] := by
            simp only [strip, stripL, stripL_nats, hy]
          walk_at "k9de11942"
          first | refine ok_thawV rfl ?_ | refine ok_thaw rfl hstrip rfl ?_
          walk_at "k9de11942"
          walk_at "k9de11942"
          first | refine ok_thawV rfl ?_ | refine ok_thaw rfl hstrip rfl ?_
          walk_at "k9de11942"
          refine bj_t (by rw [List.length_map]; omega) ?_
          walk_at "k9de11942"
          first | refine ok_thawV rfl ?_ | refine ok_thaw rfl hstrip rfl ?_
          walk_at "k9de11942"
          refine okL_of (ss_tup (asInts_nats rs) (by rw [zs_len]; omega)) ?_
          rw [← ssort_eq.mpr (zs_rise hF.2.1), zs_map]
          walk_at "ka57b6db6"
          refine okL_eqd (pq_nats _) (pq_nats _) ?_
          walk_at "k9de11942"
          first | refine ok_thawV rfl ?_ | refine ok_thaw rfl hstrip rfl ?_
          walk_at "k9de11942"
          refine ok_lcY (fun acc en => acc = List.replicate acc.length (D.bl true) ∧ en = [.v (.scr ns), .e, .o false (.lst [.int R]), .v (.str (tx l)), .e, .v (.tup [.int (j : Nat), .tup (rs.map dN), .tup y]), .e, .e, .e]) ⟨rfl, rfl⟩ (by rw [List.length_map]; omega) ?_ ?_
          · rintro i d hd acc en hi ⟨ha, rfl⟩
            rw [List.getElem?_map] at hd
            obtain ⟨q, hq, rfl⟩ := Option.map_eq_some_iff.mp hd
            have hql := hF.2.2.1 q (List.mem_of_getElem? hq)
            rw [show dN q = D.int (q : Nat) from rfl]
            walk_at "k9de11942"
            rw [decide_eq_true (by omega), List.length_append, List.length_singleton, List.replicate_succ', ← ha]
          rintro acc en hlen ⟨ha, rfl⟩
          walk_at "k9de11942"
          rw [ha]
          refine okL_of (all_rep _ _) ?_
          walk_at "k9de11942"
          first | refine ok_thawV rfl ?_ | refine ok_thaw rfl hstrip rfl ?_
          walk_at "k9de11942"
          refine lmissed_ok (by omega) (by omega) hlo fun r hr => ?_
          obtain rfl : r = none := hr.uniq (show FM l rs none from fun m h1 h2 x => hF.2.2.2.1 m h1 h2 x)
          rw [dO_n]
          walk_at "k9de11942"
          rw [decide_eq_false (by omega)]
          refine okL_of (show eqD (.bl false) (.bl false) = some true from rfl) ?_
          walk_at "k9de11942"
          first | refine ok_thawV rfl ?_ | refine ok_thaw rfl hstrip rfl ?_
          walk_at "k9de11942"
          walk_at "k9de11942"
          first | refine ok_thawV rfl ?_ | refine ok_thaw rfl hstrip rfl ?_
          walk_at "k9de11942"
          rw [show ((j : Nat) : Int) - 1 = ((j - 1 : Nat) : Int) by omega, show D.lst [] = .lst (([] : List Nat).map dN) from rfl]
          refine lshows10_ok (by omega) hlo (by omega) hTR ?_
          walk_at "k9de11942"
          have hnl : nLs t ≤ 5000000 := by
            have := ht.n (by simp) (by simp)
            exact Nat.le_trans this (TB_le (j - 1) (by omega) _ (by simp; omega))
          have hnd0 : nLs (.ow (.tup [.int (j : Nat), .tup (rs.map dN), .ow t])) = nLs t := by
            simp only [nLs, nLsL, nLsV, Nat.zero_add, Nat.add_zero]
          have hpop : popG 2 5 [.v (.scr ns), .e, .o false (.lst [.int R]), .v (.str (tx l)), .e, .o false (.ow (.tup [.int (j : Nat), .tup (rs.map dN), .ow t])), .e, .e, .e] = [.v (.scr ns), .e, .o false (.lst [.int (R.fdiv (nLs t : Nat))]), .v (.str (tx l)), .e, .e, .e, .e, .e] := by
            rw [← hnd0]
            rfl
          refine os_blk rfl ?_ (fun dl lsb hlab hnd => ?_) ?_
          · simp only [okC, okCL, okCV, flatD, flatL_nats, ht.ok hl12, Bool.and_self]
          · rw [hpop]
            simp only [LabC, LabL, LabV] at hlab
            obtain ⟨ds, rfl, dl1, r1, k1, k2, rfl, ⟨rfl, rfl⟩, ⟨dl2, r2, k3, k4, rfl, ⟨rfl, rfl⟩, ⟨tl, r3, k5, k6, rfl, hlt, ⟨rfl, rfl⟩, rfl⟩, rfl⟩, rfl⟩ := hlab
            have hk5 := labC_n hlt
            have hLT := ht.lab hl12 hlo hlt
            rw [List.nil_append, List.nil_append, List.append_nil] at hnd ⊢
            have hpos := hLT.pos
            walk_at "k9de11942"
            refine llab10_ok (by omega) hLT (by omega) fun cs hcs => ?_
            walk_at "k9de11942"
            have hcl : (cs.map dA).length = nLs t := by rw [List.length_map, ← hk5, ← hcs, List.length_map]
            refine os_ap ?_
            walk_at "k9de11942"
            rw [hcl]
            refine lpick10_ok (by omega) (by omega) fun r hr0 hr1 => ?_
            walk_at "k9de11942"
            refine okL_at hr0 (by omega) fun x hx => ?_
            rw [List.getElem?_map] at hx
            obtain ⟨c, hc, rfl⟩ := Option.map_eq_some_iff.mp hx
            walk_at "k9de11942"
            refine ⟨c.1, c.2, rfl, by rw [← hcs]; exact List.mem_map.mpr ⟨c, List.mem_of_getElem? hc, rfl⟩, rfl, ⟨_, rfl⟩, rfl, ?_⟩
            have happ : appA c.1 (.tup [.int (j : Nat), .tup (rs.map dN), tl]) = .tup [.int (j : Nat), .tup (rs.map dN), appA c.1 tl] := by
              simp only [appA, appAL, appAL_flat (flatL_nats rs)]
            rw [happ]
            have hone := one_of hnd (show c.1 ∈ k5 by rw [← hcs]; exact List.mem_map.mpr ⟨c, List.mem_of_getElem? hc, rfl⟩)
            walk_at "k9de11942"
            refine lapp10_ok c.1 (by omega) hLT (by omega) fun es hes hec => ?_
            walk_at "k9de11942"
            have hcnt : (es.filter fun b => decide (b.1 = c.1)).length = 1 := by
              rw [← hone, ← hes, List.filter_map, List.length_map]
              rfl
            refine ok_lcL (fun _ ds acc en => ∃ n, ds = (es.drop n).map dL ∧ acc.length = ((es.take n).filter fun b => decide (b.1 = c.1)).length ∧ en = [.v (.scr ns), .e, .o false (.lst [.int (R.fdiv (nLs t : Nat))]), .v (.str (tx l)), .e, .v (.tup [.int (j : Nat), .tup (rs.map dN), appA c.1 tl]), .e, .e, .e]) _ [] [] _ ⟨0, rfl, rfl, rfl⟩ ?_ ?_
            · rintro pre d ds acc en ⟨n, hds, hacc, rfl⟩
              obtain ⟨e, hen, rfl, hds'⟩ := drop_cons10 hds.symm
              have hle := ((List.take_sublist n es).filter fun b => decide (b.1 = c.1)).length_le
              have htk : (es.take (n + 1)).filter (fun b => decide (b.1 = c.1)) = (es.take n).filter (fun b => decide (b.1 = c.1)) ++ if decide (e.1 = c.1) = true then [e] else [] := by
                rw [List.take_succ, hen, List.filter_append]
                congr 1
                show List.filter _ [e] = _
                rw [List.filter_cons, List.filter_nil]
              have hnon := nonIn10 (hec e (List.mem_of_getElem? hen))
              rw [show dL e = D.lst e.2 from rfl]
              walk_at "k9de11942"
              refine okL_of hnon ?_
              walk_at "k9de11942"
              refine bj_mk (fun h => ?_) (fun h => ?_)
              · walk_at "k9de11942"
                refine ⟨n + 1, hds', ?_⟩
                rw [htk, if_pos (decide_eq_true h), List.length_append, List.length_append, hacc]
                rfl
              · walk_at "k9de11942"
                refine ⟨n + 1, hds', ?_⟩
                rw [htk, if_neg (by simpa using h), List.append_nil]
                exact hacc
            · rintro pre acc en ⟨n, hds, hacc, rfl⟩
              have hdr : es.drop n = [] := List.map_eq_nil_iff.mp hds.symm
              have htk : es.take n = es := by
                have := List.take_append_drop n es
                rw [hdr, List.append_nil] at this
                exact this
              rw [htk, hcnt] at hacc
              walk_at "k9de11942"
          · rw [hpop]
            walk_at "k9de11942"
            exact ⟨_, ⟨_, rfl⟩, rfl⟩
      rintro en ⟨p, hp, rfl⟩
      walk_at "kcfa418b3"
    rintro en rfl
    walk_at "kcfa418b3"
    exact ⟨_, rfl⟩
  revert this
  cases phi_law_k10_v2 [.scr ns] with
  | bad => exact fun h => h.elim
  | ret b d o => exact fun h => h
  | exc e o => exact fun h => h
end PyD.S

end

open PySem PySem.W PyProof.Rows in
set_option maxHeartbeats 0 in
theorem PySem.Challenge.cw_touchpin_k10_least_with_a_tree_holds : PySem.Challenge.rw_touchpin_k10_least_with_a_tree.Holds := by
  w_on; o_law; k_head; (case hw => w_witness2)
  k_fill
  refine L2.walk_of (l := PySem.Challenge.rw_touchpin_k10_least_with_a_tree) (n := 63) (k := 18) (x := "script") (CX := fun w => L2.CX PySem.Challenge.rw_touchpin_k10_least_with_a_tree.prog w) (sp := fun w => PyD.spD _ [false] PyD.S.phi_law_k10_v2) rfl (by decide) rfl ⟨rfl, by decide, by decide⟩ (fun w h Y => PySem.W.kIn_of Y) ?F (fun _ _ a ns hl hO hS => PyD.law_end (PyD.S.ok_law_k10_v2 ns hl) hO hS) (fun w H s e s' h => PyD.law_cx w H s e s' h)
  case F =>
    intro w mg fa h KX G hmg
    refine' PyD.k10.all_mk KX G hmg ?a0 ?l0 ?c0 ?k0 ?a1 ?l1 ?c1 ?k1 ?a2 ?l2 ?c2 ?k2 ?a3 ?l3 ?c3 ?k3 ?a4 ?l4 ?c4 ?k4 ?a5 ?l5 ?c5 ?k5 ?a6 ?l6 ?c6 ?k6 ?a7 ?l7 ?c7 ?k7 ?a8 ?l8 ?c8 ?k8 ?a9 ?l9 ?c9 ?k9 ?a10 ?l10 ?c10 ?k10 ?a11 ?l11 ?c11 ?k11 ?a12 ?l12 ?c12 ?k12 ?a13 ?l13 ?c13 ?k13 ?a14 ?l14 ?c14 ?k14 ?a15 ?l15 ?c15 ?k15 ?z0 ?z1 ?z2 ?z3 ?z4 ?z5 ?z6 ?z7 ?z8 ?z9 ?z10 ?z11 ?z12 ?z13 ?q0
    (case a0 => k_is); (case l0 => k_is); (case c0 => k_is); (case k0 => k_is); (case a1 => k_is); (case l1 => k_is); (case c1 => k_is); (case k1 => k_is); (case a2 => k_is); (case l2 => k_is); (case c2 => k_is); (case k2 => k_is); (case a3 => k_is); (case l3 => k_is); (case c3 => k_is); (case k3 => k_is); (case a4 => k_is); (case l4 => k_is); (case c4 => k_is); (case k4 => k_is); (case a5 => k_is); (case l5 => k_is); (case c5 => k_is); (case k5 => k_is); (case a6 => k_is); (case l6 => k_is); (case c6 => k_is); (case k6 => k_is); (case a7 => k_is); (case l7 => k_is); (case c7 => k_is); (case k7 => k_is); (case a8 => k_is); (case l8 => k_is); (case c8 => k_is); (case k8 => k_is); (case a9 => k_is); (case l9 => k_is); (case c9 => k_is); (case k9 => k_is); (case a10 => k_is); (case l10 => k_is); (case c10 => k_is); (case k10 => k_is); (case a11 => k_is); (case l11 => k_is); (case c11 => k_is); (case k11 => k_is); (case a12 => k_is); (case l12 => k_is); (case c12 => k_is); (case k12 => k_is); (case a13 => k_is); (case l13 => k_is); (case c13 => k_is); (case k13 => k_is); (case a14 => k_is); (case l14 => k_is); (case c14 => k_is); (case k14 => k_is); (case a15 => k_is); (case l15 => k_is); (case c15 => k_is); (case k15 => k_is); (case z0 => k_is); (case z1 => k_is); (case z2 => k_is); (case z3 => k_is); (case z4 => k_is); (case z5 => k_is); (case z6 => k_is); (case z7 => k_is); (case z8 => k_is); (case z9 => k_is); (case z10 => k_is); (case z11 => k_is); (case z12 => k_is); (case z13 => k_is); (case q0 => k_is)
